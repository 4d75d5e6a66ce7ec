/- The plain law of PartsTables: a mapped unit is within its bounds, and its registers are written as they were read. No condition. -/
import Derived.Test.YtmlhdepemeodkaaRR
namespace Go.Proofs.Ytmlhdepemeodkaa.A
open Go Go.RowKit
set_option linter.unusedSimpArgs false
set_option linter.unusedVariables false
def PG (R : Ar) (o : Nat) : Prop := (0 ≤ R.f o ∧ R.f o ≤ 4095) ∧ (0 ≤ R.f (o + 1) ∧ R.f (o + 1) ≤ 128) ∧ 0 ≤ R.f (o + 2) ∧ R.f (o + 2) ≤ 2
theorem row_ok {s c : Int} (hs : 0 ≤ s ∧ s ≤ 4096) (hc : 0 ≤ c ∧ c ≤ 4096) (hm : mapOk s c) : ∀ k, (∀ q, q < 8 → PG (row s c k) (q * 4)) ∧ ∀ i, (row s c k).x i = false
  | 0 => ⟨fun q _ => by unfold PG row az; simp, fun i => rfl⟩
  | k + 1 => by
    obtain ⟨h1, h2⟩ := row_ok hs hc hm k
    obtain ⟨m1, m2⟩ := hm
    rw [row_eq]
    by_cases hp : 0 < rm c k
    · rw [if_pos hp]
      have hr := rm_bd ⟨hc.1, m1⟩ k
      have hb := bs_bd hs ⟨hc.1, m1⟩ m2 k
      have hn : 0 < mn (rm c k) ∧ mn (rm c k) ≤ 128 := by unfold mn; split <;> omega
      refine ⟨fun q hq => ?_, fun i => ?_⟩
      · have h := h1 q hq
        unfold PG up at *
        by_cases e : q = k
        · subst e
          have a0 : q * 4 ≤ q * 4 ∧ q * 4 < q * 4 + 4 := by omega
          have a1 : q * 4 ≤ q * 4 + 1 ∧ q * 4 + 1 < q * 4 + 4 := by omega
          have a2 : q * 4 ≤ q * 4 + 2 ∧ q * 4 + 2 < q * 4 + 4 := by omega
          simp only [if_pos a0, if_pos a1, if_pos a2, Nat.sub_self, Nat.add_sub_cancel_left, pgA]
          simp
          omega
        · have a0 : ¬ (k * 4 ≤ q * 4 ∧ q * 4 < k * 4 + 4) := by omega
          have a1 : ¬ (k * 4 ≤ q * 4 + 1 ∧ q * 4 + 1 < k * 4 + 4) := by omega
          have a2 : ¬ (k * 4 ≤ q * 4 + 2 ∧ q * 4 + 2 < k * 4 + 4) := by omega
          simp only [if_neg a0, if_neg a1, if_neg a2]
          exact h
      · unfold up; simp only
        split
        · rfl
        · exact h2 i
    · rw [if_neg hp]; exact ⟨h1, h2⟩
theorem mapU_f (u : Ar) (s c : Int) (i : Nat) (h : i < 32) : (mapU u s c).f (33 + i) = (row s c 8).f i := by
  unfold mapU up; simp only; rw [if_pos (by omega), Nat.add_sub_cancel_left]
theorem mapU_x (u : Ar) (s c : Int) (i : Nat) (h : i < 32) : (mapU u s c).x (33 + i) = (row s c 8).x i := by
  unfold mapU up; simp only; rw [if_pos (by omega), Nat.add_sub_cancel_left]
theorem mapU_fo (u : Ar) (s c : Int) (i : Nat) (h : i < 33 ∨ 65 ≤ i) : (mapU u s c).f i = u.f i := by
  unfold mapU up; simp only; rw [if_neg (by omega)]
theorem mapU_x0 (u : Ar) (s c : Int) : (mapU u s c).x 0 = u.x 0 := by
  unfold mapU up; simp
theorem mapU_pg {u : Ar} {s c : Int} (hs : 0 ≤ s ∧ s ≤ 4096) (hc : 0 ≤ c ∧ c ≤ 4096) (hm : mapOk s c) (k : Nat) (hk : k < 8) : PG (mapU u s c) (33 + k * 4) ∧ (mapU u s c).x (33 + k * 4 + 3) = false := by
  obtain ⟨h1, h2⟩ := row_ok hs hc hm 8
  have h := h1 k hk
  refine ⟨?_, ?_⟩
  · unfold PG at *
    rw [Nat.add_assoc 33, Nat.add_assoc 33, mapU_f u s c _ (by omega), mapU_f u s c _ (by omega), mapU_f u s c _ (by omega)]
    exact h
  · rw [Nat.add_assoc 33, mapU_x u s c _ (by omega)]; exact h2 _
theorem mapU_right {u : Ar} {s c : Int} (hu : RU u) (hs : 0 ≤ s ∧ s ≤ 4096) (hc : 0 ≤ c ∧ c ≤ 4096) (hm : mapOk s c) : RU (mapU u s c) := by
  refine ⟨fun k hk => ?_, ?_⟩
  · by_cases h : k < 8
    · have := hu.1 k hk
      unfold VP at *
      rw [mapU_fo u s c _ (by omega), mapU_fo u s c _ (by omega), mapU_fo u s c _ (by omega)]; exact this
    · have := (mapU_pg (u := u) hs hc hm (k - 8) (by omega)).1
      rw [show 33 + (k - 8) * 4 = 1 + k * 4 by omega] at this
      exact this
  · rw [mapU_fo u s c _ (by omega), mapU_fo u s c _ (by omega)]; exact hu.2
theorem akey : ∀ a : Fin 64, ∀ b : Fin 64, Go.bits .and .i64 (((a.1 : Nat) : Int) * 64 + ((b.1 : Nat) : Int)) 4095 = ((a.1 : Nat) : Int) * 64 + ((b.1 : Nat) : Int) := by decide +kernel
theorem and4095 (b : Int) (h : 0 ≤ b ∧ b ≤ 4095) : Go.bits .and .i64 b 4095 = b := by
  have := akey ⟨(b / 64).toNat, by omega⟩ ⟨(b % 64).toNat, by omega⟩
  simp only [Int.toNat_of_nonneg (show 0 ≤ b / 64 by omega), Int.toNat_of_nonneg (show 0 ≤ b % 64 by omega)] at this
  rw [show b / 64 * 64 + b % 64 = b by omega] at this
  exact this
theorem dkey : ∀ l : Fin 129, ∀ a : Fin 3, Go.bits .and .i64 (Go.bits .or .i64 (Go.bits .or .i64 ((l.1 : Nat) : Int) (IntKind.i64.wrap (((a.1 : Nat) : Int) * 256))) 0) 255 = ((l.1 : Nat) : Int) ∧ Go.bits .and .i64 ((Go.bits .or .i64 (Go.bits .or .i64 ((l.1 : Nat) : Int) (IntKind.i64.wrap (((a.1 : Nat) : Int) * 256))) 0) / 256) 3 = ((a.1 : Nat) : Int) := by decide +kernel
theorem dw_ok {g : Ar} (h1 : 0 ≤ g.f 1 ∧ g.f 1 ≤ 128) (h2 : 0 ≤ g.f 2 ∧ g.f 2 ≤ 2) : Go.bits .and .i64 (dw g) 255 = g.f 1 ∧ Go.bits .and .i64 (dw g / 256) 3 = g.f 2 := by
  have := dkey ⟨(g.f 1).toNat, by omega⟩ ⟨(g.f 2).toNat, by omega⟩
  simp only [Int.toNat_of_nonneg h1.1, Int.toNat_of_nonneg h2.1] at this
  exact this
/-- What the two writes of a round leave. -/
def wr2 (y : Ar) (k : Nat) (b l a : Int) : Ar := sx (sf (sf (sf y (33 + k * 4) b) (33 + k * 4 + 1) l) (33 + k * 4 + 2) a) (33 + k * 4 + 3) false
def Same (x y : Ar) (k : Nat) : Prop := ∀ i, i < k * 4 → cv 0 y (33 + i) = cv 0 x (33 + i)
theorem same_step {x y : Ar} {k : Nat} (h : Same x y k) (hx : x.x (33 + k * 4 + 3) = false) : Same x (wr2 y k (x.f (33 + k * 4)) (x.f (33 + k * 4 + 1)) (x.f (33 + k * 4 + 2))) (k + 1) := by
  intro i hi
  unfold wr2
  rw [cv_sx _ _ (by omega), cv_sf _ _ (by omega), cv_sf _ _ (by omega), cv_sf _ _ (by omega)]
  by_cases e3 : 33 + i = 33 + k * 4 + 3
  · rw [if_pos e3, e3]; unfold cv; rw [if_pos (by omega), hx]
  · rw [if_neg e3]
    by_cases e2 : 33 + i = 33 + k * 4 + 2
    · rw [if_pos e2, e2]; unfold cv; rw [if_neg (by omega)]
    · rw [if_neg e2]
      by_cases e1 : 33 + i = 33 + k * 4 + 1
      · rw [if_pos e1, e1]; unfold cv; rw [if_neg (by omega)]
      · rw [if_neg e1]
        by_cases e0 : 33 + i = 33 + k * 4
        · rw [if_pos e0, e0]; unfold cv; rw [if_neg (by omega)]
        · rw [if_neg e0]; exact h i (by omega)
theorem same_all {x y : Ar} (h : Same x y 8) : arr 32 1 (sh y 33) = arr 32 1 (sh x 33) := arr_congr fun j hj => by
  rw [cv_sh (p := 0) y (by omega), cv_sh (p := 0) x (by omega)]; exact h j (by omega)
end Go.Proofs.Ytmlhdepemeodkaa.A
