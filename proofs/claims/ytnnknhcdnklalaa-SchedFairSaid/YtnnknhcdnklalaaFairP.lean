/- Going round a table of eight: whoever is ready is chosen once in each round. Plain facts on numbers; no condition. -/
import Derived.Test.YtnnknhcdnklalaaF2
namespace Go.Proofs.Ytnnknhcdnklalaa.A
open Go Go.RowKit
theorem scan_congr {p q : Nat → Bool} (s : Nat) : ∀ n, (∀ i, i < 8 → p i = q i) → scan p s n = scan q s n
  | 0, _ => rfl
  | n + 1, h => by
    unfold scan
    rw [h _ (Nat.mod_lt _ (by decide)), scan_congr s n h]
def maskOf (rb : Nat → Bool) : Nat := (rb 0).toNat + 2 * (rb 1).toNat + 4 * (rb 2).toNat + 8 * (rb 3).toNat + 16 * (rb 4).toNat + 32 * (rb 5).toNat + 64 * (rb 6).toNat + 128 * (rb 7).toNat
theorem mask_all : ∀ b0 b1 b2 b3 b4 b5 b6 b7 : Bool, (b0.toNat + 2 * b1.toNat + 4 * b2.toNat + 8 * b3.toNat + 16 * b4.toNat + 32 * b5.toNat + 64 * b6.toNat + 128 * b7.toNat < 256) ∧
    [b0, b1, b2, b3, b4, b5, b6, b7] = (List.range 8).map (b0.toNat + 2 * b1.toNat + 4 * b2.toNat + 8 * b3.toNat + 16 * b4.toNat + 32 * b5.toNat + 64 * b6.toNat + 128 * b7.toNat).testBit := by decide +kernel
theorem mask_ex (rb : Nat → Bool) : ∃ m, m < 256 ∧ ∀ i, i < 8 → rb i = m.testBit i := by
  obtain ⟨h1, h2⟩ := mask_all (rb 0) (rb 1) (rb 2) (rb 3) (rb 4) (rb 5) (rb 6) (rb 7)
  refine ⟨maskOf rb, h1, fun i hi => ?_⟩
  have h := congrArg (fun l : List Bool => l[i]?) h2
  simp only [List.getElem?_map, List.getElem?_range hi, Option.map_some] at h
  have e : [rb 0, rb 1, rb 2, rb 3, rb 4, rb 5, rb 6, rb 7][i]? = some (rb i) := by
    match i, hi with
    | 0, _ => rfl
    | 1, _ => rfl
    | 2, _ => rfl
    | 3, _ => rfl
    | 4, _ => rfl
    | 5, _ => rfl
    | 6, _ => rfl
    | 7, _ => rfl
    | i + 8, h => exact absurd h (by omega)
  rw [e] at h
  exact Option.some.inj h
def stepR (m : Nat) (x : Nat × List Nat) : Nat × List Nat := ((scan m.testBit x.1 8).toNat + 1, x.2.set (scan m.testBit x.1 8).toNat (x.2.getD (scan m.testBit x.1 8).toNat 0 + 1))
def iterR (m s : Nat) : Nat → Nat × List Nat
  | 0 => (s, [0, 0, 0, 0, 0, 0, 0, 0])
  | j + 1 => stepR m (iterR m s j)
def rdL (m k : Nat) : List Nat := (List.range k).filter m.testBit
theorem rdL_succ (m k : Nat) : rdL m (k + 1) = if m.testBit k then rdL m k ++ [k] else rdL m k := by
  unfold rdL; rw [List.range_succ, List.filter_append]
  cases h : m.testBit k <;> simp [h]
theorem rdL_len (m k : Nat) : (rdL m k).length ≤ k := by have := List.length_filter_le m.testBit (List.range k); simpa [rdL] using this
theorem fair_end : ∀ m, m < 256 → m ≠ 0 → ∀ s, s < 9 → (iterR m s (2 * (rdL m 8).length)).2 = (List.range 8).map (fun i => if m.testBit i then 2 else 0) := by decide +kernel
theorem fair_go : ∀ m, m < 256 → m ≠ 0 → ∀ s, s < 9 → 0 ≤ scan m.testBit s 8 ∧ scan m.testBit s 8 < 8 := by decide +kernel
theorem fair_no : ∀ s, s < 9 → scan (Nat.testBit 0) s 8 = -1 := by decide +kernel
theorem fair_betweenB : ∀ m, m < 256 → ∀ a, a < 8 → ∀ i, i < 8 → ((!(m.testBit i) || !(decide (a < i))) || (decide (scan m.testBit (a + 1) 8 ≤ (i : Int)) || decide (scan m.testBit (a + 1) 8 ≤ (a : Int)))) = true := by decide +kernel
theorem fair_between (m : Nat) (hm : m < 256) (a : Nat) (ha : a < 8) (i : Nat) (hi : i < 8) (hb : m.testBit i = true) (hai : a < i) : scan m.testBit (a + 1) 8 ≤ (i : Int) ∨ scan m.testBit (a + 1) 8 ≤ (a : Int) := by
  have h := fair_betweenB m hm a ha i hi
  simpa [hb, hai] using h
theorem pop0 : ∀ m, m < 256 → (m = 0 ↔ (rdL m 8).length = 0) := by decide +kernel
theorem start_lt (a : Int) : start a < 9 := by unfold start; split <;> omega
theorem iter_len (m s : Nat) : ∀ j, (iterR m s j).2.length = 8
  | 0 => rfl
  | j + 1 => by unfold iterR stepR; simp [iter_len m s j]
theorem iter_small (m s : Nat) : ∀ j i, (iterR m s j).2.getD i 0 ≤ j
  | 0, i => by
    match i with
    | 0 => exact Nat.le_refl _
    | 1 => exact Nat.le_refl _
    | 2 => exact Nat.le_refl _
    | 3 => exact Nat.le_refl _
    | 4 => exact Nat.le_refl _
    | 5 => exact Nat.le_refl _
    | 6 => exact Nat.le_refl _
    | 7 => exact Nat.le_refl _
    | i + 8 => simp [iterR]
  | j + 1, i => by
    unfold iterR stepR
    have h := iter_small m s j
    simp only [List.getD_eq_getElem?_getD, List.getElem?_set] at h ⊢
    split
    · split
      · have := h (scan m.testBit (iterR m s j).1 8).toNat; simp; omega
      · simp
    · have := h i; omega
theorem iter_fst (m s : Nat) (hm : m < 256) (h0 : m ≠ 0) (hs : s < 9) : ∀ j, (iterR m s j).1 < 9
  | 0 => hs
  | j + 1 => by
    unfold iterR stepR
    have := fair_go m hm h0 _ (iter_fst m s hm h0 hs j)
    simp only; omega
end Go.Proofs.Ytnnknhcdnklalaa.A
