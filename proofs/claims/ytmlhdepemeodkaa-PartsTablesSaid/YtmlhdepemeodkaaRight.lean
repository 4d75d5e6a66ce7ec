/- mmu.Right answers true for a unit whose pages, status and address are within their bounds (RU). Condition: RU. -/
import Derived.Test.YtmlhdepemeodkaaFns
namespace Go.Proofs.Ytmlhdepemeodkaa.A
open Go Go.RowKit
set_option linter.unusedSimpArgs false
set_option linter.unusedVariables false
theorem extract_arr {n p s q o : Nat} (u : Ar) (hs : o + s ≤ n) (hq : q = (p + o) % 4) : (arr n p u).extract o (o + s) = arr s q (sh u o) := by
  refine arr_ext (by simp [arr_size]; omega) fun j hj => ?_
  rw [Array.getElem?_extract, arr_size, if_pos (by omega), arr_get _ _ (by omega), cv_sh u hq]
theorem part24 {n p o : Nat} (u : Ar) (hs : o + 32 ≤ n) (hq : 1 = (p + o) % 4) (w : World) : (part 24 (arr n p u) o).run Try.prog w = .ok (.agg (arr 32 1 (sh u o))) w := by
  unfold part
  simp only [Sem.run_bind, Try.isAgg24, Result.andThen_ok, if_true, Try.sizeOf24, Sem.run_pure]
  rw [extract_arr u hs hq]
theorem part23 {n p o : Nat} (u : Ar) (hs : o + 4 ≤ n) (hq : 1 = (p + o) % 4) (w : World) : (part 23 (arr n p u) o).run Try.prog w = .ok (.agg (arr 4 1 (sh u o))) w := by
  unfold part
  simp only [Sem.run_bind, Try.isAgg23, Result.andThen_ok, if_true, Try.sizeOf23, Sem.run_pure]
  rw [extract_arr u hs hq]
theorem index25 (u : Ar) (k : Nat) (hk : k < 2) (w : World) : (Instr.index 25 (.agg (arr 64 1 u)) (.int .i64 k)).run Try.prog w = .ok (.agg (arr 32 1 (sh u (k * 32)))) w := by
  have h := part24 (n := 64) (p := 1) (o := k * 32) u (by omega) (by omega) w
  unfold Instr.index
  simp only [asIntOf, Sem.run_bind, Sem.run_pure, Result.andThen_ok, run_underlying Try.underlying25, Try.sizeOf24]
  rw [if_pos (by omega)]
  simpa [Sem.run_bind, Try.sizeOf24] using h
theorem index24 (u : Ar) (k : Nat) (hk : k < 8) (w : World) : (Instr.index 24 (.agg (arr 32 1 u)) (.int .i64 k)).run Try.prog w = .ok (.agg (arr 4 1 (sh u (k * 4)))) w := by
  have h := part23 (n := 32) (p := 1) (o := k * 4) u (by omega) (by omega) w
  unfold Instr.index
  simp only [asIntOf, Sem.run_bind, Sem.run_pure, Result.andThen_ok, run_underlying Try.underlying24, Try.sizeOf23]
  rw [if_pos (by omega)]
  simpa [Sem.run_bind, Try.sizeOf23] using h
section
variable {ops : Array Oper} {o : Oper} {rest : List Oper} {a : Act} {Q : Exit → Act → World → Prop} {w : World}
theorem st_index25 {x i : Operand} {u : Ar} {k : Nat} (hw : Region.wanted o (yielded ops a.tmps) = true) (ho : o.op = .index 25 x i) (hx : a.eval x = .agg (arr 64 1 u)) (hi : a.eval i = .int .i64 (k : Int)) (hk : k < 2)
    (h : wpList Try.prog ops Q rest (a.put o.dst (.agg (arr 32 1 (sh u (k * 32))))) w) : wpList Try.prog ops Q (o :: rest) a w :=
  st_val hw (by unfold execOp; simp only [ho, hx, hi, Sem.run_bind, index25 u k hk, Result.andThen_ok, Sem.run_pure]) h
theorem st_index24 {x i : Operand} {u : Ar} {k : Nat} (hw : Region.wanted o (yielded ops a.tmps) = true) (ho : o.op = .index 24 x i) (hx : a.eval x = .agg (arr 32 1 u)) (hi : a.eval i = .int .i64 (k : Int)) (hk : k < 8)
    (h : wpList Try.prog ops Q rest (a.put o.dst (.agg (arr 4 1 (sh u (k * 4))))) w) : wpList Try.prog ops Q (o :: rest) a w :=
  st_val hw (by unfold execOp; simp only [ho, hx, hi, Sem.run_bind, index24 u k hk, Result.andThen_ok, Sem.run_pure]) h
end
/-- Page k is within its bounds. -/
def VP (u : Ar) (k : Nat) : Prop := (0 ≤ u.f (1 + k * 4) ∧ u.f (1 + k * 4) ≤ 4095) ∧ (0 ≤ u.f (1 + k * 4 + 1) ∧ u.f (1 + k * 4 + 1) ≤ 128) ∧ 0 ≤ u.f (1 + k * 4 + 2) ∧ u.f (1 + k * 4 + 2) ≤ 2
def RU (u : Ar) : Prop := (∀ k, k < 16 → VP u k) ∧ (0 ≤ u.f 65 ∧ u.f 65 ≤ 3) ∧ 0 ≤ u.f 66 ∧ u.f 66 ≤ 65535
theorem sh_sh (u : Ar) (o q : Nat) : sh (sh u o) q = sh u (o + q) := by unfold sh; simp only [Nat.add_assoc]
theorem from_t {n m : Int} (h : 0 ≤ n ∧ n ≤ m) (w : World) : Calls Try.prog 16 #[.int .i64 n, .int .i64 m] w fun e w' => e = .returned (.bool true) ∧ w' = w := by
  have := from_v n m w
  rw [decide_eq_true h.1, decide_eq_true h.2] at this; exact this
set_option maxHeartbeats 8000000 in
set_option maxRecDepth 100000 in
theorem mright_v (u : Ar) (hu : RU u) (w : World) : Calls Try.prog 7 #[.agg (arr 67 0 u)] w fun e w' => e = .returned (.bool true) ∧ Below w.heap.size w w' := by
  have hk0 := Blk.new w 67 0 27 u
  have HB0 := hidI (Below.alloc (Below.refl w.heap.size w) (Nat.le_refl _) (.cells (arr 67 0 u) 27))
  have HU := hidI hu; clear hu
  go_enter Try.func7, Try.ntmps7
  go_wp2_with (first
    | ((with_reducible refine g_load 25 ?_ rfl); refine st_load25 (by rfl) rfl rfl hk0 (by omega) (by omega) ?_))
  go_loopw [9] (fun x wr => ∃ m : Nat, m ≤ 2 ∧ x = .int .i64 m ∧ Blk wr w.heap.size 67 0 27 u ∧ Below w.heap.size w wr) (fun x _ => 2 - (intOf x).toNat)
  case atStart => exact ⟨0, by omega, rfl, hk0, HB0.out⟩
  case round =>
    clear hk0 HB0
    obtain ⟨m, hm, rfl, hblk, hbel⟩ := hrel
    have HB := hidI hbel; clear hbel
    have hlb := hblk.lt
    by_cases hm2 : m < 2
    · have hlt : (m : Int) < 2 := by omega
      have hm0 : (0 : Int) ≤ m := by omega
      go_wp2_with (first
        | ((with_reducible refine g_index 25 ?_ rfl); refine st_index25 (by rfl) rfl rfl rfl hm2 ?_; rw [sh_sh])
        | ((with_reducible refine g_alloc 24 ?_ rfl); have _t := HB; refine st_alloc24 (by rfl) rfl ?_; have hp1 := Blk.new wr 32 1 24 az; have hb1 := hblk.alloc (.cells (arr 32 1 az) 24); have hs0 := HB.out.size; have HB1 := hidI (HB.out.alloc HB.out.size (.cells (arr 32 1 az) 24)); clear HB hblk; try go_simp)
        | ((with_reducible refine g_store 24 ?_ rfl); refine st_store24 (by rfl) rfl rfl rfl hp1 (by omega) (by omega) ?_; intro w2 hp2 hu2; have hb2 := hb1.upd hu2 (by omega); have HB2 := hidI (HB1.out.trans (hu2.below (by omega))); clear hp1 HB1 hu2 hb1)
        | ((with_reducible refine g_load 24 ?_ rfl); refine st_load24 (by rfl) rfl rfl hp2 (by omega) (by omega) ?_; rw [sh_zero, up_arr]))
      go_loopw [13] (fun x wr => ∃ j : Nat, j ≤ 8 ∧ x = .int .i64 j ∧ Blk wr w.heap.size 67 0 27 u ∧ Below w.heap.size w wr) (fun x _ => 8 - (intOf x).toNat)
      case atStart => exact ⟨0, by omega, rfl, hb2, HB2.out⟩
      case round =>
        clear hp2 hb2 HB2 _t hs0 hlb
        obtain ⟨j, hj, rfl, hblk, hbel⟩ := hrel
        have HB := hidI hbel; clear hbel
        have hlb := hblk.lt
        by_cases hj8 : j < 8
        · have hjt : (j : Int) < 8 := by omega
          have hj0 : (0 : Int) ≤ j := by omega
          have hv := HU.out.1 (m * 8 + j) (by omega)
          unfold VP at hv
          rw [show 1 + (m * 8 + j) * 4 = 1 + m * 32 + j * 4 by omega] at hv
          obtain ⟨v1, v2, v3⟩ := hv
          have c1 := fun W => from_t v1 W
          have c2 := fun W => from_t v2 W
          have c3 := fun W => from_t v3 W
          clear v1 v2 v3
          obtain ⟨g, hg⟩ : ∃ g, g = sh u (1 + m * 32 + j * 4) := ⟨_, rfl⟩
          have e1 : u.f (1 + m * 32 + j * 4) = g.f 0 := by rw [hg]; rfl
          have e2 : u.f (1 + m * 32 + j * 4 + 1) = g.f 1 := by rw [hg]; rfl
          have e3 : u.f (1 + m * 32 + j * 4 + 2) = g.f 2 := by rw [hg]; rfl
          rw [e1] at c1; rw [e2] at c2; rw [e3] at c3
          have HG := hidI hg.symm
          clear e1 e2 e3 hg
          go_wp2_with (first
            | ((with_reducible refine g_index 24 ?_ rfl); refine st_index24 (by rfl) rfl rfl rfl hj8 ?_; rw [sh_sh, HG.out])
            | ((with_reducible refine g_alloc 23 ?_ rfl); have _t := HB; refine st_alloc23 (by rfl) rfl ?_; have hp1 := Blk.new wr 4 1 23 az; have hb1 := hblk.alloc (.cells (arr 4 1 az) 23); have hs0 := HB.out.size; have HB1 := hidI (HB.out.alloc HB.out.size (.cells (arr 4 1 az) 23)); clear HB hblk; try go_simp)
            | ((with_reducible refine g_store 23 ?_ rfl); refine st_store23 (by rfl) rfl rfl rfl hp1 (by omega) (by omega) ?_; intro w2 hp2 hu2; have hb2 := hb1.upd hu2 (by omega); have HB2 := hidI (HB1.out.trans (hu2.below (by omega))); have d0 := hp2.int 0 (by decide) (by decide); have d1 := hp2.int 1 (by decide) (by decide); have d2 := hp2.int 2 (by decide) (by decide); clear hp1 HB1 hu2 hb1 hp2)
            | (go_at_call 16; have _t := d0; refine (c1 _).mono ?_; rintro e w' ⟨rfl, rfl⟩; clear d0)
            | (go_at_call 16; have _t := d1; refine (c2 _).mono ?_; rintro e w' ⟨rfl, rfl⟩; clear d1)
            | (go_at_call 16; have _t := d2; refine (c3 _).mono ?_; rintro e w' ⟨rfl, rfl⟩; clear d2))
          go_roundw
          case measure => simp [intOf]; omega
          case rel => exact ⟨j + 1, by omega, by go_num, hb2, HB2.out⟩
        · obtain rfl : j = 8 := by omega
          rw [show ((8 : Nat) : Int) = 8 from rfl]
          go_wp2
          go_roundw
          case measure => simp [intOf]; omega
          case rel => exact ⟨m + 1, by omega, by go_num, hblk, HB.out⟩
    · obtain rfl : m = 2 := by omega
      rw [show ((2 : Nat) : Int) = 2 from rfl]
      have d0 := hblk.int 65 (by decide) (by decide)
      have d1 := hblk.int 66 (by decide) (by decide)
      have c1 := fun W => from_t HU.out.2.1 W
      have c2 := fun W => from_t HU.out.2.2 W
      go_wp2_with (first
        | (go_at_call 16; have _t := d0; refine (c1 _).mono ?_; rintro e w' ⟨rfl, rfl⟩; clear d0)
        | (go_at_call 16; have _t := d1; refine (c2 _).mono ?_; rintro e w' ⟨rfl, rfl⟩; clear d1))
      go_ret
      exact ⟨rfl, HB.out⟩
end Go.Proofs.Ytmlhdepemeodkaa.A
