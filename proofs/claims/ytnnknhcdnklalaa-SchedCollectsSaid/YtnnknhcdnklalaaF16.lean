/- valid of the program: what it returns. No condition. -/
import Derived.Test.YtnnknhcdnklalaaF15
namespace Go.Proofs.Ytnnknhcdnklalaa.A
open Go Go.RowKit
set_option linter.unusedSimpArgs false
set_option linter.unusedVariables false
def fcs (p : Pr) : Array Value := #[.int .i64 (p.f 16), .int .i64 (p.f 17), .int .i64 (p.f 18), .int .i64 (p.f 19), .int .i64 (p.f 20), .int .i64 (p.f 21), .int .i64 (p.f 22), .int .i64 (p.f 23)]
theorem fcs_get (p : Pr) (k : Nat) (h : k < 8) : (fcs p)[k]? = some (.int .i64 (p.f (16 + k))) := by
  match k, h with
  | 0, _ => rfl
  | 1, _ => rfl
  | 2, _ => rfl
  | 3, _ => rfl
  | 4, _ => rfl
  | 5, _ => rfl
  | 6, _ => rfl
  | 7, _ => rfl
  | k + 8, h => exact absurd h (by omega)
theorem PBlk.range25 {w : World} {b : Nat} {p : Pr} (h : PBlk w b p) : w.rangeAt b 3 (ccs p).toList := by
  intro j v hv
  rw [Array.getElem?_toList] at hv
  have hj : j < 10 := by have := (Array.getElem?_eq_some_iff.1 hv).1; exact this
  rw [ccs_get p j hj] at hv
  rw [h.int (3 + j) (by omega) (by omega)]; exact hv
theorem PBlk.range26 {w : World} {b : Nat} {p : Pr} (h : PBlk w b p) : w.rangeAt b 16 (fcs p).toList := by
  intro j v hv
  rw [Array.getElem?_toList] at hv
  have hj : j < 8 := by have := (Array.getElem?_eq_some_iff.1 hv).1; exact this
  rw [fcs_get p j hj] at hv
  rw [h.int (16 + j) (by omega) (by omega)]; exact hv
theorem PBlk.sw {w : World} {b : Nat} {p : Pr} (h : PBlk w b p) : w.cell? ⟨b, 15, none⟩ = some (.bool p.sw) := by rw [cell_of_row _ _ _ _ _ _ h, pcs_sw p]
theorem index26 (p : Pr) (k : Nat) (hk : k < 8) (w : World) : (Instr.index 26 (.agg (fcs p)) (.int .i64 k)).run Try.prog w = .ok (.int .i64 (p.f (16 + k))) w := by
  have h : (part 3 (fcs p) k).run Try.prog w = .ok (.int .i64 (p.f (16 + k))) w := by
    unfold part
    simp only [Sem.run_bind, isInt3, Result.andThen_ok, Bool.false_eq_true, if_false, fcs_get p k hk, Sem.run_pure]
  unfold Instr.index
  simp only [asIntOf, Sem.run_bind, Sem.run_pure, Result.andThen_ok, run_underlying Try.underlying26]
  rw [if_pos (by omega)]
  have hs : ∀ w, (sizeOf 3).run Try.prog w = .ok 1 w := Try.sizeOf3
  simpa [Sem.run_bind, hs] using h
section
variable {ops : Array Oper} {o : Oper} {rest : List Oper} {a : Act} {Q : Exit → Act → World → Prop} {w : World}
theorem st_load25 {b : Nat} {p : Pr} {x : Operand} (hw : Region.wanted o (yielded ops a.tmps) = true) (ho : o.op = .load 25 x) (hx : a.eval x = .pointer (some ⟨b, 3, none⟩)) (hb : PBlk w b p)
    (h : wpList Try.prog ops Q rest (a.put o.dst (.agg (ccs p))) w) : wpList Try.prog ops Q (o :: rest) a w :=
  wpList_step (fun K hK => by rw [if_pos hw]; exact wp_load_mid 25 x ho b 3 hx (ccs p).toList _ hb.range25 Try.underlying25 rfl (by kernel_rfl) (hK _ _ h))
theorem st_load26 {b : Nat} {p : Pr} {x : Operand} (hw : Region.wanted o (yielded ops a.tmps) = true) (ho : o.op = .load 26 x) (hx : a.eval x = .pointer (some ⟨b, 16, none⟩)) (hb : PBlk w b p)
    (h : wpList Try.prog ops Q rest (a.put o.dst (.agg (fcs p))) w) : wpList Try.prog ops Q (o :: rest) a w :=
  wpList_step (fun K hK => by rw [if_pos hw]; exact wp_load_mid 26 x ho b 16 hx (fcs p).toList _ hb.range26 Try.underlying26 rfl (by kernel_rfl) (hK _ _ h))
theorem st_index26 {x i : Operand} {p : Pr} {k : Nat} (hw : Region.wanted o (yielded ops a.tmps) = true) (ho : o.op = .index 26 x i) (hx : a.eval x = .agg (fcs p)) (hi : a.eval i = .int .i64 (k : Int)) (hk : k < 8)
    (h : wpList Try.prog ops Q rest (a.put o.dst (.int .i64 (p.f (16 + k)))) w) : wpList Try.prog ops Q (o :: rest) a w :=
  st_val hw (by unfold execOp; simp only [ho, hx, hi, Sem.run_bind, index26 p k hk, Result.andThen_ok, Sem.run_pure]) h
end
def fdsP (p : Pr) (k : Nat) : Bool := rg 0 24 (p.f (16 + k))
/-- Is an entry valid? -/
noncomputable def validB (p : Pr) : Bool :=
  if p.f 2 = 0 then eqP p zp
  else ((rg 1 30000 (p.f 0) && rg 0 30000 (p.f 1)) && rg 0 255 (p.f 27)) &&
    (if p.f 2 = 3 then eqP p (zomb (p.f 0) (p.f 1) (p.f 27))
     else (allB (fdsP p) 8 && (p.f 2 == 1 || p.f 2 == 2)) && (((((regsB p && rg 0 511 (p.f 13)) && rg 1 512 (p.f 14)) && rg 1 31 (p.f 24)) && rg 0 50 (p.f 28)) && waitsB p))
set_option maxHeartbeats 4000000 in
set_option maxRecDepth 100000 in
theorem valid_v (p : Pr) (w : World) : Calls Try.prog 28 #[.agg (pcs p)] w fun e w' => e = .returned (.bool (validB p)) ∧ Below w.heap.size w w' := by
  have hq0 := PBlk.new w p
  have hB0 := Below.alloc (Below.refl w.heap.size w) (Nat.le_refl _) (.cells (pcs p) 28)
  have c2 := pcs_int p 2 (by decide) (by decide)
  have c0 := pcs_int p 0 (by decide) (by decide)
  have c1 := pcs_int p 1 (by decide) (by decide)
  have c27 := pcs_int p 27 (by decide) (by decide)
  have hA := fun W => from_b (p.f 0) 1 30000 W
  have hP := fun W => from_b (p.f 1) 0 30000 W
  have hS := fun W => from_b (p.f 27) 0 255 W
  by_cases h0 : p.f 2 = 0
  · have HV : Hid (validB p = eqP p zp) := by unfold Hid validB; rw [if_pos h0]
    rw [h0] at c2
    have HH := hidI h0; clear h0 hA hP hS
    go_enter Try.func28, Try.ntmps28
    go_wp2_with (first
      | (refine st_pload28 (by rfl) rfl rfl hq0 ?_)
      | (refine st_build28 (by rfl) rfl ?_)
      | (refine st_eql28 (by rfl) rfl rfl rfl ?_))
    go_ret
    exact ⟨ret_bool HV.out.symm, hB0⟩
  have h0b : (p.f 2 == 0) = false := by simpa using h0
  have H0 := hidI h0; clear h0
  cases hp : rg 1 30000 (p.f 0)
  · simp only [hp] at hA
    have HV : Hid (validB p = false) := by unfold Hid validB; rw [if_neg H0.out, hp]; simp
    clear hp
    go_enter Try.func28, Try.ntmps28
    go_wp2_with (first
      | (go_at_call 31; ((with_reducible refine (hA _).mono ?_); rintro e w2 ⟨rfl, rfl⟩))
      | (go_at_call 31; ((with_reducible refine (hP _).mono ?_); rintro e w2 ⟨rfl, rfl⟩))
      | (go_at_call 31; ((with_reducible refine (hS _).mono ?_); rintro e w2 ⟨rfl, rfl⟩)))
    go_ret
    exact ⟨ret_bool HV.out.symm, hB0⟩
  simp only [hp] at hA
  cases hr : rg 0 30000 (p.f 1)
  · simp only [hr] at hP
    have HV : Hid (validB p = false) := by unfold Hid validB; rw [if_neg H0.out, hp, hr]; simp
    clear hp hr
    go_enter Try.func28, Try.ntmps28
    go_wp2_with (first
      | (go_at_call 31; ((with_reducible refine (hA _).mono ?_); rintro e w2 ⟨rfl, rfl⟩))
      | (go_at_call 31; ((with_reducible refine (hP _).mono ?_); rintro e w2 ⟨rfl, rfl⟩))
      | (go_at_call 31; ((with_reducible refine (hS _).mono ?_); rintro e w2 ⟨rfl, rfl⟩)))
    go_ret
    exact ⟨ret_bool HV.out.symm, hB0⟩
  simp only [hr] at hP
  cases hs : rg 0 255 (p.f 27)
  · simp only [hs] at hS
    have HV : Hid (validB p = false) := by unfold Hid validB; rw [if_neg H0.out, hp, hr, hs]; simp
    clear hp hr hs
    go_enter Try.func28, Try.ntmps28
    go_wp2_with (first
      | (go_at_call 31; ((with_reducible refine (hA _).mono ?_); rintro e w2 ⟨rfl, rfl⟩))
      | (go_at_call 31; ((with_reducible refine (hP _).mono ?_); rintro e w2 ⟨rfl, rfl⟩))
      | (go_at_call 31; ((with_reducible refine (hS _).mono ?_); rintro e w2 ⟨rfl, rfl⟩)))
    go_ret
    exact ⟨ret_bool HV.out.symm, hB0⟩
  simp only [hs] at hS
  by_cases h3 : p.f 2 = 3
  · have HV : Hid (validB p = eqP p (zomb (p.f 0) (p.f 1) (p.f 27))) := by unfold Hid validB; rw [if_neg H0.out, hp, hr, hs, if_pos h3]; simp
    rw [h3] at c2 h0b
    have HH := hidI h3; clear h3 hp hr hs
    go_enter Try.func28, Try.ntmps28
    go_wp2_with (first
      | (go_at_call 31; ((with_reducible refine (hA _).mono ?_); rintro e w2 ⟨rfl, rfl⟩))
      | (go_at_call 31; ((with_reducible refine (hP _).mono ?_); rintro e w2 ⟨rfl, rfl⟩))
      | (go_at_call 31; ((with_reducible refine (hS _).mono ?_); rintro e w2 ⟨rfl, rfl⟩))
      | (refine st_pload28 (by rfl) rfl rfl hq0 ?_)
      | (refine st_buildZ (by rfl) rfl rfl rfl rfl rfl ?_)
      | (refine st_eql28 (by rfl) rfl rfl rfl ?_))
    go_ret
    exact ⟨ret_bool HV.out.symm, hB0⟩
  have HV : Hid (validB p = ((allB (fdsP p) 8 && (p.f 2 == 1 || p.f 2 == 2)) && (((((regsB p && rg 0 511 (p.f 13)) && rg 1 512 (p.f 14)) && rg 1 31 (p.f 24)) && rg 0 50 (p.f 28)) && waitsB p))) := by
    unfold Hid validB; rw [if_neg H0.out, hp, hr, hs, if_neg h3]; simp
  have h3b : (p.f 2 == 3) = false := by simpa using h3
  clear h3 hp hr hs
  go_enter Try.func28, Try.ntmps28
  go_wp2_with (first
      | (go_at_call 31; ((with_reducible refine (hA _).mono ?_); rintro e w2 ⟨rfl, rfl⟩))
      | (go_at_call 31; ((with_reducible refine (hP _).mono ?_); rintro e w2 ⟨rfl, rfl⟩))
      | (go_at_call 31; ((with_reducible refine (hS _).mono ?_); rintro e w2 ⟨rfl, rfl⟩))
      | (refine st_load26 (by rfl) rfl rfl hq0 ?_))
  clear hA hP hS
  have HB := hidI hB0; clear hB0
  go_loop [43] (fun v => ∃ k : Nat, k ≤ 8 ∧ v = .int .i64 k ∧ Hid (allB (fdsP p) k = true)) (fun v => 8 - (intOf v).toNat)
  case atStart => exact ⟨0, by omega, rfl, rfl⟩
  case round =>
    obtain ⟨k, hk, rfl, hv⟩ := hrel
    by_cases hk8 : k < 8
    · have hlt : (k : Int) < 8 := by omega
      have hlo : (0 : Int) ≤ k := by omega
      have hs := allB_succ (fdsP p) k
      have hff := allB_false (fdsP p) 8 k hk8
      have hw : ∀ W, Calls Try.prog 31 #[.int .i64 (p.f (16 + k)), .int .i64 0, .int .i64 24] W fun e w' => e = .returned (.bool (fdsP p k)) ∧ w' = W := fun W => from_b _ _ _ W
      cases hq : fdsP p k
      · simp only [hq] at hw
        have HF : Hid (validB p = false) := by rw [Hid, HV.out, hff hq]; rfl
        clear hs hff hv hq
        go_wp2_with (first
          | (refine st_index26 (by rfl) rfl rfl rfl hk8 ?_)
          | (go_at_call 31; ((with_reducible refine (hw _).mono ?_); rintro e w2 ⟨rfl, rfl⟩)))
        go_ret
        exact ⟨ret_bool HF.out.symm, HB.out⟩
      · simp only [hq] at hw
        have HS : Hid (allB (fdsP p) (k + 1) = true) := by rw [Hid, hs, hv.out, hq]; rfl
        clear hs hff hv hq
        go_wp2_with (first
          | (refine st_index26 (by rfl) rfl rfl rfl hk8 ?_)
          | (go_at_call 31; ((with_reducible refine (hw _).mono ?_); rintro e w2 ⟨rfl, rfl⟩)))
        go_round
        case measure => simp [intOf]; omega
        case rel => exact ⟨k + 1, by omega, by go_num, HS⟩
    · obtain rfl : k = 8 := by omega
      rw [show ((8 : Nat) : Int) = 8 from rfl]
      have HW : Hid (validB p = ((p.f 2 == 1 || p.f 2 == 2) && (((((regsB p && rg 0 511 (p.f 13)) && rg 1 512 (p.f 14)) && rg 1 31 (p.f 24)) && rg 0 50 (p.f 28)) && waitsB p))) := by rw [Hid, HV.out, hv.out]; rfl
      clear hv
      cases h1 : (p.f 2 != 1)
      rotate_left
      · cases h2 : (p.f 2 != 2)
        rotate_left
        · have HF : Hid (validB p = false) := by
            have g1 : (p.f 2 == 1) = false := by simpa using h1
            have g2 : (p.f 2 == 2) = false := by simpa using h2
            rw [Hid, HW.out, g1, g2]; rfl
          go_wp2
          go_ret
          exact ⟨ret_bool HF.out.symm, HB.out⟩
        · have HX : Hid ((p.f 2 == 1 || p.f 2 == 2) = true) := by
            have g2 : (p.f 2 == 2) = true := by simpa using h2
            rw [Hid, g2]; simp
          have HY : Hid (validB p = (((((regsB p && rg 0 511 (p.f 13)) && rg 1 512 (p.f 14)) && rg 1 31 (p.f 24)) && rg 0 50 (p.f 28)) && waitsB p)) := by rw [Hid, HW.out, HX.out]; rfl
          have hrg := regs_v p (w.alloc (.cells (pcs p) 28))
          have hb1 := fun W => from_b (p.f 13) 0 511 W
          have hb2 := fun W => from_b (p.f 14) 1 512 W
          have hb3 := fun W => from_b (p.f 24) 1 31 W
          have hb4 := fun W => from_b (p.f 28) 0 50 W
          have hwt := fun W => waits_v p W
          clear c0 c1 c27
          cases g0 : regsB p
          · simp only [g0] at hrg
            have HF : Hid (validB p = false) := by rw [Hid, HY.out, g0]; simp
            clear g0
            go_wp2_with (first
              | (refine st_load25 (by rfl) rfl rfl hq0 ?_)
              | (go_at_call 44; refine hrg.mono ?_; rintro e w1 ⟨rfl, hbl⟩; have hq1 := hq0.below hbl hq0.lt; have d13 := hq1.int 13 (by decide) (by decide); have d14 := hq1.int 14 (by decide) (by decide); have d24 := hq1.int 24 (by decide) (by decide); have d28 := hq1.int 28 (by decide) (by decide); have HB1 := hidI (HB.out.trans (hbl.mono HB.out.size)); clear hbl hrg)
              | (refine st_pload28 (by rfl) rfl rfl hq1 ?_)
              | (go_at_call 45; ((with_reducible refine (hwt _).mono ?_); rintro e w5 ⟨rfl, rfl⟩))
              | (go_at_call 31; ((with_reducible refine (hb1 _).mono ?_); rintro e w2 ⟨rfl, rfl⟩))
              | (go_at_call 31; ((with_reducible refine (hb2 _).mono ?_); rintro e w2 ⟨rfl, rfl⟩))
              | (go_at_call 31; ((with_reducible refine (hb3 _).mono ?_); rintro e w2 ⟨rfl, rfl⟩))
              | (go_at_call 31; ((with_reducible refine (hb4 _).mono ?_); rintro e w2 ⟨rfl, rfl⟩)))
            go_ret
            exact ⟨ret_bool HF.out.symm, HB1.out⟩
          simp only [g0] at hrg
          cases g1 : rg 0 511 (p.f 13)
          · simp only [g1] at hb1
            have HF : Hid (validB p = false) := by rw [Hid, HY.out, g0, g1]; simp
            clear g0 g1
            go_wp2_with (first
              | (refine st_load25 (by rfl) rfl rfl hq0 ?_)
              | (go_at_call 44; refine hrg.mono ?_; rintro e w1 ⟨rfl, hbl⟩; have hq1 := hq0.below hbl hq0.lt; have d13 := hq1.int 13 (by decide) (by decide); have d14 := hq1.int 14 (by decide) (by decide); have d24 := hq1.int 24 (by decide) (by decide); have d28 := hq1.int 28 (by decide) (by decide); have HB1 := hidI (HB.out.trans (hbl.mono HB.out.size)); clear hbl hrg)
              | (refine st_pload28 (by rfl) rfl rfl hq1 ?_)
              | (go_at_call 45; ((with_reducible refine (hwt _).mono ?_); rintro e w5 ⟨rfl, rfl⟩))
              | (go_at_call 31; ((with_reducible refine (hb1 _).mono ?_); rintro e w2 ⟨rfl, rfl⟩))
              | (go_at_call 31; ((with_reducible refine (hb2 _).mono ?_); rintro e w2 ⟨rfl, rfl⟩))
              | (go_at_call 31; ((with_reducible refine (hb3 _).mono ?_); rintro e w2 ⟨rfl, rfl⟩))
              | (go_at_call 31; ((with_reducible refine (hb4 _).mono ?_); rintro e w2 ⟨rfl, rfl⟩)))
            go_ret
            exact ⟨ret_bool HF.out.symm, HB1.out⟩
          simp only [g1] at hb1
          cases g2 : rg 1 512 (p.f 14)
          · simp only [g2] at hb2
            have HF : Hid (validB p = false) := by rw [Hid, HY.out, g0, g1, g2]; simp
            clear g0 g1 g2
            go_wp2_with (first
              | (refine st_load25 (by rfl) rfl rfl hq0 ?_)
              | (go_at_call 44; refine hrg.mono ?_; rintro e w1 ⟨rfl, hbl⟩; have hq1 := hq0.below hbl hq0.lt; have d13 := hq1.int 13 (by decide) (by decide); have d14 := hq1.int 14 (by decide) (by decide); have d24 := hq1.int 24 (by decide) (by decide); have d28 := hq1.int 28 (by decide) (by decide); have HB1 := hidI (HB.out.trans (hbl.mono HB.out.size)); clear hbl hrg)
              | (refine st_pload28 (by rfl) rfl rfl hq1 ?_)
              | (go_at_call 45; ((with_reducible refine (hwt _).mono ?_); rintro e w5 ⟨rfl, rfl⟩))
              | (go_at_call 31; ((with_reducible refine (hb1 _).mono ?_); rintro e w2 ⟨rfl, rfl⟩))
              | (go_at_call 31; ((with_reducible refine (hb2 _).mono ?_); rintro e w2 ⟨rfl, rfl⟩))
              | (go_at_call 31; ((with_reducible refine (hb3 _).mono ?_); rintro e w2 ⟨rfl, rfl⟩))
              | (go_at_call 31; ((with_reducible refine (hb4 _).mono ?_); rintro e w2 ⟨rfl, rfl⟩)))
            go_ret
            exact ⟨ret_bool HF.out.symm, HB1.out⟩
          simp only [g2] at hb2
          cases g3 : rg 1 31 (p.f 24)
          · simp only [g3] at hb3
            have HF : Hid (validB p = false) := by rw [Hid, HY.out, g0, g1, g2, g3]; simp
            clear g0 g1 g2 g3
            go_wp2_with (first
              | (refine st_load25 (by rfl) rfl rfl hq0 ?_)
              | (go_at_call 44; refine hrg.mono ?_; rintro e w1 ⟨rfl, hbl⟩; have hq1 := hq0.below hbl hq0.lt; have d13 := hq1.int 13 (by decide) (by decide); have d14 := hq1.int 14 (by decide) (by decide); have d24 := hq1.int 24 (by decide) (by decide); have d28 := hq1.int 28 (by decide) (by decide); have HB1 := hidI (HB.out.trans (hbl.mono HB.out.size)); clear hbl hrg)
              | (refine st_pload28 (by rfl) rfl rfl hq1 ?_)
              | (go_at_call 45; ((with_reducible refine (hwt _).mono ?_); rintro e w5 ⟨rfl, rfl⟩))
              | (go_at_call 31; ((with_reducible refine (hb1 _).mono ?_); rintro e w2 ⟨rfl, rfl⟩))
              | (go_at_call 31; ((with_reducible refine (hb2 _).mono ?_); rintro e w2 ⟨rfl, rfl⟩))
              | (go_at_call 31; ((with_reducible refine (hb3 _).mono ?_); rintro e w2 ⟨rfl, rfl⟩))
              | (go_at_call 31; ((with_reducible refine (hb4 _).mono ?_); rintro e w2 ⟨rfl, rfl⟩)))
            go_ret
            exact ⟨ret_bool HF.out.symm, HB1.out⟩
          simp only [g3] at hb3
          cases g4 : rg 0 50 (p.f 28)
          · simp only [g4] at hb4
            have HF : Hid (validB p = false) := by rw [Hid, HY.out, g0, g1, g2, g3, g4]; simp
            clear g0 g1 g2 g3 g4
            go_wp2_with (first
              | (refine st_load25 (by rfl) rfl rfl hq0 ?_)
              | (go_at_call 44; refine hrg.mono ?_; rintro e w1 ⟨rfl, hbl⟩; have hq1 := hq0.below hbl hq0.lt; have d13 := hq1.int 13 (by decide) (by decide); have d14 := hq1.int 14 (by decide) (by decide); have d24 := hq1.int 24 (by decide) (by decide); have d28 := hq1.int 28 (by decide) (by decide); have HB1 := hidI (HB.out.trans (hbl.mono HB.out.size)); clear hbl hrg)
              | (refine st_pload28 (by rfl) rfl rfl hq1 ?_)
              | (go_at_call 45; ((with_reducible refine (hwt _).mono ?_); rintro e w5 ⟨rfl, rfl⟩))
              | (go_at_call 31; ((with_reducible refine (hb1 _).mono ?_); rintro e w2 ⟨rfl, rfl⟩))
              | (go_at_call 31; ((with_reducible refine (hb2 _).mono ?_); rintro e w2 ⟨rfl, rfl⟩))
              | (go_at_call 31; ((with_reducible refine (hb3 _).mono ?_); rintro e w2 ⟨rfl, rfl⟩))
              | (go_at_call 31; ((with_reducible refine (hb4 _).mono ?_); rintro e w2 ⟨rfl, rfl⟩)))
            go_ret
            exact ⟨ret_bool HF.out.symm, HB1.out⟩
          simp only [g4] at hb4
          have HF : Hid (validB p = waitsB p) := by rw [Hid, HY.out, g0, g1, g2, g3, g4]; simp
          clear g0 g1 g2 g3 g4
          go_wp2_with (first
            | (refine st_load25 (by rfl) rfl rfl hq0 ?_)
            | (go_at_call 44; refine hrg.mono ?_; rintro e w1 ⟨rfl, hbl⟩; have hq1 := hq0.below hbl hq0.lt; have d13 := hq1.int 13 (by decide) (by decide); have d14 := hq1.int 14 (by decide) (by decide); have d24 := hq1.int 24 (by decide) (by decide); have d28 := hq1.int 28 (by decide) (by decide); have HB1 := hidI (HB.out.trans (hbl.mono HB.out.size)); clear hbl hrg)
            | (refine st_pload28 (by rfl) rfl rfl hq1 ?_)
            | (go_at_call 45; ((with_reducible refine (hwt _).mono ?_); rintro e w5 ⟨rfl, rfl⟩))
            | (go_at_call 31; ((with_reducible refine (hb1 _).mono ?_); rintro e w2 ⟨rfl, rfl⟩))
            | (go_at_call 31; ((with_reducible refine (hb2 _).mono ?_); rintro e w2 ⟨rfl, rfl⟩))
            | (go_at_call 31; ((with_reducible refine (hb3 _).mono ?_); rintro e w2 ⟨rfl, rfl⟩))
            | (go_at_call 31; ((with_reducible refine (hb4 _).mono ?_); rintro e w2 ⟨rfl, rfl⟩)))
          go_ret
          exact ⟨ret_bool HF.out.symm, HB1.out.alloc HB1.out.size _⟩
      · have HX : Hid ((p.f 2 == 1 || p.f 2 == 2) = true) := by
          have g1 : (p.f 2 == 1) = true := by simpa using h1
          rw [Hid, g1]; rfl
        have HY : Hid (validB p = (((((regsB p && rg 0 511 (p.f 13)) && rg 1 512 (p.f 14)) && rg 1 31 (p.f 24)) && rg 0 50 (p.f 28)) && waitsB p)) := by rw [Hid, HW.out, HX.out]; rfl
        have hrg := regs_v p (w.alloc (.cells (pcs p) 28))
        have hb1 := fun W => from_b (p.f 13) 0 511 W
        have hb2 := fun W => from_b (p.f 14) 1 512 W
        have hb3 := fun W => from_b (p.f 24) 1 31 W
        have hb4 := fun W => from_b (p.f 28) 0 50 W
        have hwt := fun W => waits_v p W
        clear c0 c1 c27
        cases g0 : regsB p
        · simp only [g0] at hrg
          have HF : Hid (validB p = false) := by rw [Hid, HY.out, g0]; simp
          clear g0
          go_wp2_with (first
            | (refine st_load25 (by rfl) rfl rfl hq0 ?_)
            | (go_at_call 44; refine hrg.mono ?_; rintro e w1 ⟨rfl, hbl⟩; have hq1 := hq0.below hbl hq0.lt; have d13 := hq1.int 13 (by decide) (by decide); have d14 := hq1.int 14 (by decide) (by decide); have d24 := hq1.int 24 (by decide) (by decide); have d28 := hq1.int 28 (by decide) (by decide); have HB1 := hidI (HB.out.trans (hbl.mono HB.out.size)); clear hbl hrg)
            | (refine st_pload28 (by rfl) rfl rfl hq1 ?_)
            | (go_at_call 45; ((with_reducible refine (hwt _).mono ?_); rintro e w5 ⟨rfl, rfl⟩))
            | (go_at_call 31; ((with_reducible refine (hb1 _).mono ?_); rintro e w2 ⟨rfl, rfl⟩))
            | (go_at_call 31; ((with_reducible refine (hb2 _).mono ?_); rintro e w2 ⟨rfl, rfl⟩))
            | (go_at_call 31; ((with_reducible refine (hb3 _).mono ?_); rintro e w2 ⟨rfl, rfl⟩))
            | (go_at_call 31; ((with_reducible refine (hb4 _).mono ?_); rintro e w2 ⟨rfl, rfl⟩)))
          go_ret
          exact ⟨ret_bool HF.out.symm, HB1.out⟩
        simp only [g0] at hrg
        cases g1 : rg 0 511 (p.f 13)
        · simp only [g1] at hb1
          have HF : Hid (validB p = false) := by rw [Hid, HY.out, g0, g1]; simp
          clear g0 g1
          go_wp2_with (first
            | (refine st_load25 (by rfl) rfl rfl hq0 ?_)
            | (go_at_call 44; refine hrg.mono ?_; rintro e w1 ⟨rfl, hbl⟩; have hq1 := hq0.below hbl hq0.lt; have d13 := hq1.int 13 (by decide) (by decide); have d14 := hq1.int 14 (by decide) (by decide); have d24 := hq1.int 24 (by decide) (by decide); have d28 := hq1.int 28 (by decide) (by decide); have HB1 := hidI (HB.out.trans (hbl.mono HB.out.size)); clear hbl hrg)
            | (refine st_pload28 (by rfl) rfl rfl hq1 ?_)
            | (go_at_call 45; ((with_reducible refine (hwt _).mono ?_); rintro e w5 ⟨rfl, rfl⟩))
            | (go_at_call 31; ((with_reducible refine (hb1 _).mono ?_); rintro e w2 ⟨rfl, rfl⟩))
            | (go_at_call 31; ((with_reducible refine (hb2 _).mono ?_); rintro e w2 ⟨rfl, rfl⟩))
            | (go_at_call 31; ((with_reducible refine (hb3 _).mono ?_); rintro e w2 ⟨rfl, rfl⟩))
            | (go_at_call 31; ((with_reducible refine (hb4 _).mono ?_); rintro e w2 ⟨rfl, rfl⟩)))
          go_ret
          exact ⟨ret_bool HF.out.symm, HB1.out⟩
        simp only [g1] at hb1
        cases g2 : rg 1 512 (p.f 14)
        · simp only [g2] at hb2
          have HF : Hid (validB p = false) := by rw [Hid, HY.out, g0, g1, g2]; simp
          clear g0 g1 g2
          go_wp2_with (first
            | (refine st_load25 (by rfl) rfl rfl hq0 ?_)
            | (go_at_call 44; refine hrg.mono ?_; rintro e w1 ⟨rfl, hbl⟩; have hq1 := hq0.below hbl hq0.lt; have d13 := hq1.int 13 (by decide) (by decide); have d14 := hq1.int 14 (by decide) (by decide); have d24 := hq1.int 24 (by decide) (by decide); have d28 := hq1.int 28 (by decide) (by decide); have HB1 := hidI (HB.out.trans (hbl.mono HB.out.size)); clear hbl hrg)
            | (refine st_pload28 (by rfl) rfl rfl hq1 ?_)
            | (go_at_call 45; ((with_reducible refine (hwt _).mono ?_); rintro e w5 ⟨rfl, rfl⟩))
            | (go_at_call 31; ((with_reducible refine (hb1 _).mono ?_); rintro e w2 ⟨rfl, rfl⟩))
            | (go_at_call 31; ((with_reducible refine (hb2 _).mono ?_); rintro e w2 ⟨rfl, rfl⟩))
            | (go_at_call 31; ((with_reducible refine (hb3 _).mono ?_); rintro e w2 ⟨rfl, rfl⟩))
            | (go_at_call 31; ((with_reducible refine (hb4 _).mono ?_); rintro e w2 ⟨rfl, rfl⟩)))
          go_ret
          exact ⟨ret_bool HF.out.symm, HB1.out⟩
        simp only [g2] at hb2
        cases g3 : rg 1 31 (p.f 24)
        · simp only [g3] at hb3
          have HF : Hid (validB p = false) := by rw [Hid, HY.out, g0, g1, g2, g3]; simp
          clear g0 g1 g2 g3
          go_wp2_with (first
            | (refine st_load25 (by rfl) rfl rfl hq0 ?_)
            | (go_at_call 44; refine hrg.mono ?_; rintro e w1 ⟨rfl, hbl⟩; have hq1 := hq0.below hbl hq0.lt; have d13 := hq1.int 13 (by decide) (by decide); have d14 := hq1.int 14 (by decide) (by decide); have d24 := hq1.int 24 (by decide) (by decide); have d28 := hq1.int 28 (by decide) (by decide); have HB1 := hidI (HB.out.trans (hbl.mono HB.out.size)); clear hbl hrg)
            | (refine st_pload28 (by rfl) rfl rfl hq1 ?_)
            | (go_at_call 45; ((with_reducible refine (hwt _).mono ?_); rintro e w5 ⟨rfl, rfl⟩))
            | (go_at_call 31; ((with_reducible refine (hb1 _).mono ?_); rintro e w2 ⟨rfl, rfl⟩))
            | (go_at_call 31; ((with_reducible refine (hb2 _).mono ?_); rintro e w2 ⟨rfl, rfl⟩))
            | (go_at_call 31; ((with_reducible refine (hb3 _).mono ?_); rintro e w2 ⟨rfl, rfl⟩))
            | (go_at_call 31; ((with_reducible refine (hb4 _).mono ?_); rintro e w2 ⟨rfl, rfl⟩)))
          go_ret
          exact ⟨ret_bool HF.out.symm, HB1.out⟩
        simp only [g3] at hb3
        cases g4 : rg 0 50 (p.f 28)
        · simp only [g4] at hb4
          have HF : Hid (validB p = false) := by rw [Hid, HY.out, g0, g1, g2, g3, g4]; simp
          clear g0 g1 g2 g3 g4
          go_wp2_with (first
            | (refine st_load25 (by rfl) rfl rfl hq0 ?_)
            | (go_at_call 44; refine hrg.mono ?_; rintro e w1 ⟨rfl, hbl⟩; have hq1 := hq0.below hbl hq0.lt; have d13 := hq1.int 13 (by decide) (by decide); have d14 := hq1.int 14 (by decide) (by decide); have d24 := hq1.int 24 (by decide) (by decide); have d28 := hq1.int 28 (by decide) (by decide); have HB1 := hidI (HB.out.trans (hbl.mono HB.out.size)); clear hbl hrg)
            | (refine st_pload28 (by rfl) rfl rfl hq1 ?_)
            | (go_at_call 45; ((with_reducible refine (hwt _).mono ?_); rintro e w5 ⟨rfl, rfl⟩))
            | (go_at_call 31; ((with_reducible refine (hb1 _).mono ?_); rintro e w2 ⟨rfl, rfl⟩))
            | (go_at_call 31; ((with_reducible refine (hb2 _).mono ?_); rintro e w2 ⟨rfl, rfl⟩))
            | (go_at_call 31; ((with_reducible refine (hb3 _).mono ?_); rintro e w2 ⟨rfl, rfl⟩))
            | (go_at_call 31; ((with_reducible refine (hb4 _).mono ?_); rintro e w2 ⟨rfl, rfl⟩)))
          go_ret
          exact ⟨ret_bool HF.out.symm, HB1.out⟩
        simp only [g4] at hb4
        have HF : Hid (validB p = waitsB p) := by rw [Hid, HY.out, g0, g1, g2, g3, g4]; simp
        clear g0 g1 g2 g3 g4
        go_wp2_with (first
          | (refine st_load25 (by rfl) rfl rfl hq0 ?_)
          | (go_at_call 44; refine hrg.mono ?_; rintro e w1 ⟨rfl, hbl⟩; have hq1 := hq0.below hbl hq0.lt; have d13 := hq1.int 13 (by decide) (by decide); have d14 := hq1.int 14 (by decide) (by decide); have d24 := hq1.int 24 (by decide) (by decide); have d28 := hq1.int 28 (by decide) (by decide); have HB1 := hidI (HB.out.trans (hbl.mono HB.out.size)); clear hbl hrg)
          | (refine st_pload28 (by rfl) rfl rfl hq1 ?_)
          | (go_at_call 45; ((with_reducible refine (hwt _).mono ?_); rintro e w5 ⟨rfl, rfl⟩))
          | (go_at_call 31; ((with_reducible refine (hb1 _).mono ?_); rintro e w2 ⟨rfl, rfl⟩))
          | (go_at_call 31; ((with_reducible refine (hb2 _).mono ?_); rintro e w2 ⟨rfl, rfl⟩))
          | (go_at_call 31; ((with_reducible refine (hb3 _).mono ?_); rintro e w2 ⟨rfl, rfl⟩))
          | (go_at_call 31; ((with_reducible refine (hb4 _).mono ?_); rintro e w2 ⟨rfl, rfl⟩)))
        go_ret
        exact ⟨ret_bool HF.out.symm, HB1.out.alloc HB1.out.size _⟩
end Go.Proofs.Ytnnknhcdnklalaa.A
