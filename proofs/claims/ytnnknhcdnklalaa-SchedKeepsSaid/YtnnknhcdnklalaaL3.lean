/- The law SchedKeeps: its call returns true. No condition. -/
import Derived.Test.YtnnknhcdnklalaaRow3
namespace Go.Proofs.Ytnnknhcdnklalaa.A
open Go Go.RowKit
set_option linter.unusedSimpArgs false
set_option linter.unusedVariables false
theorem PBlk.drew {w : World} {b : Nat} {p : Pr} (h : PBlk w b p) : PBlk w.drew b p := h
theorem eqP_no {p q : Pr} (h : pcs p = pcs q) : (!eqP p q) = false := by unfold eqP; simp [h]
theorem draw_pfield {ops : Array Oper} {Q : Exit → Act → World → Prop} {i : Nat} {K : Act → World → Prop} {a : Act} {w : World} (o : Oper) (x y : Operand) (b j : Nat) (n : Int) (p : Pr) (ho : ops[i]? = some o) (hw : Region.wanted o (yielded ops a.tmps) = true)
    (hop : o.op = .store 3 x y) (hx : a.eval x = .pointer (some ⟨b, j, none⟩)) (hy : a.eval y = .int .i64 n) (hb : PBlk w b p) (hj : j < 29) (hj' : j ≠ 15) (h : ∀ w', PBlk w' b (setf p j n) → Upd w b w' → K (a.put o.dst undef) w') : wpOp Try.prog ops Q i K a w := by
  unfold wpOp; rw [ho]; simp only [hw, if_true]; left
  have hcell := hb.int j hj hj'
  have hfr := frozen_of_row _ _ j _ _ hb
  have hB : PBlk (w.setCell ⟨b, j, none⟩ (.int .i64 n)) b (setf p j n) := by
    unfold PBlk; rw [heap_setCell_same w b _ _ _ _ hb, pcs_set p j n hj hj']
  have := h _ hB (Upd.setCell _ _ _ _)
  unfold Oper.wp execOp
  simp only [hop, hx, hy]
  simp [go_sem, hcell, hfr]
  exact this
theorem yieldsIf_neq28 {ops : Array Oper} {S : World → Prop} {o : Oper} {a : Act} {x y : Operand} {p q : Pr} {b : Bool} (hw : Region.wanted o (yielded ops a.tmps) = true) (ho : o.op = .binOp .neq 28 x y 28) (hx : a.eval x = .agg (pcs p)) (hy : a.eval y = .agg (pcs q)) (hb : (!eqP p q) = b) : YieldsIf Try.prog ops S o (.bool b) a :=
  Or.inl ⟨hw, fun w _ => by
    subst hb
    unfold execOp
    simp only [ho, hx, hy, Sem.run_bind, run_eqGuard_agg w .neq 28 x y _ _ guard28, run_neq_struct, Result.andThen_ok, Sem.run_pure, show (10000 : Nat) = 9996 + 4 from rfl, eq28_v]⟩
def three (a b c : Nat → Pr) (k : Nat) : Nat → Pr := if k = 0 then a else if k = 1 then b else c
set_option maxHeartbeats 16000000 in
set_option maxRecDepth 100000 in
theorem lawKeeps_v (t : Nat → Pr) (index n : Int) (w : World) : Calls Try.prog 10 #[.agg (tcs t), .int .i64 index, .int .i64 n] w fun e w' => e = .returned (.bool true) ∧ Below w.heap.size w w' := by
  have hk0 := Blk.new w t
  have HB0 := hidI (Below.alloc (Below.refl w.heap.size w) (Nat.le_refl _) (.cells (tcs t) 29))
  have hrt := fun W => right_v t W
  cases hR : rightB t
  · simp only [hR] at hrt
    clear hR
    go_enter Try.func10, Try.ntmps10
    go_wp2_with (first
      | ((with_reducible refine g_load 29 ?_ rfl); refine st_load29 (by rfl) rfl rfl hk0 ?_)
      | (go_at_call 11; refine (hrt _).mono ?_; rintro e w1 ⟨rfl, hb⟩; have HB1 := hidI (HB0.out.trans (hb.mono HB0.out.size)); clear HB0 hb hrt)
      | (go_at_call 13; refine (alive_v _).mono ?_; rintro e w2 ⟨rfl, hb⟩; have HB2 := hidI (HB1.out.trans (hb.mono HB1.out.size)); clear HB1 hb))
    go_ret
    exact ⟨rfl, HB2.out⟩
  have hRP := (right_iff t).1 hR
  simp only [hR] at hrt
  have hwk := fun W => wake_v t (Go.bits .and .i64 n 3) index W
  have hex := fun W => exit_v t index n W
  have hrp : ∀ W, Calls Try.prog 16 #[.agg (tcs t), .int .i64 n] W fun e w' => e = .returned (.tuple #[.agg (tcs (reapS t n).1), .int .i64 (reapS t n).2.1, .int .i64 (reapS t n).2.2.1, .int .i64 (reapS t n).2.2.2]) ∧ Below W.heap.size W w' := fun W => reap_v t n W
  have hra : ∀ W, Calls Try.prog 11 #[.agg (tcs (wakeT (Go.bits .and .i64 n 3) index t))] W fun e w' => e = .returned (.bool true) ∧ Below W.heap.size W w' := fun W => by
    have := right_v (wakeT (Go.bits .and .i64 n 3) index t) W; rw [(right_iff _).2 (wake_right _ _ hRP)] at this; exact this
  have hrb : ∀ W, Calls Try.prog 11 #[.agg (tcs (exitT t index n))] W fun e w' => e = .returned (.bool true) ∧ Below W.heap.size W w' := fun W => by
    have := right_v (exitT t index n) W; rw [(right_iff _).2 (exit_right _ _ hRP)] at this; exact this
  have hrc : (reapS t n).2.2.2 = 0 → ∀ W, Calls Try.prog 11 #[.agg (tcs (reapS t n).1)] W fun e w' => e = .returned (.bool true) ∧ Below W.heap.size W w' := fun h W => by
    obtain ⟨z, _, hz, _⟩ := reap_ok h
    have := right_v (reapS t n).1 W; rw [hz, (right_iff _).2 (upd_right hRP z)] at this; rw [hz]; exact this
  have HA := hidI (fun i hi => wake_keep (Go.bits .and .i64 n 3) index t i hi)
  have HBK := hidI (fun k hk hne h3 => exit_keep t index n k hk hne h3)
  have HCK := hidI (fun (h : (reapS t n).2.2.2 = 0) k h3 => reap_keep t n k h h3)
  clear hR hRP
  generalize wakeT (Go.bits .and .i64 n 3) index t = aT at *
  generalize exitT t index n = bT at *
  generalize reapS t n = r at *
  obtain ⟨cT, r2, r3, r4⟩ := r
  simp only at hrp hrc
  have HCK : Hid (r4 = 0 → ∀ k, (t k).f 2 ≠ 3 → cT k = t k) := HCK
  by_cases he : r4 = 0
  · subst he
    have hrc0 := hrc rfl
    clear hrc
    have HC := hidI (HCK.out rfl)
    clear HCK
    go_enter Try.func10, Try.ntmps10
    go_wp2_with (first
      | ((with_reducible refine g_load 29 ?_ rfl); refine st_load29 (x := .tmp 3) (by rfl) rfl rfl hk0 ?_)
      | (go_at_call 11; have _t := HB0; refine (hrt _).mono ?_; rintro e w1 ⟨rfl, hb⟩; have hk1 := hk0.below hb hk0.lt; have HB1 := hidI (HB0.out.trans (hb.mono HB0.out.size)); clear HB0 hb hk0 hrt)
      | ((with_reducible refine g_load 29 ?_ rfl); refine st_load29 (x := .tmp 3) (by rfl) rfl rfl hk1 ?_)
      | (go_at_call 26; refine (hwk _).mono ?_; rintro e w2 ⟨rfl, hb⟩; have hk2 := hk1.below hb hk1.lt; have HB2 := hidI (HB1.out.trans (hb.mono HB1.out.size)); clear HB1 hb hk1 hwk)
      | ((with_reducible refine g_alloc 29 ?_ rfl); have _t := HB2; refine st_alloc29 (by rfl) rfl ?_; have hz := Blk.new w2 tz; have hk3 := hk2.alloc (.cells (tcs tz) 29); have hl2 := hk2.lt; have HBa := hidI (HB2.out.alloc HB2.out.size (.cells (tcs tz) 29)); have hs2 := HB2.out.size; clear HB2 hk2)
      | ((with_reducible refine g_store 29 ?_ rfl); have _t := HBa; refine st_store29 (x := .tmp 7) (by rfl) rfl rfl rfl hz ?_; intro w3 ha3 hu; have hk4 := hu.blk hk3 (by omega); have HB3 := hidI (HBa.out.trans (hu.below hs2)); clear HBa hu hz hk3)
      | ((with_reducible refine g_load 29 ?_ rfl); refine st_load29 (x := .tmp 3) (by rfl) rfl rfl hk4 ?_)
      | (go_at_call 14; refine (hex _).mono ?_; rintro e w4 ⟨rfl, hb⟩; have hk5 := hk4.below hb hk4.lt; have ha4 := ha3.below hb ha3.lt; have HB4 := hidI (HB3.out.trans (hb.mono HB3.out.size)); clear HB3 hb hk4 ha3 hex)
      | ((with_reducible refine g_alloc 29 ?_ rfl); have _t := HB4; refine st_alloc29 (by rfl) rfl ?_; have hz := Blk.new w4 tz; have hk6 := hk5.alloc (.cells (tcs tz) 29); have ha5 := ha4.alloc (.cells (tcs tz) 29); have hl4 := hk5.lt; have hm4 := ha4.lt; have HBa := hidI (HB4.out.alloc HB4.out.size (.cells (tcs tz) 29)); have hs4 := HB4.out.size; clear HB4 hk5 ha4)
      | ((with_reducible refine g_store 29 ?_ rfl); have _t := HBa; refine st_store29 (x := .tmp 8) (by rfl) rfl rfl rfl hz ?_; intro w5 hb5 hu; have hk7 := hu.blk hk6 (by omega); have ha6 := hu.blk ha5 (by omega); have HB5 := hidI (HBa.out.trans (hu.below hs4)); clear HBa hu hz hk6 ha5)
      | ((with_reducible refine g_load 29 ?_ rfl); refine st_load29 (x := .tmp 3) (by rfl) rfl rfl hk7 ?_)
      | (go_at_call 16; refine (hrp _).mono ?_; rintro e w6 ⟨rfl, hb⟩; have hk8 := hk7.below hb hk7.lt; have ha7 := ha6.below hb ha6.lt; have hb6 := hb5.below hb hb5.lt; have HB6 := hidI (HB5.out.trans (hb.mono HB5.out.size)); clear HB5 hb hk7 ha6 hb5 hrp)
      | ((with_reducible refine g_alloc 29 ?_ rfl); have _t := HB6; refine st_alloc29 (by rfl) rfl ?_; have hz := Blk.new w6 tz; have hk8a := hk8.alloc (.cells (tcs tz) 29); have ha7a := ha7.alloc (.cells (tcs tz) 29); have hb6a := hb6.alloc (.cells (tcs tz) 29); have hl6 := hk8.lt; have hm6 := ha7.lt; have hn6 := hb6.lt; have HBa := hidI (HB6.out.alloc HB6.out.size (.cells (tcs tz) 29)); have hs6 := HB6.out.size; clear HB6 hk8 ha7 hb6)
      | ((with_reducible refine g_store 29 ?_ rfl); have _t := HBa; refine st_store29 (x := .tmp 9) (by rfl) rfl rfl rfl hz ?_; intro w7 hc7 hu; have hk8b := hu.blk hk8a (by omega); have ha7b := hu.blk ha7a (by omega); have hb6b := hu.blk hb6a (by omega); have HB7 := hidI (HBa.out.trans (hu.below hs6)); clear HBa hu hz hk8a ha7a hb6a)
      | ((with_reducible refine g_load 29 ?_ rfl); refine st_load29 (x := .tmp 7) (by rfl) rfl rfl ha7b ?_)
      | (go_at_call 11; have _t := HB7; refine (hra _).mono ?_; rintro e w8 ⟨rfl, hb⟩; have ha8 := ha7b.below hb ha7b.lt; have hb8 := hb6b.below hb hb6b.lt; have hc8 := hc7.below hb hc7.lt; have hk8c := hk8b.below hb hk8b.lt; have HB8 := hidI (HB7.out.trans (hb.mono HB7.out.size)); clear HB7 hb ha7b hb6b hc7 hk8b hra)
      | ((with_reducible refine g_load 29 ?_ rfl); refine st_load29 (x := .tmp 8) (by rfl) rfl rfl hb8 ?_)
      | (go_at_call 11; have _t := HB8; refine (hrb _).mono ?_; rintro e w9 ⟨rfl, hb⟩; have ha9 := ha8.below hb ha8.lt; have hb9 := hb8.below hb hb8.lt; have hc9 := hc8.below hb hc8.lt; have hk9 := hk8c.below hb hk8c.lt; have HB9 := hidI (HB8.out.trans (hb.mono HB8.out.size)); clear HB8 hb ha8 hb8 hc8 hk8c hrb)
      | ((with_reducible refine g_load 29 ?_ rfl); refine st_load29 (x := .tmp 9) (by rfl) rfl rfl hc9 ?_)
      | (go_at_call 11; have _t := HB9; refine (hrc0 _).mono ?_; rintro e w10 ⟨rfl, hb⟩; have ha10 := ha9.below hb ha9.lt; have hb10 := hb9.below hb hb9.lt; have hc10 := hc9.below hb hc9.lt; have hk10 := hk9.below hb hk9.lt; have HB10 := hidI (HB9.out.trans (hb.mono HB9.out.size)); clear HB9 hb ha9 hb9 hc9 hk9 hrc0)
      | ((with_reducible refine g_load 29 ?_ rfl); refine st_load29 (x := .tmp 3) (by rfl) rfl rfl hk10 ?_))
    have hal := ha10
    have hbl := hb10
    have hcl := hc10
    have HBL := HB10
    clear ha10 hb10 hc10 hk10 HB10
    generalize w10 = W1 at *
    clear hl2 hs2 hl4 hm4 hs4 hl6 hm6 hn6 hs6
    generalize w2.heap.size = b7 at *
    generalize w4.heap.size = b8 at *
    generalize w6.heap.size = b9 at *
    go_loopw [57] (fun x wr => ∃ i : Nat, i ≤ 8 ∧ x = .int .i64 i ∧ Below W1.heap.size W1 wr) (fun x _ => 8 - (intOf x).toNat)
    case atStart => exact ⟨0, by omega, rfl, Below.refl _ _⟩
    case round =>
      obtain ⟨i, hi, rfl, hbel⟩ := hrel
      have HZ := hidI hbel; clear hbel
      by_cases hi8 : i < 8
      · have hlt : (i : Int) < 8 := by omega
        have hlo : (0 : Int) ≤ i := by omega
        have hsz := HZ.out.size
        cases h1 : ((t i).f 2 != 1)
        rotate_left
        · cases h2 : ((t i).f 2 != 2)
          rotate_left
          · go_wp2_with (first
              | ((with_reducible refine g_index 29 ?_ rfl); refine st_index29 (by rfl) rfl rfl rfl hi8 ?_)
              | ((with_reducible refine g_alloc 28 ?_ rfl); refine st_alloc28 (by rfl) rfl ?_; have hq1 := PBlk.new wr zp; have HZ1 := hidI (HZ.out.alloc HZ.out.size (.cells (pcs zp) 28)); clear HZ)
              | ((with_reducible refine g_store 28 ?_ rfl); refine st_pstore28 (by rfl) rfl rfl rfl hq1 ?_; intro w2 hq2 hu2; have HZ2 := hidI (HZ1.out.trans (hu2.below hsz)); have d2 := hq2.int 2 (by decide) (by decide); clear hq1 hu2 HZ1 hq2))
            go_roundw
            case measure => simp [intOf]; omega
            case rel => exact ⟨i + 1, by omega, by go_num, HZ2.out⟩
          · have HL3 : Hid ((t i).f 2 ≠ 3) := by have : (t i).f 2 = 2 := (by simpa using h2); show (t i).f 2 ≠ 3; omega
            go_wp2_with (first
              | ((with_reducible refine g_index 29 ?_ rfl); refine st_index29 (by rfl) rfl rfl rfl hi8 ?_)
              | ((with_reducible refine g_alloc 28 ?_ rfl); refine st_alloc28 (by rfl) rfl ?_; have hq1 := PBlk.new wr zp; have HZ1 := hidI (HZ.out.alloc HZ.out.size (.cells (pcs zp) 28)); clear HZ)
              | ((with_reducible refine g_store 28 ?_ rfl); refine st_pstore28 (by rfl) rfl rfl rfl hq1 ?_; intro w2 hq2 hu2; have HZ2 := hidI (HZ1.out.trans (hu2.below hsz)); have d2 := hq2.int 2 (by decide) (by decide); have ha2 := hal.below HZ2.out hal.lt; have hb2 := hbl.below HZ2.out hbl.lt; have hc2 := hcl.below HZ2.out hcl.lt; clear hq1 hu2 HZ1)
              | ((with_reducible refine g_load 29 ?_ rfl); refine st_load29 (x := .tmp 7) (by rfl) rfl rfl ha2 ?_)
              | ((with_reducible refine g_load 29 ?_ rfl); refine st_load29 (x := .tmp 8) (by rfl) rfl rfl hb2 ?_)
              | ((with_reducible refine g_load 29 ?_ rfl); refine st_load29 (x := .tmp 9) (by rfl) rfl rfl hc2 ?_)
              | ((with_reducible refine g_bslice 43 ?_ rfl); refine st_bslice43 (three aT bT cT) (by rfl) rfl rfl rfl rfl ?_; intro C hT; have hp0 := hq2.alloc (.cells C 29); have HZ := hidI (HZ2.out.alloc HZ2.out.size (.cells C 29)); clear ha2 hb2 hc2 hq2 HZ2 d2))
            generalize wr.heap.size = b14 at *
            generalize w2.heap.size = b72 at *
            generalize (w2.alloc (.cells C 29)) = W0 at *
            have hM1 := HZ.out.size
            have HWk := hidI (Below.refl W0.heap.size W0)
            have hl14 := hp0.lt
            clear hsz
            obtain ⟨M, hM⟩ : ∃ M, M = W0.heap.size := ⟨_, rfl⟩
            rw [← hM] at HWk hl14 hM1
            have hTl : b72 < M := by rw [hM]; exact hT.lt
            have HMM := hidI hM
            clear hM
            refine wp_loop_rounds 4 ?_
            obtain ⟨wk, hwk⟩ : ∃ wk, wk = W0 := ⟨_, rfl⟩
            have HWk : Hid (Below M W0 wk) := by rw [hwk]; exact HWk.out
            rw [← hwk]
            clear hwk
            rw [rounds_succ]
            have hTk := hT.below HWk.out hTl
            have hpk := hp0.below HWk.out hl14
            have hMk : M ≤ wk.heap.size := by rw [HMM.out]; exact HWk.out.size
            go_wp2_with (first
              | ((with_reducible refine g_load 29 ?_ rfl); refine st_loadT (f := three aT bT cT) (k := 0) (by rfl) rfl rfl hTk (by decide) ?_)
              | ((with_reducible refine g_alloc 29 ?_ rfl); refine st_alloc29 (by rfl) rfl ?_; have hz := Blk.new wk tz; have hp1 := hpk.alloc (.cells (tcs tz) 29); have HW1 := hidI (HWk.out.alloc hMk (.cells (tcs tz) 29)); clear hTk hpk HWk)
              | ((with_reducible refine g_store 29 ?_ rfl); refine st_store29 (x := .tmp 16) (by rfl) rfl rfl rfl hz ?_; intro w2 hx2 hu2; have hp2 := hu2.pblk hp1 (by omega); have HW2 := hidI (HW1.out.trans (hu2.below hMk)); have hs2 := hu2.size; rw [World.size_alloc] at hs2; have hM2 : M ≤ w2.heap.size := (by omega); have HS2 := hidI hs2; clear hs2 hu2 hz hp1 HW1)
              | ((with_reducible refine g_load 28 ?_ rfl); refine st_load28 (k := i) (by rfl) rfl rfl hx2 hi8 ?_)
              | ((with_reducible refine g_alloc 28 ?_ rfl); refine st_alloc28 (by rfl) rfl ?_; have hqz := PBlk.new w2 zp; have hp3 := hp2.alloc (.cells (pcs zp) 28); have hx3 := hx2.alloc (.cells (pcs zp) 28); have HW3 := hidI (HW2.out.alloc hM2 (.cells (pcs zp) 28)); clear hp2 hx2 HW2)
              | ((with_reducible refine g_store 28 ?_ rfl); refine st_pstore28 (by rfl) rfl rfl rfl hqz ?_; intro w4 hqa hu4; have hb17 : wk.heap.size < w2.heap.size := (by have := HS2.out; omega); have hp14 := hu4.pblk hp3 (by omega); have hx16 := hu4.blk hx3 (by omega); have HWx := hidI (HW3.out.trans (hu4.below (by omega))); clear hqz hu4 hp3 hx3 HW3 HS2))
            generalize wk.heap.size = b16 at *
            generalize w2.heap.size = b17 at *
            have hqa : PBlk w4.drew b17 (aT i) := hqa
            refine wp_region_held_drew (S := fun wh => PBlk wh b14 (t i) ∧ Blk wh b16 aT ∧ Below M W0 wh) (by kernel_rfl) (⟨hp14.drew, hx16.drew, HWx.out.drew⟩) (fun hHeld => ?_)
            show wpAnyH _ _ _ _ _ (15 + 1) #[false, false, false, false, false, false, false, false, false, false, false, false, false, false, false, false] _ _
            refine wpAnyH_take (i := 0) (v := .pointer (some ⟨b14, 2, none⟩)) rfl (by kernel_rfl) (by kernel_rfl) (by kernel_rfl) (fun _ _ _ h => h) (Or.inl ⟨by rfl, fun _ _ => rfl⟩) hHeld ?_
            show wpAnyH _ _ _ _ _ _ _ (Act.put _ (some 97) _) _
            simp only [Act.put, List.setIfInBounds_toArray, List.set_cons_zero, List.set_cons_succ]
            refine wpAnyH_take (i := 1) (v := .int .i64 ((t i).f 2)) rfl (by kernel_rfl) (by kernel_rfl) (by kernel_rfl) (fun _ _ _ h => h) (yieldsIf_cell (by rfl) rfl rfl (fun wh hS => hS.1.int 2 (by decide) (by decide)) isInt3) hHeld ?_
            show wpAnyH _ _ _ _ _ _ _ (Act.put _ (some 98) _) _
            simp only [Act.put, List.setIfInBounds_toArray, List.set_cons_zero, List.set_cons_succ]
            refine wpAnyH_take (i := 2) (v := .pointer (some ⟨b14, 25, none⟩)) rfl (by kernel_rfl) (by kernel_rfl) (by kernel_rfl) (fun _ _ _ h => h) (Or.inl ⟨by rfl, fun _ _ => rfl⟩) hHeld ?_
            show wpAnyH _ _ _ _ _ _ _ (Act.put _ (some 99) _) _
            simp only [Act.put, List.setIfInBounds_toArray, List.set_cons_zero, List.set_cons_succ]
            refine wpAnyH_take (i := 3) (v := .int .i64 ((t i).f 25)) rfl (by kernel_rfl) (by kernel_rfl) (by kernel_rfl) (fun _ _ _ h => h) (yieldsIf_cell (by rfl) rfl rfl (fun wh hS => hS.1.int 25 (by decide) (by decide)) isInt3) hHeld ?_
            show wpAnyH _ _ _ _ _ _ _ (Act.put _ (some 100) _) _
            simp only [Act.put, List.setIfInBounds_toArray, List.set_cons_zero, List.set_cons_succ]
            refine wpAnyH_take (i := 4) (v := .pointer (some ⟨b14, 26, none⟩)) rfl (by kernel_rfl) (by kernel_rfl) (by kernel_rfl) (fun _ _ _ h => h) (Or.inl ⟨by rfl, fun _ _ => rfl⟩) hHeld ?_
            show wpAnyH _ _ _ _ _ _ _ (Act.put _ (some 101) _) _
            simp only [Act.put, List.setIfInBounds_toArray, List.set_cons_zero, List.set_cons_succ]
            refine wpAnyH_take (i := 5) (v := .int .i64 ((t i).f 26)) rfl (by kernel_rfl) (by kernel_rfl) (by kernel_rfl) (fun _ _ _ h => h) (yieldsIf_cell (by rfl) rfl rfl (fun wh hS => hS.1.int 26 (by decide) (by decide)) isInt3) hHeld ?_
            show wpAnyH _ _ _ _ _ _ _ (Act.put _ (some 102) _) _
            simp only [Act.put, List.setIfInBounds_toArray, List.set_cons_zero, List.set_cons_succ]
            refine wpAnyH_take (i := 6) (v := .pointer (some ⟨b14, 1, none⟩)) rfl (by kernel_rfl) (by kernel_rfl) (by kernel_rfl) (fun _ _ _ h => h) (Or.inl ⟨by rfl, fun _ _ => rfl⟩) hHeld ?_
            show wpAnyH _ _ _ _ _ _ _ (Act.put _ (some 103) _) _
            simp only [Act.put, List.setIfInBounds_toArray, List.set_cons_zero, List.set_cons_succ]
            refine wpAnyH_take (i := 7) (v := .int .i64 ((t i).f 1)) rfl (by kernel_rfl) (by kernel_rfl) (by kernel_rfl) (fun _ _ _ h => h) (yieldsIf_cell (by rfl) rfl rfl (fun wh hS => hS.1.int 1 (by decide) (by decide)) isInt3) hHeld ?_
            show wpAnyH _ _ _ _ _ _ _ (Act.put _ (some 104) _) _
            simp only [Act.put, List.setIfInBounds_toArray, List.set_cons_zero, List.set_cons_succ]
            refine wpAnyH_take (i := 8) (v := .pointer (some ⟨b17, 2, none⟩)) rfl (by kernel_rfl) (by kernel_rfl) (by kernel_rfl) (fun _ _ _ h => h) (Or.inl ⟨by rfl, fun _ _ => rfl⟩) hHeld ?_
            show wpAnyH _ _ _ _ _ _ _ (Act.put _ (some 105) _) _
            simp only [Act.put, List.setIfInBounds_toArray, List.set_cons_zero, List.set_cons_succ]
            refine wpAnyH_all (rs := [9]) (by kernel_rfl) (by simp) (fun i hi' => ?_)
            obtain rfl : i = 9 := by simpa using hi'
            clear hi'
            refine draw_pfield _ (.tmp 105) (.tmp 98) b17 2 ((t i).f 2) (aT i) rfl (by rfl) rfl rfl rfl hqa (by decide) (by decide) (fun w9 hqb hu9 => ?_)
            have hHeld := And.intro (hu9.pblk hHeld.1 (by omega)) (And.intro (hu9.blk hHeld.2.1 (by omega)) (hHeld.2.2.trans (hu9.below (by omega))))
            refine ⟨hHeld, ?_⟩
            clear hu9 hqa
            refine wpAnyH_take (i := 10) (v := .pointer (some ⟨b17, 25, none⟩)) rfl (by kernel_rfl) (by kernel_rfl) (by kernel_rfl) (fun _ _ _ h => h) (Or.inl ⟨by rfl, fun _ _ => rfl⟩) hHeld ?_
            show wpAnyH _ _ _ _ _ _ _ (Act.put _ (some 106) _) _
            simp only [Act.put, List.setIfInBounds_toArray, List.set_cons_zero, List.set_cons_succ]
            refine wpAnyH_all (rs := [11]) (by kernel_rfl) (by simp) (fun i hi' => ?_)
            obtain rfl : i = 11 := by simpa using hi'
            clear hi'
            refine draw_pfield _ (.tmp 106) (.tmp 100) b17 25 ((t i).f 25) (setf (aT i) 2 ((t i).f 2)) rfl (by rfl) rfl rfl rfl hqb (by decide) (by decide) (fun w9 hqc hu9 => ?_)
            have hHeld := And.intro (hu9.pblk hHeld.1 (by omega)) (And.intro (hu9.blk hHeld.2.1 (by omega)) (hHeld.2.2.trans (hu9.below (by omega))))
            refine ⟨hHeld, ?_⟩
            clear hu9 hqb
            refine wpAnyH_take (i := 12) (v := .pointer (some ⟨b17, 26, none⟩)) rfl (by kernel_rfl) (by kernel_rfl) (by kernel_rfl) (fun _ _ _ h => h) (Or.inl ⟨by rfl, fun _ _ => rfl⟩) hHeld ?_
            show wpAnyH _ _ _ _ _ _ _ (Act.put _ (some 107) _) _
            simp only [Act.put, List.setIfInBounds_toArray, List.set_cons_zero, List.set_cons_succ]
            refine wpAnyH_all (rs := [13]) (by kernel_rfl) (by simp) (fun i hi' => ?_)
            obtain rfl : i = 13 := by simpa using hi'
            clear hi'
            refine draw_pfield _ (.tmp 107) (.tmp 102) b17 26 ((t i).f 26) (setf (setf (aT i) 2 ((t i).f 2)) 25 ((t i).f 25)) rfl (by rfl) rfl rfl rfl hqc (by decide) (by decide) (fun w9 hqd hu9 => ?_)
            have hHeld := And.intro (hu9.pblk hHeld.1 (by omega)) (And.intro (hu9.blk hHeld.2.1 (by omega)) (hHeld.2.2.trans (hu9.below (by omega))))
            refine ⟨hHeld, ?_⟩
            clear hu9 hqc
            refine wpAnyH_take (i := 14) (v := .pointer (some ⟨b17, 1, none⟩)) rfl (by kernel_rfl) (by kernel_rfl) (by kernel_rfl) (fun _ _ _ h => h) (Or.inl ⟨by rfl, fun _ _ => rfl⟩) hHeld ?_
            show wpAnyH _ _ _ _ _ _ _ (Act.put _ (some 108) _) _
            simp only [Act.put, List.setIfInBounds_toArray, List.set_cons_zero, List.set_cons_succ]
            refine wpAnyH_all (rs := [15]) (by kernel_rfl) (by simp) (fun i hi' => ?_)
            obtain rfl : i = 15 := by simpa using hi'
            clear hi'
            refine draw_pfield _ (.tmp 108) (.tmp 104) b17 1 ((t i).f 1) (setf (setf (setf (aT i) 2 ((t i).f 2)) 25 ((t i).f 25)) 26 ((t i).f 26)) rfl (by rfl) rfl rfl rfl hqd (by decide) (by decide) (fun w9 hqe hu9 => ?_)
            have hHeld := And.intro (hu9.pblk hHeld.1 (by omega)) (And.intro (hu9.blk hHeld.2.1 (by omega)) (hHeld.2.2.trans (hu9.below (by omega))))
            refine ⟨hHeld, ?_⟩
            clear hu9 hqd
            refine wpAnyH_done (by kernel_rfl) ?_ _
            clear hp14 hx16 HWx
            go_wp2
            have hneq1 : (!eqP (setf (setf (setf (setf (aT i) 2 ((t i).f 2)) 25 ((t i).f 25)) 26 ((t i).f 26)) 1 ((t i).f 1)) (t i)) = false := eqP_no (keep_back (HA.out i hi8).1)
            have hpar : ((aT i).f 1 != (t i).f 1) = false := by rw [(HA.out i hi8).2]; simp
            refine wp_region_held_drew (S := fun wh => PBlk wh b17 (setf (setf (setf (setf (aT i) 2 ((t i).f 2)) 25 ((t i).f 25)) 26 ((t i).f 26)) 1 ((t i).f 1)) ∧ PBlk wh b14 (t i) ∧ Blk wh b16 aT ∧ Below M W0 wh) (by kernel_rfl) (⟨hqe.drew, hHeld.1.drew, hHeld.2.1.drew, hHeld.2.2.drew⟩) (fun hHeld => ?_)
            show wpAnyH _ _ _ _ _ (26 + 1) #[false, false, false, false, false, false, false, false, false, false, false, false, false, false, false, false, false, false, false, false, false, false, false, false, false, false, false] _ _
            refine wpAnyH_take (i := 0) (v := .agg (pcs (setf (setf (setf (setf (aT i) 2 ((t i).f 2)) 25 ((t i).f 25)) 26 ((t i).f 26)) 1 ((t i).f 1)))) rfl (by kernel_rfl) (by kernel_rfl) (by kernel_rfl) (fun _ _ _ h => h) (yieldsIf_row (by rfl) rfl rfl (fun wh hS => hS.1.range) Try.underlying28 rfl (info28l _)) hHeld ?_
            show wpAnyH _ _ _ _ _ _ _ (Act.put _ (some 109) _) _
            simp only [Act.put, List.setIfInBounds_toArray, List.set_cons_zero, List.set_cons_succ]
            refine wpAnyH_take (i := 1) (v := .agg (pcs (t i))) rfl (by kernel_rfl) (by kernel_rfl) (by kernel_rfl) (fun _ _ _ h => h) (yieldsIf_row (by rfl) rfl rfl (fun wh hS => hS.2.1.range) Try.underlying28 rfl (info28l _)) hHeld ?_
            show wpAnyH _ _ _ _ _ _ _ (Act.put _ (some 110) _) _
            simp only [Act.put, List.setIfInBounds_toArray, List.set_cons_zero, List.set_cons_succ]
            refine wpAnyH_take (i := 2) (v := .bool false) rfl (by kernel_rfl) (by kernel_rfl) (by kernel_rfl) (fun _ _ _ h => h) (yieldsIf_neq28 (by rfl) rfl rfl rfl hneq1) hHeld ?_
            show wpAnyH _ _ _ _ _ _ _ (Act.put _ (some 111) _) _
            simp only [Act.put, List.setIfInBounds_toArray, List.set_cons_zero, List.set_cons_succ]
            refine wpAnyH_take (i := 3) (v := .bool false) rfl (by kernel_rfl) (by kernel_rfl) (by kernel_rfl) (fun _ _ _ h => h) (Or.inl ⟨by rfl, fun _ _ => rfl⟩) hHeld ?_
            show wpAnyH _ _ _ _ _ _ _ (Act.put _ (some 112) _) _
            simp only [Act.put, List.setIfInBounds_toArray, List.set_cons_zero, List.set_cons_succ]
            refine wpAnyH_take (i := 4) (v := .int .i64 0) rfl (by kernel_rfl) (by kernel_rfl) (by kernel_rfl) (fun _ _ _ h => h) (Or.inl ⟨by rfl, fun _ _ => rfl⟩) hHeld ?_
            show wpAnyH _ _ _ _ _ _ _ (Act.put _ (some 113) _) _
            simp only [Act.put, List.setIfInBounds_toArray, List.set_cons_zero, List.set_cons_succ]
            refine wpAnyH_take (i := 5) (v := .bool false) rfl (by kernel_rfl) (by kernel_rfl) (by kernel_rfl) (fun _ _ _ h => h) (yb (b := 0 == 2) (by rfl) (fun _ _ => rfl) rfl) hHeld ?_
            show wpAnyH _ _ _ _ _ _ _ (Act.put _ (some 114) _) _
            simp only [Act.put, List.setIfInBounds_toArray, List.set_cons_zero, List.set_cons_succ]
            refine wpAnyH_take (i := 6) (v := .bool false) rfl (by kernel_rfl) (by kernel_rfl) (by kernel_rfl) (fun _ _ _ h => h) (Or.inl ⟨by rfl, fun _ _ => rfl⟩) hHeld ?_
            show wpAnyH _ _ _ _ _ _ _ (Act.put _ (some 115) _) _
            simp only [Act.put, List.setIfInBounds_toArray, List.set_cons_zero, List.set_cons_succ]
            refine wpAnyH_take (i := 7) (v := undef) rfl (by kernel_rfl) (by kernel_rfl) (by kernel_rfl) (fun _ _ _ h => h) (Or.inr ⟨by rfl, rfl⟩) hHeld ?_
            show wpAnyH _ _ _ _ _ _ _ (Act.put _ (some 116) _) _
            simp only [Act.put, List.setIfInBounds_toArray, List.set_cons_zero, List.set_cons_succ]
            refine wpAnyH_take (i := 8) (v := undef) rfl (by kernel_rfl) (by kernel_rfl) (by kernel_rfl) (fun _ _ _ h => h) (Or.inr ⟨by rfl, rfl⟩) hHeld ?_
            show wpAnyH _ _ _ _ _ _ _ (Act.put _ (some 117) _) _
            simp only [Act.put, List.setIfInBounds_toArray, List.set_cons_zero, List.set_cons_succ]
            refine wpAnyH_take (i := 9) (v := undef) rfl (by kernel_rfl) (by kernel_rfl) (by kernel_rfl) (fun _ _ _ h => h) (Or.inr ⟨by rfl, rfl⟩) hHeld ?_
            show wpAnyH _ _ _ _ _ _ _ (Act.put _ (some 118) _) _
            simp only [Act.put, List.setIfInBounds_toArray, List.set_cons_zero, List.set_cons_succ]
            refine wpAnyH_take (i := 10) (v := undef) rfl (by kernel_rfl) (by kernel_rfl) (by kernel_rfl) (fun _ _ _ h => h) (Or.inr ⟨by rfl, rfl⟩) hHeld ?_
            show wpAnyH _ _ _ _ _ _ _ (Act.put _ (some 119) _) _
            simp only [Act.put, List.setIfInBounds_toArray, List.set_cons_zero, List.set_cons_succ]
            refine wpAnyH_take (i := 11) (v := undef) rfl (by kernel_rfl) (by kernel_rfl) (by kernel_rfl) (fun _ _ _ h => h) (Or.inr ⟨by rfl, rfl⟩) hHeld ?_
            show wpAnyH _ _ _ _ _ _ _ (Act.put _ (some 120) _) _
            simp only [Act.put, List.setIfInBounds_toArray, List.set_cons_zero, List.set_cons_succ]
            refine wpAnyH_take (i := 12) (v := .bool false) rfl (by kernel_rfl) (by kernel_rfl) (by kernel_rfl) (fun _ _ _ h => h) (Or.inl ⟨by rfl, fun _ _ => rfl⟩) hHeld ?_
            show wpAnyH _ _ _ _ _ _ _ (Act.put _ (some 121) _) _
            simp only [Act.put, List.setIfInBounds_toArray, List.set_cons_zero, List.set_cons_succ]
            refine wpAnyH_take (i := 13) (v := .bool false) rfl (by kernel_rfl) (by kernel_rfl) (by kernel_rfl) (fun _ _ _ h => h) (Or.inl ⟨by rfl, fun _ _ => rfl⟩) hHeld ?_
            show wpAnyH _ _ _ _ _ _ _ (Act.put _ (some 122) _) _
            simp only [Act.put, List.setIfInBounds_toArray, List.set_cons_zero, List.set_cons_succ]
            refine wpAnyH_take (i := 14) (v := .bool false) rfl (by kernel_rfl) (by kernel_rfl) (by kernel_rfl) (fun _ _ _ h => h) (Or.inl ⟨by rfl, fun _ _ => rfl⟩) hHeld ?_
            show wpAnyH _ _ _ _ _ _ _ (Act.put _ (some 123) _) _
            simp only [Act.put, List.setIfInBounds_toArray, List.set_cons_zero, List.set_cons_succ]
            refine wpAnyH_take (i := 15) (v := .int .i64 0) rfl (by kernel_rfl) (by kernel_rfl) (by kernel_rfl) (fun _ _ _ h => h) (Or.inl ⟨by rfl, fun _ _ => rfl⟩) hHeld ?_
            show wpAnyH _ _ _ _ _ _ _ (Act.put _ (some 124) _) _
            simp only [Act.put, List.setIfInBounds_toArray, List.set_cons_zero, List.set_cons_succ]
            refine wpAnyH_take (i := 16) (v := .bool true) rfl (by kernel_rfl) (by kernel_rfl) (by kernel_rfl) (fun _ _ _ h => h) (yb (b := 0 == 0) (by rfl) (fun _ _ => rfl) rfl) hHeld ?_
            show wpAnyH _ _ _ _ _ _ _ (Act.put _ (some 125) _) _
            simp only [Act.put, List.setIfInBounds_toArray, List.set_cons_zero, List.set_cons_succ]
            refine wpAnyH_take (i := 17) (v := .bool true) rfl (by kernel_rfl) (by kernel_rfl) (by kernel_rfl) (fun _ _ _ h => h) (Or.inl ⟨by rfl, fun _ _ => rfl⟩) hHeld ?_
            show wpAnyH _ _ _ _ _ _ _ (Act.put _ (some 126) _) _
            simp only [Act.put, List.setIfInBounds_toArray, List.set_cons_zero, List.set_cons_succ]
            refine wpAnyH_take (i := 18) (v := .int .i64 (i : Int)) rfl (by kernel_rfl) (by kernel_rfl) (by kernel_rfl) (fun _ _ _ h => h) (Or.inl ⟨by rfl, fun _ _ => rfl⟩) hHeld ?_
            show wpAnyH _ _ _ _ _ _ _ (Act.put _ (some 127) _) _
            simp only [Act.put, List.setIfInBounds_toArray, List.set_cons_zero, List.set_cons_succ]
            refine wpAnyH_take (i := 19) (v := .pointer (some ⟨b16, i * 29, none⟩)) rfl (by kernel_rfl) (by kernel_rfl) (by kernel_rfl) (fun _ _ _ h => h) (Or.inl ⟨by rfl, fun wh hS => by go_simp⟩) hHeld ?_
            show wpAnyH _ _ _ _ _ _ _ (Act.put _ (some 128) _) _
            simp only [Act.put, List.setIfInBounds_toArray, List.set_cons_zero, List.set_cons_succ]
            refine wpAnyH_take (i := 20) (v := .pointer (some ⟨b16, i * 29 + 1, none⟩)) rfl (by kernel_rfl) (by kernel_rfl) (by kernel_rfl) (fun _ _ _ h => h) (Or.inl ⟨by rfl, fun _ _ => rfl⟩) hHeld ?_
            show wpAnyH _ _ _ _ _ _ _ (Act.put _ (some 129) _) _
            simp only [Act.put, List.setIfInBounds_toArray, List.set_cons_zero, List.set_cons_succ]
            refine wpAnyH_take (i := 21) (v := .int .i64 ((aT i).f 1)) rfl (by kernel_rfl) (by kernel_rfl) (by kernel_rfl) (fun _ _ _ h => h) (yieldsIf_cell (by rfl) rfl rfl (fun wh hS => hS.2.2.1.int i 1 hi8 (by decide) (by decide)) isInt3) hHeld ?_
            show wpAnyH _ _ _ _ _ _ _ (Act.put _ (some 130) _) _
            simp only [Act.put, List.setIfInBounds_toArray, List.set_cons_zero, List.set_cons_succ]
            refine wpAnyH_take (i := 22) (v := .pointer (some ⟨b14, 1, none⟩)) rfl (by kernel_rfl) (by kernel_rfl) (by kernel_rfl) (fun _ _ _ h => h) (Or.inl ⟨by rfl, fun _ _ => rfl⟩) hHeld ?_
            show wpAnyH _ _ _ _ _ _ _ (Act.put _ (some 131) _) _
            simp only [Act.put, List.setIfInBounds_toArray, List.set_cons_zero, List.set_cons_succ]
            refine wpAnyH_take (i := 23) (v := .int .i64 ((t i).f 1)) rfl (by kernel_rfl) (by kernel_rfl) (by kernel_rfl) (fun _ _ _ h => h) (yieldsIf_cell (by rfl) rfl rfl (fun wh hS => hS.2.1.int 1 (by decide) (by decide)) isInt3) hHeld ?_
            show wpAnyH _ _ _ _ _ _ _ (Act.put _ (some 132) _) _
            simp only [Act.put, List.setIfInBounds_toArray, List.set_cons_zero, List.set_cons_succ]
            refine wpAnyH_take (i := 24) (v := .bool false) rfl (by kernel_rfl) (by kernel_rfl) (by kernel_rfl) (fun _ _ _ h => h) (yb (b := ((aT i).f 1) != ((t i).f 1)) (by rfl) (fun _ _ => rfl) hpar) hHeld ?_
            show wpAnyH _ _ _ _ _ _ _ (Act.put _ (some 133) _) _
            simp only [Act.put, List.setIfInBounds_toArray, List.set_cons_zero, List.set_cons_succ]
            refine wpAnyH_take (i := 25) (v := .bool false) rfl (by kernel_rfl) (by kernel_rfl) (by kernel_rfl) (fun _ _ _ h => h) (Or.inl ⟨by rfl, fun _ _ => rfl⟩) hHeld ?_
            show wpAnyH _ _ _ _ _ _ _ (Act.put _ (some 134) _) _
            simp only [Act.put, List.setIfInBounds_toArray, List.set_cons_zero, List.set_cons_succ]
            refine wpAnyH_take (i := 26) (v := .bool false) rfl (by kernel_rfl) (by kernel_rfl) (by kernel_rfl) (fun _ _ _ h => h) (Or.inl ⟨by rfl, fun _ _ => rfl⟩) hHeld ?_
            show wpAnyH _ _ _ _ _ _ _ (Act.put _ (some 135) _) _
            simp only [Act.put, List.setIfInBounds_toArray, List.set_cons_zero, List.set_cons_succ]
            refine wpAnyH_done (by kernel_rfl) ?_ _
            obtain ⟨_, _, _, hwn⟩ := hHeld
            have HWk := hidI hwn
            clear hwn hneq1 hpar hqe
            go_wp2
            generalize w9.drew = wk at *
            cases hix : ((i : Int) == index)
            · have HNE : Hid ((i : Int) ≠ index) := by have : ((i : Int) == index) = false := hix; exact hidI (by simpa using this)
              rw [rounds_succ]
              have hTk := hT.below HWk.out hTl
              have hpk := hp0.below HWk.out hl14
              have hMk : M ≤ wk.heap.size := by rw [HMM.out]; exact HWk.out.size
              go_wp2_with (first
                | ((with_reducible refine g_load 29 ?_ rfl); refine st_loadT (f := three aT bT cT) (k := 1) (by rfl) rfl rfl hTk (by decide) ?_)
                | ((with_reducible refine g_alloc 29 ?_ rfl); refine st_alloc29 (by rfl) rfl ?_; have hz := Blk.new wk tz; have hp1 := hpk.alloc (.cells (tcs tz) 29); have HW1 := hidI (HWk.out.alloc hMk (.cells (tcs tz) 29)); clear hTk hpk HWk)
                | ((with_reducible refine g_store 29 ?_ rfl); refine st_store29 (x := .tmp 16) (by rfl) rfl rfl rfl hz ?_; intro w2 hx2 hu2; have hp2 := hu2.pblk hp1 (by omega); have HW2 := hidI (HW1.out.trans (hu2.below hMk)); have hs2 := hu2.size; rw [World.size_alloc] at hs2; have hM2 : M ≤ w2.heap.size := (by omega); have HS2 := hidI hs2; clear hs2 hu2 hz hp1 HW1)
                | ((with_reducible refine g_load 28 ?_ rfl); refine st_load28 (k := i) (by rfl) rfl rfl hx2 hi8 ?_)
                | ((with_reducible refine g_alloc 28 ?_ rfl); refine st_alloc28 (by rfl) rfl ?_; have hqz := PBlk.new w2 zp; have hp3 := hp2.alloc (.cells (pcs zp) 28); have hx3 := hx2.alloc (.cells (pcs zp) 28); have HW3 := hidI (HW2.out.alloc hM2 (.cells (pcs zp) 28)); clear hp2 hx2 HW2)
                | ((with_reducible refine g_store 28 ?_ rfl); refine st_pstore28 (by rfl) rfl rfl rfl hqz ?_; intro w4 hqa hu4; have hb17 : wk.heap.size < w2.heap.size := (by have := HS2.out; omega); have hp14 := hu4.pblk hp3 (by omega); have hx16 := hu4.blk hx3 (by omega); have HWx := hidI (HW3.out.trans (hu4.below (by omega))); clear hqz hu4 hp3 hx3 HW3 HS2))
              generalize wk.heap.size = b16 at *
              generalize w2.heap.size = b17 at *
              have hqa : PBlk w4.drew b17 (bT i) := hqa
              refine wp_region_held_drew (S := fun wh => PBlk wh b14 (t i) ∧ Blk wh b16 bT ∧ Below M W0 wh) (by kernel_rfl) (⟨hp14.drew, hx16.drew, HWx.out.drew⟩) (fun hHeld => ?_)
              show wpAnyH _ _ _ _ _ (15 + 1) #[false, false, false, false, false, false, false, false, false, false, false, false, false, false, false, false] _ _
              refine wpAnyH_take (i := 0) (v := .pointer (some ⟨b14, 2, none⟩)) rfl (by kernel_rfl) (by kernel_rfl) (by kernel_rfl) (fun _ _ _ h => h) (Or.inl ⟨by rfl, fun _ _ => rfl⟩) hHeld ?_
              show wpAnyH _ _ _ _ _ _ _ (Act.put _ (some 97) _) _
              simp only [Act.put, List.setIfInBounds_toArray, List.set_cons_zero, List.set_cons_succ]
              refine wpAnyH_take (i := 1) (v := .int .i64 ((t i).f 2)) rfl (by kernel_rfl) (by kernel_rfl) (by kernel_rfl) (fun _ _ _ h => h) (yieldsIf_cell (by rfl) rfl rfl (fun wh hS => hS.1.int 2 (by decide) (by decide)) isInt3) hHeld ?_
              show wpAnyH _ _ _ _ _ _ _ (Act.put _ (some 98) _) _
              simp only [Act.put, List.setIfInBounds_toArray, List.set_cons_zero, List.set_cons_succ]
              refine wpAnyH_take (i := 2) (v := .pointer (some ⟨b14, 25, none⟩)) rfl (by kernel_rfl) (by kernel_rfl) (by kernel_rfl) (fun _ _ _ h => h) (Or.inl ⟨by rfl, fun _ _ => rfl⟩) hHeld ?_
              show wpAnyH _ _ _ _ _ _ _ (Act.put _ (some 99) _) _
              simp only [Act.put, List.setIfInBounds_toArray, List.set_cons_zero, List.set_cons_succ]
              refine wpAnyH_take (i := 3) (v := .int .i64 ((t i).f 25)) rfl (by kernel_rfl) (by kernel_rfl) (by kernel_rfl) (fun _ _ _ h => h) (yieldsIf_cell (by rfl) rfl rfl (fun wh hS => hS.1.int 25 (by decide) (by decide)) isInt3) hHeld ?_
              show wpAnyH _ _ _ _ _ _ _ (Act.put _ (some 100) _) _
              simp only [Act.put, List.setIfInBounds_toArray, List.set_cons_zero, List.set_cons_succ]
              refine wpAnyH_take (i := 4) (v := .pointer (some ⟨b14, 26, none⟩)) rfl (by kernel_rfl) (by kernel_rfl) (by kernel_rfl) (fun _ _ _ h => h) (Or.inl ⟨by rfl, fun _ _ => rfl⟩) hHeld ?_
              show wpAnyH _ _ _ _ _ _ _ (Act.put _ (some 101) _) _
              simp only [Act.put, List.setIfInBounds_toArray, List.set_cons_zero, List.set_cons_succ]
              refine wpAnyH_take (i := 5) (v := .int .i64 ((t i).f 26)) rfl (by kernel_rfl) (by kernel_rfl) (by kernel_rfl) (fun _ _ _ h => h) (yieldsIf_cell (by rfl) rfl rfl (fun wh hS => hS.1.int 26 (by decide) (by decide)) isInt3) hHeld ?_
              show wpAnyH _ _ _ _ _ _ _ (Act.put _ (some 102) _) _
              simp only [Act.put, List.setIfInBounds_toArray, List.set_cons_zero, List.set_cons_succ]
              refine wpAnyH_take (i := 6) (v := .pointer (some ⟨b14, 1, none⟩)) rfl (by kernel_rfl) (by kernel_rfl) (by kernel_rfl) (fun _ _ _ h => h) (Or.inl ⟨by rfl, fun _ _ => rfl⟩) hHeld ?_
              show wpAnyH _ _ _ _ _ _ _ (Act.put _ (some 103) _) _
              simp only [Act.put, List.setIfInBounds_toArray, List.set_cons_zero, List.set_cons_succ]
              refine wpAnyH_take (i := 7) (v := .int .i64 ((t i).f 1)) rfl (by kernel_rfl) (by kernel_rfl) (by kernel_rfl) (fun _ _ _ h => h) (yieldsIf_cell (by rfl) rfl rfl (fun wh hS => hS.1.int 1 (by decide) (by decide)) isInt3) hHeld ?_
              show wpAnyH _ _ _ _ _ _ _ (Act.put _ (some 104) _) _
              simp only [Act.put, List.setIfInBounds_toArray, List.set_cons_zero, List.set_cons_succ]
              refine wpAnyH_take (i := 8) (v := .pointer (some ⟨b17, 2, none⟩)) rfl (by kernel_rfl) (by kernel_rfl) (by kernel_rfl) (fun _ _ _ h => h) (Or.inl ⟨by rfl, fun _ _ => rfl⟩) hHeld ?_
              show wpAnyH _ _ _ _ _ _ _ (Act.put _ (some 105) _) _
              simp only [Act.put, List.setIfInBounds_toArray, List.set_cons_zero, List.set_cons_succ]
              refine wpAnyH_all (rs := [9]) (by kernel_rfl) (by simp) (fun i hi' => ?_)
              obtain rfl : i = 9 := by simpa using hi'
              clear hi'
              refine draw_pfield _ (.tmp 105) (.tmp 98) b17 2 ((t i).f 2) (bT i) rfl (by rfl) rfl rfl rfl hqa (by decide) (by decide) (fun w9 hqb hu9 => ?_)
              have hHeld := And.intro (hu9.pblk hHeld.1 (by omega)) (And.intro (hu9.blk hHeld.2.1 (by omega)) (hHeld.2.2.trans (hu9.below (by omega))))
              refine ⟨hHeld, ?_⟩
              clear hu9 hqa
              refine wpAnyH_take (i := 10) (v := .pointer (some ⟨b17, 25, none⟩)) rfl (by kernel_rfl) (by kernel_rfl) (by kernel_rfl) (fun _ _ _ h => h) (Or.inl ⟨by rfl, fun _ _ => rfl⟩) hHeld ?_
              show wpAnyH _ _ _ _ _ _ _ (Act.put _ (some 106) _) _
              simp only [Act.put, List.setIfInBounds_toArray, List.set_cons_zero, List.set_cons_succ]
              refine wpAnyH_all (rs := [11]) (by kernel_rfl) (by simp) (fun i hi' => ?_)
              obtain rfl : i = 11 := by simpa using hi'
              clear hi'
              refine draw_pfield _ (.tmp 106) (.tmp 100) b17 25 ((t i).f 25) (setf (bT i) 2 ((t i).f 2)) rfl (by rfl) rfl rfl rfl hqb (by decide) (by decide) (fun w9 hqc hu9 => ?_)
              have hHeld := And.intro (hu9.pblk hHeld.1 (by omega)) (And.intro (hu9.blk hHeld.2.1 (by omega)) (hHeld.2.2.trans (hu9.below (by omega))))
              refine ⟨hHeld, ?_⟩
              clear hu9 hqb
              refine wpAnyH_take (i := 12) (v := .pointer (some ⟨b17, 26, none⟩)) rfl (by kernel_rfl) (by kernel_rfl) (by kernel_rfl) (fun _ _ _ h => h) (Or.inl ⟨by rfl, fun _ _ => rfl⟩) hHeld ?_
              show wpAnyH _ _ _ _ _ _ _ (Act.put _ (some 107) _) _
              simp only [Act.put, List.setIfInBounds_toArray, List.set_cons_zero, List.set_cons_succ]
              refine wpAnyH_all (rs := [13]) (by kernel_rfl) (by simp) (fun i hi' => ?_)
              obtain rfl : i = 13 := by simpa using hi'
              clear hi'
              refine draw_pfield _ (.tmp 107) (.tmp 102) b17 26 ((t i).f 26) (setf (setf (bT i) 2 ((t i).f 2)) 25 ((t i).f 25)) rfl (by rfl) rfl rfl rfl hqc (by decide) (by decide) (fun w9 hqd hu9 => ?_)
              have hHeld := And.intro (hu9.pblk hHeld.1 (by omega)) (And.intro (hu9.blk hHeld.2.1 (by omega)) (hHeld.2.2.trans (hu9.below (by omega))))
              refine ⟨hHeld, ?_⟩
              clear hu9 hqc
              refine wpAnyH_take (i := 14) (v := .pointer (some ⟨b17, 1, none⟩)) rfl (by kernel_rfl) (by kernel_rfl) (by kernel_rfl) (fun _ _ _ h => h) (Or.inl ⟨by rfl, fun _ _ => rfl⟩) hHeld ?_
              show wpAnyH _ _ _ _ _ _ _ (Act.put _ (some 108) _) _
              simp only [Act.put, List.setIfInBounds_toArray, List.set_cons_zero, List.set_cons_succ]
              refine wpAnyH_all (rs := [15]) (by kernel_rfl) (by simp) (fun i hi' => ?_)
              obtain rfl : i = 15 := by simpa using hi'
              clear hi'
              refine draw_pfield _ (.tmp 108) (.tmp 104) b17 1 ((t i).f 1) (setf (setf (setf (bT i) 2 ((t i).f 2)) 25 ((t i).f 25)) 26 ((t i).f 26)) rfl (by rfl) rfl rfl rfl hqd (by decide) (by decide) (fun w9 hqe hu9 => ?_)
              have hHeld := And.intro (hu9.pblk hHeld.1 (by omega)) (And.intro (hu9.blk hHeld.2.1 (by omega)) (hHeld.2.2.trans (hu9.below (by omega))))
              refine ⟨hHeld, ?_⟩
              clear hu9 hqd
              refine wpAnyH_done (by kernel_rfl) ?_ _
              clear hp14 hx16 HWx
              go_wp2
              have hneq1 : (!eqP (setf (setf (setf (setf (bT i) 2 ((t i).f 2)) 25 ((t i).f 25)) 26 ((t i).f 26)) 1 ((t i).f 1)) (t i)) = false := eqP_no (keep_back (HBK.out i hi8 HNE.out HL3.out))
              refine wp_region_held_drew (S := fun wh => PBlk wh b17 (setf (setf (setf (setf (bT i) 2 ((t i).f 2)) 25 ((t i).f 25)) 26 ((t i).f 26)) 1 ((t i).f 1)) ∧ PBlk wh b14 (t i) ∧ Blk wh b16 bT ∧ Below M W0 wh) (by kernel_rfl) (⟨hqe.drew, hHeld.1.drew, hHeld.2.1.drew, hHeld.2.2.drew⟩) (fun hHeld => ?_)
              show wpAnyH _ _ _ _ _ (26 + 1) #[false, false, false, false, false, false, false, false, false, false, false, false, false, false, false, false, false, false, false, false, false, false, false, false, false, false, false] _ _
              refine wpAnyH_take (i := 0) (v := .agg (pcs (setf (setf (setf (setf (bT i) 2 ((t i).f 2)) 25 ((t i).f 25)) 26 ((t i).f 26)) 1 ((t i).f 1)))) rfl (by kernel_rfl) (by kernel_rfl) (by kernel_rfl) (fun _ _ _ h => h) (yieldsIf_row (by rfl) rfl rfl (fun wh hS => hS.1.range) Try.underlying28 rfl (info28l _)) hHeld ?_
              show wpAnyH _ _ _ _ _ _ _ (Act.put _ (some 109) _) _
              simp only [Act.put, List.setIfInBounds_toArray, List.set_cons_zero, List.set_cons_succ]
              refine wpAnyH_take (i := 1) (v := .agg (pcs (t i))) rfl (by kernel_rfl) (by kernel_rfl) (by kernel_rfl) (fun _ _ _ h => h) (yieldsIf_row (by rfl) rfl rfl (fun wh hS => hS.2.1.range) Try.underlying28 rfl (info28l _)) hHeld ?_
              show wpAnyH _ _ _ _ _ _ _ (Act.put _ (some 110) _) _
              simp only [Act.put, List.setIfInBounds_toArray, List.set_cons_zero, List.set_cons_succ]
              refine wpAnyH_take (i := 2) (v := .bool false) rfl (by kernel_rfl) (by kernel_rfl) (by kernel_rfl) (fun _ _ _ h => h) (yieldsIf_neq28 (by rfl) rfl rfl rfl hneq1) hHeld ?_
              show wpAnyH _ _ _ _ _ _ _ (Act.put _ (some 111) _) _
              simp only [Act.put, List.setIfInBounds_toArray, List.set_cons_zero, List.set_cons_succ]
              refine wpAnyH_take (i := 3) (v := .bool false) rfl (by kernel_rfl) (by kernel_rfl) (by kernel_rfl) (fun _ _ _ h => h) (Or.inl ⟨by rfl, fun _ _ => rfl⟩) hHeld ?_
              show wpAnyH _ _ _ _ _ _ _ (Act.put _ (some 112) _) _
              simp only [Act.put, List.setIfInBounds_toArray, List.set_cons_zero, List.set_cons_succ]
              refine wpAnyH_take (i := 4) (v := .int .i64 1) rfl (by kernel_rfl) (by kernel_rfl) (by kernel_rfl) (fun _ _ _ h => h) (Or.inl ⟨by rfl, fun _ _ => rfl⟩) hHeld ?_
              show wpAnyH _ _ _ _ _ _ _ (Act.put _ (some 113) _) _
              simp only [Act.put, List.setIfInBounds_toArray, List.set_cons_zero, List.set_cons_succ]
              refine wpAnyH_take (i := 5) (v := .bool false) rfl (by kernel_rfl) (by kernel_rfl) (by kernel_rfl) (fun _ _ _ h => h) (yb (b := 1 == 2) (by rfl) (fun _ _ => rfl) rfl) hHeld ?_
              show wpAnyH _ _ _ _ _ _ _ (Act.put _ (some 114) _) _
              simp only [Act.put, List.setIfInBounds_toArray, List.set_cons_zero, List.set_cons_succ]
              refine wpAnyH_take (i := 6) (v := .bool false) rfl (by kernel_rfl) (by kernel_rfl) (by kernel_rfl) (fun _ _ _ h => h) (Or.inl ⟨by rfl, fun _ _ => rfl⟩) hHeld ?_
              show wpAnyH _ _ _ _ _ _ _ (Act.put _ (some 115) _) _
              simp only [Act.put, List.setIfInBounds_toArray, List.set_cons_zero, List.set_cons_succ]
              refine wpAnyH_take (i := 7) (v := undef) rfl (by kernel_rfl) (by kernel_rfl) (by kernel_rfl) (fun _ _ _ h => h) (Or.inr ⟨by rfl, rfl⟩) hHeld ?_
              show wpAnyH _ _ _ _ _ _ _ (Act.put _ (some 116) _) _
              simp only [Act.put, List.setIfInBounds_toArray, List.set_cons_zero, List.set_cons_succ]
              refine wpAnyH_take (i := 8) (v := undef) rfl (by kernel_rfl) (by kernel_rfl) (by kernel_rfl) (fun _ _ _ h => h) (Or.inr ⟨by rfl, rfl⟩) hHeld ?_
              show wpAnyH _ _ _ _ _ _ _ (Act.put _ (some 117) _) _
              simp only [Act.put, List.setIfInBounds_toArray, List.set_cons_zero, List.set_cons_succ]
              refine wpAnyH_take (i := 9) (v := undef) rfl (by kernel_rfl) (by kernel_rfl) (by kernel_rfl) (fun _ _ _ h => h) (Or.inr ⟨by rfl, rfl⟩) hHeld ?_
              show wpAnyH _ _ _ _ _ _ _ (Act.put _ (some 118) _) _
              simp only [Act.put, List.setIfInBounds_toArray, List.set_cons_zero, List.set_cons_succ]
              refine wpAnyH_take (i := 10) (v := undef) rfl (by kernel_rfl) (by kernel_rfl) (by kernel_rfl) (fun _ _ _ h => h) (Or.inr ⟨by rfl, rfl⟩) hHeld ?_
              show wpAnyH _ _ _ _ _ _ _ (Act.put _ (some 119) _) _
              simp only [Act.put, List.setIfInBounds_toArray, List.set_cons_zero, List.set_cons_succ]
              refine wpAnyH_take (i := 11) (v := undef) rfl (by kernel_rfl) (by kernel_rfl) (by kernel_rfl) (fun _ _ _ h => h) (Or.inr ⟨by rfl, rfl⟩) hHeld ?_
              show wpAnyH _ _ _ _ _ _ _ (Act.put _ (some 120) _) _
              simp only [Act.put, List.setIfInBounds_toArray, List.set_cons_zero, List.set_cons_succ]
              refine wpAnyH_take (i := 12) (v := .bool false) rfl (by kernel_rfl) (by kernel_rfl) (by kernel_rfl) (fun _ _ _ h => h) (Or.inl ⟨by rfl, fun _ _ => rfl⟩) hHeld ?_
              show wpAnyH _ _ _ _ _ _ _ (Act.put _ (some 121) _) _
              simp only [Act.put, List.setIfInBounds_toArray, List.set_cons_zero, List.set_cons_succ]
              refine wpAnyH_take (i := 13) (v := .bool false) rfl (by kernel_rfl) (by kernel_rfl) (by kernel_rfl) (fun _ _ _ h => h) (Or.inl ⟨by rfl, fun _ _ => rfl⟩) hHeld ?_
              show wpAnyH _ _ _ _ _ _ _ (Act.put _ (some 122) _) _
              simp only [Act.put, List.setIfInBounds_toArray, List.set_cons_zero, List.set_cons_succ]
              refine wpAnyH_take (i := 14) (v := .bool false) rfl (by kernel_rfl) (by kernel_rfl) (by kernel_rfl) (fun _ _ _ h => h) (Or.inl ⟨by rfl, fun _ _ => rfl⟩) hHeld ?_
              show wpAnyH _ _ _ _ _ _ _ (Act.put _ (some 123) _) _
              simp only [Act.put, List.setIfInBounds_toArray, List.set_cons_zero, List.set_cons_succ]
              refine wpAnyH_take (i := 15) (v := .int .i64 1) rfl (by kernel_rfl) (by kernel_rfl) (by kernel_rfl) (fun _ _ _ h => h) (Or.inl ⟨by rfl, fun _ _ => rfl⟩) hHeld ?_
              show wpAnyH _ _ _ _ _ _ _ (Act.put _ (some 124) _) _
              simp only [Act.put, List.setIfInBounds_toArray, List.set_cons_zero, List.set_cons_succ]
              refine wpAnyH_take (i := 16) (v := .bool false) rfl (by kernel_rfl) (by kernel_rfl) (by kernel_rfl) (fun _ _ _ h => h) (yb (b := 1 == 0) (by rfl) (fun _ _ => rfl) rfl) hHeld ?_
              show wpAnyH _ _ _ _ _ _ _ (Act.put _ (some 125) _) _
              simp only [Act.put, List.setIfInBounds_toArray, List.set_cons_zero, List.set_cons_succ]
              refine wpAnyH_take (i := 17) (v := .bool false) rfl (by kernel_rfl) (by kernel_rfl) (by kernel_rfl) (fun _ _ _ h => h) (Or.inl ⟨by rfl, fun _ _ => rfl⟩) hHeld ?_
              show wpAnyH _ _ _ _ _ _ _ (Act.put _ (some 126) _) _
              simp only [Act.put, List.setIfInBounds_toArray, List.set_cons_zero, List.set_cons_succ]
              refine wpAnyH_take (i := 18) (v := undef) rfl (by kernel_rfl) (by kernel_rfl) (by kernel_rfl) (fun _ _ _ h => h) (Or.inr ⟨by rfl, rfl⟩) hHeld ?_
              show wpAnyH _ _ _ _ _ _ _ (Act.put _ (some 127) _) _
              simp only [Act.put, List.setIfInBounds_toArray, List.set_cons_zero, List.set_cons_succ]
              refine wpAnyH_take (i := 19) (v := undef) rfl (by kernel_rfl) (by kernel_rfl) (by kernel_rfl) (fun _ _ _ h => h) (Or.inr ⟨by rfl, rfl⟩) hHeld ?_
              show wpAnyH _ _ _ _ _ _ _ (Act.put _ (some 128) _) _
              simp only [Act.put, List.setIfInBounds_toArray, List.set_cons_zero, List.set_cons_succ]
              refine wpAnyH_take (i := 20) (v := undef) rfl (by kernel_rfl) (by kernel_rfl) (by kernel_rfl) (fun _ _ _ h => h) (Or.inr ⟨by rfl, rfl⟩) hHeld ?_
              show wpAnyH _ _ _ _ _ _ _ (Act.put _ (some 129) _) _
              simp only [Act.put, List.setIfInBounds_toArray, List.set_cons_zero, List.set_cons_succ]
              refine wpAnyH_take (i := 21) (v := undef) rfl (by kernel_rfl) (by kernel_rfl) (by kernel_rfl) (fun _ _ _ h => h) (Or.inr ⟨by rfl, rfl⟩) hHeld ?_
              show wpAnyH _ _ _ _ _ _ _ (Act.put _ (some 130) _) _
              simp only [Act.put, List.setIfInBounds_toArray, List.set_cons_zero, List.set_cons_succ]
              refine wpAnyH_take (i := 22) (v := undef) rfl (by kernel_rfl) (by kernel_rfl) (by kernel_rfl) (fun _ _ _ h => h) (Or.inr ⟨by rfl, rfl⟩) hHeld ?_
              show wpAnyH _ _ _ _ _ _ _ (Act.put _ (some 131) _) _
              simp only [Act.put, List.setIfInBounds_toArray, List.set_cons_zero, List.set_cons_succ]
              refine wpAnyH_take (i := 23) (v := undef) rfl (by kernel_rfl) (by kernel_rfl) (by kernel_rfl) (fun _ _ _ h => h) (Or.inr ⟨by rfl, rfl⟩) hHeld ?_
              show wpAnyH _ _ _ _ _ _ _ (Act.put _ (some 132) _) _
              simp only [Act.put, List.setIfInBounds_toArray, List.set_cons_zero, List.set_cons_succ]
              refine wpAnyH_take (i := 24) (v := undef) rfl (by kernel_rfl) (by kernel_rfl) (by kernel_rfl) (fun _ _ _ h => h) (Or.inr ⟨by rfl, rfl⟩) hHeld ?_
              show wpAnyH _ _ _ _ _ _ _ (Act.put _ (some 133) _) _
              simp only [Act.put, List.setIfInBounds_toArray, List.set_cons_zero, List.set_cons_succ]
              refine wpAnyH_take (i := 25) (v := .bool false) rfl (by kernel_rfl) (by kernel_rfl) (by kernel_rfl) (fun _ _ _ h => h) (Or.inl ⟨by rfl, fun _ _ => rfl⟩) hHeld ?_
              show wpAnyH _ _ _ _ _ _ _ (Act.put _ (some 134) _) _
              simp only [Act.put, List.setIfInBounds_toArray, List.set_cons_zero, List.set_cons_succ]
              refine wpAnyH_take (i := 26) (v := .bool false) rfl (by kernel_rfl) (by kernel_rfl) (by kernel_rfl) (fun _ _ _ h => h) (Or.inl ⟨by rfl, fun _ _ => rfl⟩) hHeld ?_
              show wpAnyH _ _ _ _ _ _ _ (Act.put _ (some 135) _) _
              simp only [Act.put, List.setIfInBounds_toArray, List.set_cons_zero, List.set_cons_succ]
              refine wpAnyH_done (by kernel_rfl) ?_ _
              obtain ⟨_, _, _, hwn⟩ := hHeld
              have HWk := hidI hwn
              clear hwn hneq1 hqe
              go_wp2
              generalize w9.drew = wk at *
              rw [rounds_succ]
              have hTk := hT.below HWk.out hTl
              have hpk := hp0.below HWk.out hl14
              have hMk : M ≤ wk.heap.size := by rw [HMM.out]; exact HWk.out.size
              go_wp2_with (first
                | ((with_reducible refine g_load 29 ?_ rfl); refine st_loadT (f := three aT bT cT) (k := 2) (by rfl) rfl rfl hTk (by decide) ?_)
                | ((with_reducible refine g_alloc 29 ?_ rfl); refine st_alloc29 (by rfl) rfl ?_; have hz := Blk.new wk tz; have hp1 := hpk.alloc (.cells (tcs tz) 29); have HW1 := hidI (HWk.out.alloc hMk (.cells (tcs tz) 29)); clear hTk hpk HWk)
                | ((with_reducible refine g_store 29 ?_ rfl); refine st_store29 (x := .tmp 16) (by rfl) rfl rfl rfl hz ?_; intro w2 hx2 hu2; have hp2 := hu2.pblk hp1 (by omega); have HW2 := hidI (HW1.out.trans (hu2.below hMk)); have hs2 := hu2.size; rw [World.size_alloc] at hs2; have hM2 : M ≤ w2.heap.size := (by omega); have HS2 := hidI hs2; clear hs2 hu2 hz hp1 HW1)
                | ((with_reducible refine g_load 28 ?_ rfl); refine st_load28 (k := i) (by rfl) rfl rfl hx2 hi8 ?_)
                | ((with_reducible refine g_alloc 28 ?_ rfl); refine st_alloc28 (by rfl) rfl ?_; have hqz := PBlk.new w2 zp; have hp3 := hp2.alloc (.cells (pcs zp) 28); have hx3 := hx2.alloc (.cells (pcs zp) 28); have HW3 := hidI (HW2.out.alloc hM2 (.cells (pcs zp) 28)); clear hp2 hx2 HW2)
                | ((with_reducible refine g_store 28 ?_ rfl); refine st_pstore28 (by rfl) rfl rfl rfl hqz ?_; intro w4 hqa hu4; have hb17 : wk.heap.size < w2.heap.size := (by have := HS2.out; omega); have hp14 := hu4.pblk hp3 (by omega); have hx16 := hu4.blk hx3 (by omega); have HWx := hidI (HW3.out.trans (hu4.below (by omega))); clear hqz hu4 hp3 hx3 HW3 HS2))
              generalize wk.heap.size = b16 at *
              generalize w2.heap.size = b17 at *
              have hqa : PBlk w4.drew b17 (cT i) := hqa
              refine wp_region_held_drew (S := fun wh => PBlk wh b14 (t i) ∧ Blk wh b16 cT ∧ Below M W0 wh) (by kernel_rfl) (⟨hp14.drew, hx16.drew, HWx.out.drew⟩) (fun hHeld => ?_)
              show wpAnyH _ _ _ _ _ (15 + 1) #[false, false, false, false, false, false, false, false, false, false, false, false, false, false, false, false] _ _
              refine wpAnyH_take (i := 0) (v := .pointer (some ⟨b14, 2, none⟩)) rfl (by kernel_rfl) (by kernel_rfl) (by kernel_rfl) (fun _ _ _ h => h) (Or.inl ⟨by rfl, fun _ _ => rfl⟩) hHeld ?_
              show wpAnyH _ _ _ _ _ _ _ (Act.put _ (some 97) _) _
              simp only [Act.put, List.setIfInBounds_toArray, List.set_cons_zero, List.set_cons_succ]
              refine wpAnyH_take (i := 1) (v := .int .i64 ((t i).f 2)) rfl (by kernel_rfl) (by kernel_rfl) (by kernel_rfl) (fun _ _ _ h => h) (yieldsIf_cell (by rfl) rfl rfl (fun wh hS => hS.1.int 2 (by decide) (by decide)) isInt3) hHeld ?_
              show wpAnyH _ _ _ _ _ _ _ (Act.put _ (some 98) _) _
              simp only [Act.put, List.setIfInBounds_toArray, List.set_cons_zero, List.set_cons_succ]
              refine wpAnyH_take (i := 2) (v := .pointer (some ⟨b14, 25, none⟩)) rfl (by kernel_rfl) (by kernel_rfl) (by kernel_rfl) (fun _ _ _ h => h) (Or.inl ⟨by rfl, fun _ _ => rfl⟩) hHeld ?_
              show wpAnyH _ _ _ _ _ _ _ (Act.put _ (some 99) _) _
              simp only [Act.put, List.setIfInBounds_toArray, List.set_cons_zero, List.set_cons_succ]
              refine wpAnyH_take (i := 3) (v := .int .i64 ((t i).f 25)) rfl (by kernel_rfl) (by kernel_rfl) (by kernel_rfl) (fun _ _ _ h => h) (yieldsIf_cell (by rfl) rfl rfl (fun wh hS => hS.1.int 25 (by decide) (by decide)) isInt3) hHeld ?_
              show wpAnyH _ _ _ _ _ _ _ (Act.put _ (some 100) _) _
              simp only [Act.put, List.setIfInBounds_toArray, List.set_cons_zero, List.set_cons_succ]
              refine wpAnyH_take (i := 4) (v := .pointer (some ⟨b14, 26, none⟩)) rfl (by kernel_rfl) (by kernel_rfl) (by kernel_rfl) (fun _ _ _ h => h) (Or.inl ⟨by rfl, fun _ _ => rfl⟩) hHeld ?_
              show wpAnyH _ _ _ _ _ _ _ (Act.put _ (some 101) _) _
              simp only [Act.put, List.setIfInBounds_toArray, List.set_cons_zero, List.set_cons_succ]
              refine wpAnyH_take (i := 5) (v := .int .i64 ((t i).f 26)) rfl (by kernel_rfl) (by kernel_rfl) (by kernel_rfl) (fun _ _ _ h => h) (yieldsIf_cell (by rfl) rfl rfl (fun wh hS => hS.1.int 26 (by decide) (by decide)) isInt3) hHeld ?_
              show wpAnyH _ _ _ _ _ _ _ (Act.put _ (some 102) _) _
              simp only [Act.put, List.setIfInBounds_toArray, List.set_cons_zero, List.set_cons_succ]
              refine wpAnyH_take (i := 6) (v := .pointer (some ⟨b14, 1, none⟩)) rfl (by kernel_rfl) (by kernel_rfl) (by kernel_rfl) (fun _ _ _ h => h) (Or.inl ⟨by rfl, fun _ _ => rfl⟩) hHeld ?_
              show wpAnyH _ _ _ _ _ _ _ (Act.put _ (some 103) _) _
              simp only [Act.put, List.setIfInBounds_toArray, List.set_cons_zero, List.set_cons_succ]
              refine wpAnyH_take (i := 7) (v := .int .i64 ((t i).f 1)) rfl (by kernel_rfl) (by kernel_rfl) (by kernel_rfl) (fun _ _ _ h => h) (yieldsIf_cell (by rfl) rfl rfl (fun wh hS => hS.1.int 1 (by decide) (by decide)) isInt3) hHeld ?_
              show wpAnyH _ _ _ _ _ _ _ (Act.put _ (some 104) _) _
              simp only [Act.put, List.setIfInBounds_toArray, List.set_cons_zero, List.set_cons_succ]
              refine wpAnyH_take (i := 8) (v := .pointer (some ⟨b17, 2, none⟩)) rfl (by kernel_rfl) (by kernel_rfl) (by kernel_rfl) (fun _ _ _ h => h) (Or.inl ⟨by rfl, fun _ _ => rfl⟩) hHeld ?_
              show wpAnyH _ _ _ _ _ _ _ (Act.put _ (some 105) _) _
              simp only [Act.put, List.setIfInBounds_toArray, List.set_cons_zero, List.set_cons_succ]
              refine wpAnyH_all (rs := [9]) (by kernel_rfl) (by simp) (fun i hi' => ?_)
              obtain rfl : i = 9 := by simpa using hi'
              clear hi'
              refine draw_pfield _ (.tmp 105) (.tmp 98) b17 2 ((t i).f 2) (cT i) rfl (by rfl) rfl rfl rfl hqa (by decide) (by decide) (fun w9 hqb hu9 => ?_)
              have hHeld := And.intro (hu9.pblk hHeld.1 (by omega)) (And.intro (hu9.blk hHeld.2.1 (by omega)) (hHeld.2.2.trans (hu9.below (by omega))))
              refine ⟨hHeld, ?_⟩
              clear hu9 hqa
              refine wpAnyH_take (i := 10) (v := .pointer (some ⟨b17, 25, none⟩)) rfl (by kernel_rfl) (by kernel_rfl) (by kernel_rfl) (fun _ _ _ h => h) (Or.inl ⟨by rfl, fun _ _ => rfl⟩) hHeld ?_
              show wpAnyH _ _ _ _ _ _ _ (Act.put _ (some 106) _) _
              simp only [Act.put, List.setIfInBounds_toArray, List.set_cons_zero, List.set_cons_succ]
              refine wpAnyH_all (rs := [11]) (by kernel_rfl) (by simp) (fun i hi' => ?_)
              obtain rfl : i = 11 := by simpa using hi'
              clear hi'
              refine draw_pfield _ (.tmp 106) (.tmp 100) b17 25 ((t i).f 25) (setf (cT i) 2 ((t i).f 2)) rfl (by rfl) rfl rfl rfl hqb (by decide) (by decide) (fun w9 hqc hu9 => ?_)
              have hHeld := And.intro (hu9.pblk hHeld.1 (by omega)) (And.intro (hu9.blk hHeld.2.1 (by omega)) (hHeld.2.2.trans (hu9.below (by omega))))
              refine ⟨hHeld, ?_⟩
              clear hu9 hqb
              refine wpAnyH_take (i := 12) (v := .pointer (some ⟨b17, 26, none⟩)) rfl (by kernel_rfl) (by kernel_rfl) (by kernel_rfl) (fun _ _ _ h => h) (Or.inl ⟨by rfl, fun _ _ => rfl⟩) hHeld ?_
              show wpAnyH _ _ _ _ _ _ _ (Act.put _ (some 107) _) _
              simp only [Act.put, List.setIfInBounds_toArray, List.set_cons_zero, List.set_cons_succ]
              refine wpAnyH_all (rs := [13]) (by kernel_rfl) (by simp) (fun i hi' => ?_)
              obtain rfl : i = 13 := by simpa using hi'
              clear hi'
              refine draw_pfield _ (.tmp 107) (.tmp 102) b17 26 ((t i).f 26) (setf (setf (cT i) 2 ((t i).f 2)) 25 ((t i).f 25)) rfl (by rfl) rfl rfl rfl hqc (by decide) (by decide) (fun w9 hqd hu9 => ?_)
              have hHeld := And.intro (hu9.pblk hHeld.1 (by omega)) (And.intro (hu9.blk hHeld.2.1 (by omega)) (hHeld.2.2.trans (hu9.below (by omega))))
              refine ⟨hHeld, ?_⟩
              clear hu9 hqc
              refine wpAnyH_take (i := 14) (v := .pointer (some ⟨b17, 1, none⟩)) rfl (by kernel_rfl) (by kernel_rfl) (by kernel_rfl) (fun _ _ _ h => h) (Or.inl ⟨by rfl, fun _ _ => rfl⟩) hHeld ?_
              show wpAnyH _ _ _ _ _ _ _ (Act.put _ (some 108) _) _
              simp only [Act.put, List.setIfInBounds_toArray, List.set_cons_zero, List.set_cons_succ]
              refine wpAnyH_all (rs := [15]) (by kernel_rfl) (by simp) (fun i hi' => ?_)
              obtain rfl : i = 15 := by simpa using hi'
              clear hi'
              refine draw_pfield _ (.tmp 108) (.tmp 104) b17 1 ((t i).f 1) (setf (setf (setf (cT i) 2 ((t i).f 2)) 25 ((t i).f 25)) 26 ((t i).f 26)) rfl (by rfl) rfl rfl rfl hqd (by decide) (by decide) (fun w9 hqe hu9 => ?_)
              have hHeld := And.intro (hu9.pblk hHeld.1 (by omega)) (And.intro (hu9.blk hHeld.2.1 (by omega)) (hHeld.2.2.trans (hu9.below (by omega))))
              refine ⟨hHeld, ?_⟩
              clear hu9 hqd
              refine wpAnyH_done (by kernel_rfl) ?_ _
              clear hp14 hx16 HWx
              go_wp2
              have hcti := HC.out i HL3.out
              have hneq1 : (!eqP (setf (setf (setf (setf (cT i) 2 ((t i).f 2)) 25 ((t i).f 25)) 26 ((t i).f 26)) 1 ((t i).f 1)) (t i)) = false := eqP_no (keep_back (by rw [hcti]; exact keep_refl _))
              have hneq2 : (!eqP (cT i) (t i)) = false := eqP_no (by rw [hcti])
              clear hcti
              refine wp_region_held_drew (S := fun wh => PBlk wh b17 (setf (setf (setf (setf (cT i) 2 ((t i).f 2)) 25 ((t i).f 25)) 26 ((t i).f 26)) 1 ((t i).f 1)) ∧ PBlk wh b14 (t i) ∧ Blk wh b16 cT ∧ Below M W0 wh) (by kernel_rfl) (⟨hqe.drew, hHeld.1.drew, hHeld.2.1.drew, hHeld.2.2.drew⟩) (fun hHeld => ?_)
              show wpAnyH _ _ _ _ _ (26 + 1) #[false, false, false, false, false, false, false, false, false, false, false, false, false, false, false, false, false, false, false, false, false, false, false, false, false, false, false] _ _
              refine wpAnyH_take (i := 0) (v := .agg (pcs (setf (setf (setf (setf (cT i) 2 ((t i).f 2)) 25 ((t i).f 25)) 26 ((t i).f 26)) 1 ((t i).f 1)))) rfl (by kernel_rfl) (by kernel_rfl) (by kernel_rfl) (fun _ _ _ h => h) (yieldsIf_row (by rfl) rfl rfl (fun wh hS => hS.1.range) Try.underlying28 rfl (info28l _)) hHeld ?_
              show wpAnyH _ _ _ _ _ _ _ (Act.put _ (some 109) _) _
              simp only [Act.put, List.setIfInBounds_toArray, List.set_cons_zero, List.set_cons_succ]
              refine wpAnyH_take (i := 1) (v := .agg (pcs (t i))) rfl (by kernel_rfl) (by kernel_rfl) (by kernel_rfl) (fun _ _ _ h => h) (yieldsIf_row (by rfl) rfl rfl (fun wh hS => hS.2.1.range) Try.underlying28 rfl (info28l _)) hHeld ?_
              show wpAnyH _ _ _ _ _ _ _ (Act.put _ (some 110) _) _
              simp only [Act.put, List.setIfInBounds_toArray, List.set_cons_zero, List.set_cons_succ]
              refine wpAnyH_take (i := 2) (v := .bool false) rfl (by kernel_rfl) (by kernel_rfl) (by kernel_rfl) (fun _ _ _ h => h) (yieldsIf_neq28 (by rfl) rfl rfl rfl hneq1) hHeld ?_
              show wpAnyH _ _ _ _ _ _ _ (Act.put _ (some 111) _) _
              simp only [Act.put, List.setIfInBounds_toArray, List.set_cons_zero, List.set_cons_succ]
              refine wpAnyH_take (i := 3) (v := .bool false) rfl (by kernel_rfl) (by kernel_rfl) (by kernel_rfl) (fun _ _ _ h => h) (Or.inl ⟨by rfl, fun _ _ => rfl⟩) hHeld ?_
              show wpAnyH _ _ _ _ _ _ _ (Act.put _ (some 112) _) _
              simp only [Act.put, List.setIfInBounds_toArray, List.set_cons_zero, List.set_cons_succ]
              refine wpAnyH_take (i := 4) (v := .int .i64 2) rfl (by kernel_rfl) (by kernel_rfl) (by kernel_rfl) (fun _ _ _ h => h) (Or.inl ⟨by rfl, fun _ _ => rfl⟩) hHeld ?_
              show wpAnyH _ _ _ _ _ _ _ (Act.put _ (some 113) _) _
              simp only [Act.put, List.setIfInBounds_toArray, List.set_cons_zero, List.set_cons_succ]
              refine wpAnyH_take (i := 5) (v := .bool true) rfl (by kernel_rfl) (by kernel_rfl) (by kernel_rfl) (fun _ _ _ h => h) (yb (b := 2 == 2) (by rfl) (fun _ _ => rfl) rfl) hHeld ?_
              show wpAnyH _ _ _ _ _ _ _ (Act.put _ (some 114) _) _
              simp only [Act.put, List.setIfInBounds_toArray, List.set_cons_zero, List.set_cons_succ]
              refine wpAnyH_take (i := 6) (v := .bool true) rfl (by kernel_rfl) (by kernel_rfl) (by kernel_rfl) (fun _ _ _ h => h) (Or.inl ⟨by rfl, fun _ _ => rfl⟩) hHeld ?_
              show wpAnyH _ _ _ _ _ _ _ (Act.put _ (some 115) _) _
              simp only [Act.put, List.setIfInBounds_toArray, List.set_cons_zero, List.set_cons_succ]
              refine wpAnyH_take (i := 7) (v := .int .i64 (i : Int)) rfl (by kernel_rfl) (by kernel_rfl) (by kernel_rfl) (fun _ _ _ h => h) (Or.inl ⟨by rfl, fun _ _ => rfl⟩) hHeld ?_
              show wpAnyH _ _ _ _ _ _ _ (Act.put _ (some 116) _) _
              simp only [Act.put, List.setIfInBounds_toArray, List.set_cons_zero, List.set_cons_succ]
              refine wpAnyH_take (i := 8) (v := .pointer (some ⟨b16, i * 29, none⟩)) rfl (by kernel_rfl) (by kernel_rfl) (by kernel_rfl) (fun _ _ _ h => h) (Or.inl ⟨by rfl, fun wh hS => by go_simp⟩) hHeld ?_
              show wpAnyH _ _ _ _ _ _ _ (Act.put _ (some 117) _) _
              simp only [Act.put, List.setIfInBounds_toArray, List.set_cons_zero, List.set_cons_succ]
              refine wpAnyH_take (i := 9) (v := .agg (pcs (cT i))) rfl (by kernel_rfl) (by kernel_rfl) (by kernel_rfl) (fun _ _ _ h => h) (yieldsIf_row (by rfl) rfl rfl (fun wh hS => hS.2.2.1.range i hi8) Try.underlying28 rfl (info28l _)) hHeld ?_
              show wpAnyH _ _ _ _ _ _ _ (Act.put _ (some 118) _) _
              simp only [Act.put, List.setIfInBounds_toArray, List.set_cons_zero, List.set_cons_succ]
              refine wpAnyH_take (i := 10) (v := .agg (pcs (t i))) rfl (by kernel_rfl) (by kernel_rfl) (by kernel_rfl) (fun _ _ _ h => h) (yieldsIf_row (by rfl) rfl rfl (fun wh hS => hS.2.1.range) Try.underlying28 rfl (info28l _)) hHeld ?_
              show wpAnyH _ _ _ _ _ _ _ (Act.put _ (some 119) _) _
              simp only [Act.put, List.setIfInBounds_toArray, List.set_cons_zero, List.set_cons_succ]
              refine wpAnyH_take (i := 11) (v := .bool false) rfl (by kernel_rfl) (by kernel_rfl) (by kernel_rfl) (fun _ _ _ h => h) (yieldsIf_neq28 (by rfl) rfl rfl rfl hneq2) hHeld ?_
              show wpAnyH _ _ _ _ _ _ _ (Act.put _ (some 120) _) _
              simp only [Act.put, List.setIfInBounds_toArray, List.set_cons_zero, List.set_cons_succ]
              refine wpAnyH_take (i := 12) (v := .bool false) rfl (by kernel_rfl) (by kernel_rfl) (by kernel_rfl) (fun _ _ _ h => h) (Or.inl ⟨by rfl, fun _ _ => rfl⟩) hHeld ?_
              show wpAnyH _ _ _ _ _ _ _ (Act.put _ (some 121) _) _
              simp only [Act.put, List.setIfInBounds_toArray, List.set_cons_zero, List.set_cons_succ]
              refine wpAnyH_take (i := 13) (v := .bool false) rfl (by kernel_rfl) (by kernel_rfl) (by kernel_rfl) (fun _ _ _ h => h) (Or.inl ⟨by rfl, fun _ _ => rfl⟩) hHeld ?_
              show wpAnyH _ _ _ _ _ _ _ (Act.put _ (some 122) _) _
              simp only [Act.put, List.setIfInBounds_toArray, List.set_cons_zero, List.set_cons_succ]
              refine wpAnyH_take (i := 14) (v := .bool false) rfl (by kernel_rfl) (by kernel_rfl) (by kernel_rfl) (fun _ _ _ h => h) (Or.inl ⟨by rfl, fun _ _ => rfl⟩) hHeld ?_
              show wpAnyH _ _ _ _ _ _ _ (Act.put _ (some 123) _) _
              simp only [Act.put, List.setIfInBounds_toArray, List.set_cons_zero, List.set_cons_succ]
              refine wpAnyH_take (i := 15) (v := .int .i64 2) rfl (by kernel_rfl) (by kernel_rfl) (by kernel_rfl) (fun _ _ _ h => h) (Or.inl ⟨by rfl, fun _ _ => rfl⟩) hHeld ?_
              show wpAnyH _ _ _ _ _ _ _ (Act.put _ (some 124) _) _
              simp only [Act.put, List.setIfInBounds_toArray, List.set_cons_zero, List.set_cons_succ]
              refine wpAnyH_take (i := 16) (v := .bool false) rfl (by kernel_rfl) (by kernel_rfl) (by kernel_rfl) (fun _ _ _ h => h) (yb (b := 2 == 0) (by rfl) (fun _ _ => rfl) rfl) hHeld ?_
              show wpAnyH _ _ _ _ _ _ _ (Act.put _ (some 125) _) _
              simp only [Act.put, List.setIfInBounds_toArray, List.set_cons_zero, List.set_cons_succ]
              refine wpAnyH_take (i := 17) (v := .bool false) rfl (by kernel_rfl) (by kernel_rfl) (by kernel_rfl) (fun _ _ _ h => h) (Or.inl ⟨by rfl, fun _ _ => rfl⟩) hHeld ?_
              show wpAnyH _ _ _ _ _ _ _ (Act.put _ (some 126) _) _
              simp only [Act.put, List.setIfInBounds_toArray, List.set_cons_zero, List.set_cons_succ]
              refine wpAnyH_take (i := 18) (v := undef) rfl (by kernel_rfl) (by kernel_rfl) (by kernel_rfl) (fun _ _ _ h => h) (Or.inr ⟨by rfl, rfl⟩) hHeld ?_
              show wpAnyH _ _ _ _ _ _ _ (Act.put _ (some 127) _) _
              simp only [Act.put, List.setIfInBounds_toArray, List.set_cons_zero, List.set_cons_succ]
              refine wpAnyH_take (i := 19) (v := undef) rfl (by kernel_rfl) (by kernel_rfl) (by kernel_rfl) (fun _ _ _ h => h) (Or.inr ⟨by rfl, rfl⟩) hHeld ?_
              show wpAnyH _ _ _ _ _ _ _ (Act.put _ (some 128) _) _
              simp only [Act.put, List.setIfInBounds_toArray, List.set_cons_zero, List.set_cons_succ]
              refine wpAnyH_take (i := 20) (v := undef) rfl (by kernel_rfl) (by kernel_rfl) (by kernel_rfl) (fun _ _ _ h => h) (Or.inr ⟨by rfl, rfl⟩) hHeld ?_
              show wpAnyH _ _ _ _ _ _ _ (Act.put _ (some 129) _) _
              simp only [Act.put, List.setIfInBounds_toArray, List.set_cons_zero, List.set_cons_succ]
              refine wpAnyH_take (i := 21) (v := undef) rfl (by kernel_rfl) (by kernel_rfl) (by kernel_rfl) (fun _ _ _ h => h) (Or.inr ⟨by rfl, rfl⟩) hHeld ?_
              show wpAnyH _ _ _ _ _ _ _ (Act.put _ (some 130) _) _
              simp only [Act.put, List.setIfInBounds_toArray, List.set_cons_zero, List.set_cons_succ]
              refine wpAnyH_take (i := 22) (v := undef) rfl (by kernel_rfl) (by kernel_rfl) (by kernel_rfl) (fun _ _ _ h => h) (Or.inr ⟨by rfl, rfl⟩) hHeld ?_
              show wpAnyH _ _ _ _ _ _ _ (Act.put _ (some 131) _) _
              simp only [Act.put, List.setIfInBounds_toArray, List.set_cons_zero, List.set_cons_succ]
              refine wpAnyH_take (i := 23) (v := undef) rfl (by kernel_rfl) (by kernel_rfl) (by kernel_rfl) (fun _ _ _ h => h) (Or.inr ⟨by rfl, rfl⟩) hHeld ?_
              show wpAnyH _ _ _ _ _ _ _ (Act.put _ (some 132) _) _
              simp only [Act.put, List.setIfInBounds_toArray, List.set_cons_zero, List.set_cons_succ]
              refine wpAnyH_take (i := 24) (v := undef) rfl (by kernel_rfl) (by kernel_rfl) (by kernel_rfl) (fun _ _ _ h => h) (Or.inr ⟨by rfl, rfl⟩) hHeld ?_
              show wpAnyH _ _ _ _ _ _ _ (Act.put _ (some 133) _) _
              simp only [Act.put, List.setIfInBounds_toArray, List.set_cons_zero, List.set_cons_succ]
              refine wpAnyH_take (i := 25) (v := .bool false) rfl (by kernel_rfl) (by kernel_rfl) (by kernel_rfl) (fun _ _ _ h => h) (Or.inl ⟨by rfl, fun _ _ => rfl⟩) hHeld ?_
              show wpAnyH _ _ _ _ _ _ _ (Act.put _ (some 134) _) _
              simp only [Act.put, List.setIfInBounds_toArray, List.set_cons_zero, List.set_cons_succ]
              refine wpAnyH_take (i := 26) (v := .bool false) rfl (by kernel_rfl) (by kernel_rfl) (by kernel_rfl) (fun _ _ _ h => h) (Or.inl ⟨by rfl, fun _ _ => rfl⟩) hHeld ?_
              show wpAnyH _ _ _ _ _ _ _ (Act.put _ (some 135) _) _
              simp only [Act.put, List.setIfInBounds_toArray, List.set_cons_zero, List.set_cons_succ]
              refine wpAnyH_done (by kernel_rfl) ?_ _
              obtain ⟨_, _, _, hwn⟩ := hHeld
              have HWk := hidI hwn
              clear hwn hneq1 hneq2 hqe
              go_wp2
              generalize w9.drew = wk at *
              rw [rounds_succ]
              go_wp2
              go_roundw
              case measure => simp [intOf]; omega
              case rel => exact ⟨i + 1, by omega, by go_num, HZ.out.trans (HWk.out.mono hM1)⟩
            · rw [rounds_succ]
              have hTk := hT.below HWk.out hTl
              have hMk : M ≤ wk.heap.size := by rw [HMM.out]; exact HWk.out.size
              go_wp2_with (first
                | ((with_reducible refine g_load 29 ?_ rfl); refine st_loadT (f := three aT bT cT) (k := 1) (by rfl) rfl rfl hTk (by decide) ?_)
                | ((with_reducible refine g_alloc 29 ?_ rfl); refine st_alloc29 (by rfl) rfl ?_; have hz := Blk.new wk tz; have HW1 := hidI (HWk.out.alloc hMk (.cells (tcs tz) 29)); clear hTk HWk)
                | ((with_reducible refine g_store 29 ?_ rfl); refine st_store29 (x := .tmp 16) (by rfl) rfl rfl rfl hz ?_; intro w2 hx2 hu2; have HWk := hidI (HW1.out.trans (hu2.below hMk)); clear hu2 hz HW1 hx2))
              clear hMk
              generalize w2 = wk at *
              rw [rounds_succ]
              have hTk := hT.below HWk.out hTl
              have hpk := hp0.below HWk.out hl14
              have hMk : M ≤ wk.heap.size := by rw [HMM.out]; exact HWk.out.size
              go_wp2_with (first
                | ((with_reducible refine g_load 29 ?_ rfl); refine st_loadT (f := three aT bT cT) (k := 2) (by rfl) rfl rfl hTk (by decide) ?_)
                | ((with_reducible refine g_alloc 29 ?_ rfl); refine st_alloc29 (by rfl) rfl ?_; have hz := Blk.new wk tz; have hp1 := hpk.alloc (.cells (tcs tz) 29); have HW1 := hidI (HWk.out.alloc hMk (.cells (tcs tz) 29)); clear hTk hpk HWk)
                | ((with_reducible refine g_store 29 ?_ rfl); refine st_store29 (x := .tmp 16) (by rfl) rfl rfl rfl hz ?_; intro w2 hx2 hu2; have hp2 := hu2.pblk hp1 (by omega); have HW2 := hidI (HW1.out.trans (hu2.below hMk)); have hs2 := hu2.size; rw [World.size_alloc] at hs2; have hM2 : M ≤ w2.heap.size := (by omega); have HS2 := hidI hs2; clear hs2 hu2 hz hp1 HW1)
                | ((with_reducible refine g_load 28 ?_ rfl); refine st_load28 (k := i) (by rfl) rfl rfl hx2 hi8 ?_)
                | ((with_reducible refine g_alloc 28 ?_ rfl); refine st_alloc28 (by rfl) rfl ?_; have hqz := PBlk.new w2 zp; have hp3 := hp2.alloc (.cells (pcs zp) 28); have hx3 := hx2.alloc (.cells (pcs zp) 28); have HW3 := hidI (HW2.out.alloc hM2 (.cells (pcs zp) 28)); clear hp2 hx2 HW2)
                | ((with_reducible refine g_store 28 ?_ rfl); refine st_pstore28 (by rfl) rfl rfl rfl hqz ?_; intro w4 hqa hu4; have hb17 : wk.heap.size < w2.heap.size := (by have := HS2.out; omega); have hp14 := hu4.pblk hp3 (by omega); have hx16 := hu4.blk hx3 (by omega); have HWx := hidI (HW3.out.trans (hu4.below (by omega))); clear hqz hu4 hp3 hx3 HW3 HS2))
              generalize wk.heap.size = b16 at *
              generalize w2.heap.size = b17 at *
              have hqa : PBlk w4.drew b17 (cT i) := hqa
              refine wp_region_held_drew (S := fun wh => PBlk wh b14 (t i) ∧ Blk wh b16 cT ∧ Below M W0 wh) (by kernel_rfl) (⟨hp14.drew, hx16.drew, HWx.out.drew⟩) (fun hHeld => ?_)
              show wpAnyH _ _ _ _ _ (15 + 1) #[false, false, false, false, false, false, false, false, false, false, false, false, false, false, false, false] _ _
              refine wpAnyH_take (i := 0) (v := .pointer (some ⟨b14, 2, none⟩)) rfl (by kernel_rfl) (by kernel_rfl) (by kernel_rfl) (fun _ _ _ h => h) (Or.inl ⟨by rfl, fun _ _ => rfl⟩) hHeld ?_
              show wpAnyH _ _ _ _ _ _ _ (Act.put _ (some 97) _) _
              simp only [Act.put, List.setIfInBounds_toArray, List.set_cons_zero, List.set_cons_succ]
              refine wpAnyH_take (i := 1) (v := .int .i64 ((t i).f 2)) rfl (by kernel_rfl) (by kernel_rfl) (by kernel_rfl) (fun _ _ _ h => h) (yieldsIf_cell (by rfl) rfl rfl (fun wh hS => hS.1.int 2 (by decide) (by decide)) isInt3) hHeld ?_
              show wpAnyH _ _ _ _ _ _ _ (Act.put _ (some 98) _) _
              simp only [Act.put, List.setIfInBounds_toArray, List.set_cons_zero, List.set_cons_succ]
              refine wpAnyH_take (i := 2) (v := .pointer (some ⟨b14, 25, none⟩)) rfl (by kernel_rfl) (by kernel_rfl) (by kernel_rfl) (fun _ _ _ h => h) (Or.inl ⟨by rfl, fun _ _ => rfl⟩) hHeld ?_
              show wpAnyH _ _ _ _ _ _ _ (Act.put _ (some 99) _) _
              simp only [Act.put, List.setIfInBounds_toArray, List.set_cons_zero, List.set_cons_succ]
              refine wpAnyH_take (i := 3) (v := .int .i64 ((t i).f 25)) rfl (by kernel_rfl) (by kernel_rfl) (by kernel_rfl) (fun _ _ _ h => h) (yieldsIf_cell (by rfl) rfl rfl (fun wh hS => hS.1.int 25 (by decide) (by decide)) isInt3) hHeld ?_
              show wpAnyH _ _ _ _ _ _ _ (Act.put _ (some 100) _) _
              simp only [Act.put, List.setIfInBounds_toArray, List.set_cons_zero, List.set_cons_succ]
              refine wpAnyH_take (i := 4) (v := .pointer (some ⟨b14, 26, none⟩)) rfl (by kernel_rfl) (by kernel_rfl) (by kernel_rfl) (fun _ _ _ h => h) (Or.inl ⟨by rfl, fun _ _ => rfl⟩) hHeld ?_
              show wpAnyH _ _ _ _ _ _ _ (Act.put _ (some 101) _) _
              simp only [Act.put, List.setIfInBounds_toArray, List.set_cons_zero, List.set_cons_succ]
              refine wpAnyH_take (i := 5) (v := .int .i64 ((t i).f 26)) rfl (by kernel_rfl) (by kernel_rfl) (by kernel_rfl) (fun _ _ _ h => h) (yieldsIf_cell (by rfl) rfl rfl (fun wh hS => hS.1.int 26 (by decide) (by decide)) isInt3) hHeld ?_
              show wpAnyH _ _ _ _ _ _ _ (Act.put _ (some 102) _) _
              simp only [Act.put, List.setIfInBounds_toArray, List.set_cons_zero, List.set_cons_succ]
              refine wpAnyH_take (i := 6) (v := .pointer (some ⟨b14, 1, none⟩)) rfl (by kernel_rfl) (by kernel_rfl) (by kernel_rfl) (fun _ _ _ h => h) (Or.inl ⟨by rfl, fun _ _ => rfl⟩) hHeld ?_
              show wpAnyH _ _ _ _ _ _ _ (Act.put _ (some 103) _) _
              simp only [Act.put, List.setIfInBounds_toArray, List.set_cons_zero, List.set_cons_succ]
              refine wpAnyH_take (i := 7) (v := .int .i64 ((t i).f 1)) rfl (by kernel_rfl) (by kernel_rfl) (by kernel_rfl) (fun _ _ _ h => h) (yieldsIf_cell (by rfl) rfl rfl (fun wh hS => hS.1.int 1 (by decide) (by decide)) isInt3) hHeld ?_
              show wpAnyH _ _ _ _ _ _ _ (Act.put _ (some 104) _) _
              simp only [Act.put, List.setIfInBounds_toArray, List.set_cons_zero, List.set_cons_succ]
              refine wpAnyH_take (i := 8) (v := .pointer (some ⟨b17, 2, none⟩)) rfl (by kernel_rfl) (by kernel_rfl) (by kernel_rfl) (fun _ _ _ h => h) (Or.inl ⟨by rfl, fun _ _ => rfl⟩) hHeld ?_
              show wpAnyH _ _ _ _ _ _ _ (Act.put _ (some 105) _) _
              simp only [Act.put, List.setIfInBounds_toArray, List.set_cons_zero, List.set_cons_succ]
              refine wpAnyH_all (rs := [9]) (by kernel_rfl) (by simp) (fun i hi' => ?_)
              obtain rfl : i = 9 := by simpa using hi'
              clear hi'
              refine draw_pfield _ (.tmp 105) (.tmp 98) b17 2 ((t i).f 2) (cT i) rfl (by rfl) rfl rfl rfl hqa (by decide) (by decide) (fun w9 hqb hu9 => ?_)
              have hHeld := And.intro (hu9.pblk hHeld.1 (by omega)) (And.intro (hu9.blk hHeld.2.1 (by omega)) (hHeld.2.2.trans (hu9.below (by omega))))
              refine ⟨hHeld, ?_⟩
              clear hu9 hqa
              refine wpAnyH_take (i := 10) (v := .pointer (some ⟨b17, 25, none⟩)) rfl (by kernel_rfl) (by kernel_rfl) (by kernel_rfl) (fun _ _ _ h => h) (Or.inl ⟨by rfl, fun _ _ => rfl⟩) hHeld ?_
              show wpAnyH _ _ _ _ _ _ _ (Act.put _ (some 106) _) _
              simp only [Act.put, List.setIfInBounds_toArray, List.set_cons_zero, List.set_cons_succ]
              refine wpAnyH_all (rs := [11]) (by kernel_rfl) (by simp) (fun i hi' => ?_)
              obtain rfl : i = 11 := by simpa using hi'
              clear hi'
              refine draw_pfield _ (.tmp 106) (.tmp 100) b17 25 ((t i).f 25) (setf (cT i) 2 ((t i).f 2)) rfl (by rfl) rfl rfl rfl hqb (by decide) (by decide) (fun w9 hqc hu9 => ?_)
              have hHeld := And.intro (hu9.pblk hHeld.1 (by omega)) (And.intro (hu9.blk hHeld.2.1 (by omega)) (hHeld.2.2.trans (hu9.below (by omega))))
              refine ⟨hHeld, ?_⟩
              clear hu9 hqb
              refine wpAnyH_take (i := 12) (v := .pointer (some ⟨b17, 26, none⟩)) rfl (by kernel_rfl) (by kernel_rfl) (by kernel_rfl) (fun _ _ _ h => h) (Or.inl ⟨by rfl, fun _ _ => rfl⟩) hHeld ?_
              show wpAnyH _ _ _ _ _ _ _ (Act.put _ (some 107) _) _
              simp only [Act.put, List.setIfInBounds_toArray, List.set_cons_zero, List.set_cons_succ]
              refine wpAnyH_all (rs := [13]) (by kernel_rfl) (by simp) (fun i hi' => ?_)
              obtain rfl : i = 13 := by simpa using hi'
              clear hi'
              refine draw_pfield _ (.tmp 107) (.tmp 102) b17 26 ((t i).f 26) (setf (setf (cT i) 2 ((t i).f 2)) 25 ((t i).f 25)) rfl (by rfl) rfl rfl rfl hqc (by decide) (by decide) (fun w9 hqd hu9 => ?_)
              have hHeld := And.intro (hu9.pblk hHeld.1 (by omega)) (And.intro (hu9.blk hHeld.2.1 (by omega)) (hHeld.2.2.trans (hu9.below (by omega))))
              refine ⟨hHeld, ?_⟩
              clear hu9 hqc
              refine wpAnyH_take (i := 14) (v := .pointer (some ⟨b17, 1, none⟩)) rfl (by kernel_rfl) (by kernel_rfl) (by kernel_rfl) (fun _ _ _ h => h) (Or.inl ⟨by rfl, fun _ _ => rfl⟩) hHeld ?_
              show wpAnyH _ _ _ _ _ _ _ (Act.put _ (some 108) _) _
              simp only [Act.put, List.setIfInBounds_toArray, List.set_cons_zero, List.set_cons_succ]
              refine wpAnyH_all (rs := [15]) (by kernel_rfl) (by simp) (fun i hi' => ?_)
              obtain rfl : i = 15 := by simpa using hi'
              clear hi'
              refine draw_pfield _ (.tmp 108) (.tmp 104) b17 1 ((t i).f 1) (setf (setf (setf (cT i) 2 ((t i).f 2)) 25 ((t i).f 25)) 26 ((t i).f 26)) rfl (by rfl) rfl rfl rfl hqd (by decide) (by decide) (fun w9 hqe hu9 => ?_)
              have hHeld := And.intro (hu9.pblk hHeld.1 (by omega)) (And.intro (hu9.blk hHeld.2.1 (by omega)) (hHeld.2.2.trans (hu9.below (by omega))))
              refine ⟨hHeld, ?_⟩
              clear hu9 hqd
              refine wpAnyH_done (by kernel_rfl) ?_ _
              clear hp14 hx16 HWx
              go_wp2
              have hcti := HC.out i HL3.out
              have hneq1 : (!eqP (setf (setf (setf (setf (cT i) 2 ((t i).f 2)) 25 ((t i).f 25)) 26 ((t i).f 26)) 1 ((t i).f 1)) (t i)) = false := eqP_no (keep_back (by rw [hcti]; exact keep_refl _))
              have hneq2 : (!eqP (cT i) (t i)) = false := eqP_no (by rw [hcti])
              clear hcti
              refine wp_region_held_drew (S := fun wh => PBlk wh b17 (setf (setf (setf (setf (cT i) 2 ((t i).f 2)) 25 ((t i).f 25)) 26 ((t i).f 26)) 1 ((t i).f 1)) ∧ PBlk wh b14 (t i) ∧ Blk wh b16 cT ∧ Below M W0 wh) (by kernel_rfl) (⟨hqe.drew, hHeld.1.drew, hHeld.2.1.drew, hHeld.2.2.drew⟩) (fun hHeld => ?_)
              show wpAnyH _ _ _ _ _ (26 + 1) #[false, false, false, false, false, false, false, false, false, false, false, false, false, false, false, false, false, false, false, false, false, false, false, false, false, false, false] _ _
              refine wpAnyH_take (i := 0) (v := .agg (pcs (setf (setf (setf (setf (cT i) 2 ((t i).f 2)) 25 ((t i).f 25)) 26 ((t i).f 26)) 1 ((t i).f 1)))) rfl (by kernel_rfl) (by kernel_rfl) (by kernel_rfl) (fun _ _ _ h => h) (yieldsIf_row (by rfl) rfl rfl (fun wh hS => hS.1.range) Try.underlying28 rfl (info28l _)) hHeld ?_
              show wpAnyH _ _ _ _ _ _ _ (Act.put _ (some 109) _) _
              simp only [Act.put, List.setIfInBounds_toArray, List.set_cons_zero, List.set_cons_succ]
              refine wpAnyH_take (i := 1) (v := .agg (pcs (t i))) rfl (by kernel_rfl) (by kernel_rfl) (by kernel_rfl) (fun _ _ _ h => h) (yieldsIf_row (by rfl) rfl rfl (fun wh hS => hS.2.1.range) Try.underlying28 rfl (info28l _)) hHeld ?_
              show wpAnyH _ _ _ _ _ _ _ (Act.put _ (some 110) _) _
              simp only [Act.put, List.setIfInBounds_toArray, List.set_cons_zero, List.set_cons_succ]
              refine wpAnyH_take (i := 2) (v := .bool false) rfl (by kernel_rfl) (by kernel_rfl) (by kernel_rfl) (fun _ _ _ h => h) (yieldsIf_neq28 (by rfl) rfl rfl rfl hneq1) hHeld ?_
              show wpAnyH _ _ _ _ _ _ _ (Act.put _ (some 111) _) _
              simp only [Act.put, List.setIfInBounds_toArray, List.set_cons_zero, List.set_cons_succ]
              refine wpAnyH_take (i := 3) (v := .bool false) rfl (by kernel_rfl) (by kernel_rfl) (by kernel_rfl) (fun _ _ _ h => h) (Or.inl ⟨by rfl, fun _ _ => rfl⟩) hHeld ?_
              show wpAnyH _ _ _ _ _ _ _ (Act.put _ (some 112) _) _
              simp only [Act.put, List.setIfInBounds_toArray, List.set_cons_zero, List.set_cons_succ]
              refine wpAnyH_take (i := 4) (v := .int .i64 2) rfl (by kernel_rfl) (by kernel_rfl) (by kernel_rfl) (fun _ _ _ h => h) (Or.inl ⟨by rfl, fun _ _ => rfl⟩) hHeld ?_
              show wpAnyH _ _ _ _ _ _ _ (Act.put _ (some 113) _) _
              simp only [Act.put, List.setIfInBounds_toArray, List.set_cons_zero, List.set_cons_succ]
              refine wpAnyH_take (i := 5) (v := .bool true) rfl (by kernel_rfl) (by kernel_rfl) (by kernel_rfl) (fun _ _ _ h => h) (yb (b := 2 == 2) (by rfl) (fun _ _ => rfl) rfl) hHeld ?_
              show wpAnyH _ _ _ _ _ _ _ (Act.put _ (some 114) _) _
              simp only [Act.put, List.setIfInBounds_toArray, List.set_cons_zero, List.set_cons_succ]
              refine wpAnyH_take (i := 6) (v := .bool true) rfl (by kernel_rfl) (by kernel_rfl) (by kernel_rfl) (fun _ _ _ h => h) (Or.inl ⟨by rfl, fun _ _ => rfl⟩) hHeld ?_
              show wpAnyH _ _ _ _ _ _ _ (Act.put _ (some 115) _) _
              simp only [Act.put, List.setIfInBounds_toArray, List.set_cons_zero, List.set_cons_succ]
              refine wpAnyH_take (i := 7) (v := .int .i64 (i : Int)) rfl (by kernel_rfl) (by kernel_rfl) (by kernel_rfl) (fun _ _ _ h => h) (Or.inl ⟨by rfl, fun _ _ => rfl⟩) hHeld ?_
              show wpAnyH _ _ _ _ _ _ _ (Act.put _ (some 116) _) _
              simp only [Act.put, List.setIfInBounds_toArray, List.set_cons_zero, List.set_cons_succ]
              refine wpAnyH_take (i := 8) (v := .pointer (some ⟨b16, i * 29, none⟩)) rfl (by kernel_rfl) (by kernel_rfl) (by kernel_rfl) (fun _ _ _ h => h) (Or.inl ⟨by rfl, fun wh hS => by go_simp⟩) hHeld ?_
              show wpAnyH _ _ _ _ _ _ _ (Act.put _ (some 117) _) _
              simp only [Act.put, List.setIfInBounds_toArray, List.set_cons_zero, List.set_cons_succ]
              refine wpAnyH_take (i := 9) (v := .agg (pcs (cT i))) rfl (by kernel_rfl) (by kernel_rfl) (by kernel_rfl) (fun _ _ _ h => h) (yieldsIf_row (by rfl) rfl rfl (fun wh hS => hS.2.2.1.range i hi8) Try.underlying28 rfl (info28l _)) hHeld ?_
              show wpAnyH _ _ _ _ _ _ _ (Act.put _ (some 118) _) _
              simp only [Act.put, List.setIfInBounds_toArray, List.set_cons_zero, List.set_cons_succ]
              refine wpAnyH_take (i := 10) (v := .agg (pcs (t i))) rfl (by kernel_rfl) (by kernel_rfl) (by kernel_rfl) (fun _ _ _ h => h) (yieldsIf_row (by rfl) rfl rfl (fun wh hS => hS.2.1.range) Try.underlying28 rfl (info28l _)) hHeld ?_
              show wpAnyH _ _ _ _ _ _ _ (Act.put _ (some 119) _) _
              simp only [Act.put, List.setIfInBounds_toArray, List.set_cons_zero, List.set_cons_succ]
              refine wpAnyH_take (i := 11) (v := .bool false) rfl (by kernel_rfl) (by kernel_rfl) (by kernel_rfl) (fun _ _ _ h => h) (yieldsIf_neq28 (by rfl) rfl rfl rfl hneq2) hHeld ?_
              show wpAnyH _ _ _ _ _ _ _ (Act.put _ (some 120) _) _
              simp only [Act.put, List.setIfInBounds_toArray, List.set_cons_zero, List.set_cons_succ]
              refine wpAnyH_take (i := 12) (v := .bool false) rfl (by kernel_rfl) (by kernel_rfl) (by kernel_rfl) (fun _ _ _ h => h) (Or.inl ⟨by rfl, fun _ _ => rfl⟩) hHeld ?_
              show wpAnyH _ _ _ _ _ _ _ (Act.put _ (some 121) _) _
              simp only [Act.put, List.setIfInBounds_toArray, List.set_cons_zero, List.set_cons_succ]
              refine wpAnyH_take (i := 13) (v := .bool false) rfl (by kernel_rfl) (by kernel_rfl) (by kernel_rfl) (fun _ _ _ h => h) (Or.inl ⟨by rfl, fun _ _ => rfl⟩) hHeld ?_
              show wpAnyH _ _ _ _ _ _ _ (Act.put _ (some 122) _) _
              simp only [Act.put, List.setIfInBounds_toArray, List.set_cons_zero, List.set_cons_succ]
              refine wpAnyH_take (i := 14) (v := .bool false) rfl (by kernel_rfl) (by kernel_rfl) (by kernel_rfl) (fun _ _ _ h => h) (Or.inl ⟨by rfl, fun _ _ => rfl⟩) hHeld ?_
              show wpAnyH _ _ _ _ _ _ _ (Act.put _ (some 123) _) _
              simp only [Act.put, List.setIfInBounds_toArray, List.set_cons_zero, List.set_cons_succ]
              refine wpAnyH_take (i := 15) (v := .int .i64 2) rfl (by kernel_rfl) (by kernel_rfl) (by kernel_rfl) (fun _ _ _ h => h) (Or.inl ⟨by rfl, fun _ _ => rfl⟩) hHeld ?_
              show wpAnyH _ _ _ _ _ _ _ (Act.put _ (some 124) _) _
              simp only [Act.put, List.setIfInBounds_toArray, List.set_cons_zero, List.set_cons_succ]
              refine wpAnyH_take (i := 16) (v := .bool false) rfl (by kernel_rfl) (by kernel_rfl) (by kernel_rfl) (fun _ _ _ h => h) (yb (b := 2 == 0) (by rfl) (fun _ _ => rfl) rfl) hHeld ?_
              show wpAnyH _ _ _ _ _ _ _ (Act.put _ (some 125) _) _
              simp only [Act.put, List.setIfInBounds_toArray, List.set_cons_zero, List.set_cons_succ]
              refine wpAnyH_take (i := 17) (v := .bool false) rfl (by kernel_rfl) (by kernel_rfl) (by kernel_rfl) (fun _ _ _ h => h) (Or.inl ⟨by rfl, fun _ _ => rfl⟩) hHeld ?_
              show wpAnyH _ _ _ _ _ _ _ (Act.put _ (some 126) _) _
              simp only [Act.put, List.setIfInBounds_toArray, List.set_cons_zero, List.set_cons_succ]
              refine wpAnyH_take (i := 18) (v := undef) rfl (by kernel_rfl) (by kernel_rfl) (by kernel_rfl) (fun _ _ _ h => h) (Or.inr ⟨by rfl, rfl⟩) hHeld ?_
              show wpAnyH _ _ _ _ _ _ _ (Act.put _ (some 127) _) _
              simp only [Act.put, List.setIfInBounds_toArray, List.set_cons_zero, List.set_cons_succ]
              refine wpAnyH_take (i := 19) (v := undef) rfl (by kernel_rfl) (by kernel_rfl) (by kernel_rfl) (fun _ _ _ h => h) (Or.inr ⟨by rfl, rfl⟩) hHeld ?_
              show wpAnyH _ _ _ _ _ _ _ (Act.put _ (some 128) _) _
              simp only [Act.put, List.setIfInBounds_toArray, List.set_cons_zero, List.set_cons_succ]
              refine wpAnyH_take (i := 20) (v := undef) rfl (by kernel_rfl) (by kernel_rfl) (by kernel_rfl) (fun _ _ _ h => h) (Or.inr ⟨by rfl, rfl⟩) hHeld ?_
              show wpAnyH _ _ _ _ _ _ _ (Act.put _ (some 129) _) _
              simp only [Act.put, List.setIfInBounds_toArray, List.set_cons_zero, List.set_cons_succ]
              refine wpAnyH_take (i := 21) (v := undef) rfl (by kernel_rfl) (by kernel_rfl) (by kernel_rfl) (fun _ _ _ h => h) (Or.inr ⟨by rfl, rfl⟩) hHeld ?_
              show wpAnyH _ _ _ _ _ _ _ (Act.put _ (some 130) _) _
              simp only [Act.put, List.setIfInBounds_toArray, List.set_cons_zero, List.set_cons_succ]
              refine wpAnyH_take (i := 22) (v := undef) rfl (by kernel_rfl) (by kernel_rfl) (by kernel_rfl) (fun _ _ _ h => h) (Or.inr ⟨by rfl, rfl⟩) hHeld ?_
              show wpAnyH _ _ _ _ _ _ _ (Act.put _ (some 131) _) _
              simp only [Act.put, List.setIfInBounds_toArray, List.set_cons_zero, List.set_cons_succ]
              refine wpAnyH_take (i := 23) (v := undef) rfl (by kernel_rfl) (by kernel_rfl) (by kernel_rfl) (fun _ _ _ h => h) (Or.inr ⟨by rfl, rfl⟩) hHeld ?_
              show wpAnyH _ _ _ _ _ _ _ (Act.put _ (some 132) _) _
              simp only [Act.put, List.setIfInBounds_toArray, List.set_cons_zero, List.set_cons_succ]
              refine wpAnyH_take (i := 24) (v := undef) rfl (by kernel_rfl) (by kernel_rfl) (by kernel_rfl) (fun _ _ _ h => h) (Or.inr ⟨by rfl, rfl⟩) hHeld ?_
              show wpAnyH _ _ _ _ _ _ _ (Act.put _ (some 133) _) _
              simp only [Act.put, List.setIfInBounds_toArray, List.set_cons_zero, List.set_cons_succ]
              refine wpAnyH_take (i := 25) (v := .bool false) rfl (by kernel_rfl) (by kernel_rfl) (by kernel_rfl) (fun _ _ _ h => h) (Or.inl ⟨by rfl, fun _ _ => rfl⟩) hHeld ?_
              show wpAnyH _ _ _ _ _ _ _ (Act.put _ (some 134) _) _
              simp only [Act.put, List.setIfInBounds_toArray, List.set_cons_zero, List.set_cons_succ]
              refine wpAnyH_take (i := 26) (v := .bool false) rfl (by kernel_rfl) (by kernel_rfl) (by kernel_rfl) (fun _ _ _ h => h) (Or.inl ⟨by rfl, fun _ _ => rfl⟩) hHeld ?_
              show wpAnyH _ _ _ _ _ _ _ (Act.put _ (some 135) _) _
              simp only [Act.put, List.setIfInBounds_toArray, List.set_cons_zero, List.set_cons_succ]
              refine wpAnyH_done (by kernel_rfl) ?_ _
              obtain ⟨_, _, _, hwn⟩ := hHeld
              have HWk := hidI hwn
              clear hwn hneq1 hneq2 hqe
              go_wp2
              generalize w9.drew = wk at *
              rw [rounds_succ]
              go_wp2
              go_roundw
              case measure => simp [intOf]; omega
              case rel => exact ⟨i + 1, by omega, by go_num, HZ.out.trans (HWk.out.mono hM1)⟩
        · have HL3 : Hid ((t i).f 2 ≠ 3) := by have : (t i).f 2 = 1 := (by simpa using h1); show (t i).f 2 ≠ 3; omega
          go_wp2_with (first
            | ((with_reducible refine g_index 29 ?_ rfl); refine st_index29 (by rfl) rfl rfl rfl hi8 ?_)
            | ((with_reducible refine g_alloc 28 ?_ rfl); refine st_alloc28 (by rfl) rfl ?_; have hq1 := PBlk.new wr zp; have HZ1 := hidI (HZ.out.alloc HZ.out.size (.cells (pcs zp) 28)); clear HZ)
            | ((with_reducible refine g_store 28 ?_ rfl); refine st_pstore28 (by rfl) rfl rfl rfl hq1 ?_; intro w2 hq2 hu2; have HZ2 := hidI (HZ1.out.trans (hu2.below hsz)); have d2 := hq2.int 2 (by decide) (by decide); have ha2 := hal.below HZ2.out hal.lt; have hb2 := hbl.below HZ2.out hbl.lt; have hc2 := hcl.below HZ2.out hcl.lt; clear hq1 hu2 HZ1)
            | ((with_reducible refine g_load 29 ?_ rfl); refine st_load29 (x := .tmp 7) (by rfl) rfl rfl ha2 ?_)
            | ((with_reducible refine g_load 29 ?_ rfl); refine st_load29 (x := .tmp 8) (by rfl) rfl rfl hb2 ?_)
            | ((with_reducible refine g_load 29 ?_ rfl); refine st_load29 (x := .tmp 9) (by rfl) rfl rfl hc2 ?_)
            | ((with_reducible refine g_bslice 43 ?_ rfl); refine st_bslice43 (three aT bT cT) (by rfl) rfl rfl rfl rfl ?_; intro C hT; have hp0 := hq2.alloc (.cells C 29); have HZ := hidI (HZ2.out.alloc HZ2.out.size (.cells C 29)); clear ha2 hb2 hc2 hq2 HZ2 d2))
          generalize wr.heap.size = b14 at *
          generalize w2.heap.size = b72 at *
          generalize (w2.alloc (.cells C 29)) = W0 at *
          have hM1 := HZ.out.size
          have HWk := hidI (Below.refl W0.heap.size W0)
          have hl14 := hp0.lt
          clear hsz
          obtain ⟨M, hM⟩ : ∃ M, M = W0.heap.size := ⟨_, rfl⟩
          rw [← hM] at HWk hl14 hM1
          have hTl : b72 < M := by rw [hM]; exact hT.lt
          have HMM := hidI hM
          clear hM
          refine wp_loop_rounds 4 ?_
          obtain ⟨wk, hwk⟩ : ∃ wk, wk = W0 := ⟨_, rfl⟩
          have HWk : Hid (Below M W0 wk) := by rw [hwk]; exact HWk.out
          rw [← hwk]
          clear hwk
          rw [rounds_succ]
          have hTk := hT.below HWk.out hTl
          have hpk := hp0.below HWk.out hl14
          have hMk : M ≤ wk.heap.size := by rw [HMM.out]; exact HWk.out.size
          go_wp2_with (first
            | ((with_reducible refine g_load 29 ?_ rfl); refine st_loadT (f := three aT bT cT) (k := 0) (by rfl) rfl rfl hTk (by decide) ?_)
            | ((with_reducible refine g_alloc 29 ?_ rfl); refine st_alloc29 (by rfl) rfl ?_; have hz := Blk.new wk tz; have hp1 := hpk.alloc (.cells (tcs tz) 29); have HW1 := hidI (HWk.out.alloc hMk (.cells (tcs tz) 29)); clear hTk hpk HWk)
            | ((with_reducible refine g_store 29 ?_ rfl); refine st_store29 (x := .tmp 16) (by rfl) rfl rfl rfl hz ?_; intro w2 hx2 hu2; have hp2 := hu2.pblk hp1 (by omega); have HW2 := hidI (HW1.out.trans (hu2.below hMk)); have hs2 := hu2.size; rw [World.size_alloc] at hs2; have hM2 : M ≤ w2.heap.size := (by omega); have HS2 := hidI hs2; clear hs2 hu2 hz hp1 HW1)
            | ((with_reducible refine g_load 28 ?_ rfl); refine st_load28 (k := i) (by rfl) rfl rfl hx2 hi8 ?_)
            | ((with_reducible refine g_alloc 28 ?_ rfl); refine st_alloc28 (by rfl) rfl ?_; have hqz := PBlk.new w2 zp; have hp3 := hp2.alloc (.cells (pcs zp) 28); have hx3 := hx2.alloc (.cells (pcs zp) 28); have HW3 := hidI (HW2.out.alloc hM2 (.cells (pcs zp) 28)); clear hp2 hx2 HW2)
            | ((with_reducible refine g_store 28 ?_ rfl); refine st_pstore28 (by rfl) rfl rfl rfl hqz ?_; intro w4 hqa hu4; have hb17 : wk.heap.size < w2.heap.size := (by have := HS2.out; omega); have hp14 := hu4.pblk hp3 (by omega); have hx16 := hu4.blk hx3 (by omega); have HWx := hidI (HW3.out.trans (hu4.below (by omega))); clear hqz hu4 hp3 hx3 HW3 HS2))
          generalize wk.heap.size = b16 at *
          generalize w2.heap.size = b17 at *
          have hqa : PBlk w4.drew b17 (aT i) := hqa
          refine wp_region_held_drew (S := fun wh => PBlk wh b14 (t i) ∧ Blk wh b16 aT ∧ Below M W0 wh) (by kernel_rfl) (⟨hp14.drew, hx16.drew, HWx.out.drew⟩) (fun hHeld => ?_)
          show wpAnyH _ _ _ _ _ (15 + 1) #[false, false, false, false, false, false, false, false, false, false, false, false, false, false, false, false] _ _
          refine wpAnyH_take (i := 0) (v := .pointer (some ⟨b14, 2, none⟩)) rfl (by kernel_rfl) (by kernel_rfl) (by kernel_rfl) (fun _ _ _ h => h) (Or.inl ⟨by rfl, fun _ _ => rfl⟩) hHeld ?_
          show wpAnyH _ _ _ _ _ _ _ (Act.put _ (some 97) _) _
          simp only [Act.put, List.setIfInBounds_toArray, List.set_cons_zero, List.set_cons_succ]
          refine wpAnyH_take (i := 1) (v := .int .i64 ((t i).f 2)) rfl (by kernel_rfl) (by kernel_rfl) (by kernel_rfl) (fun _ _ _ h => h) (yieldsIf_cell (by rfl) rfl rfl (fun wh hS => hS.1.int 2 (by decide) (by decide)) isInt3) hHeld ?_
          show wpAnyH _ _ _ _ _ _ _ (Act.put _ (some 98) _) _
          simp only [Act.put, List.setIfInBounds_toArray, List.set_cons_zero, List.set_cons_succ]
          refine wpAnyH_take (i := 2) (v := .pointer (some ⟨b14, 25, none⟩)) rfl (by kernel_rfl) (by kernel_rfl) (by kernel_rfl) (fun _ _ _ h => h) (Or.inl ⟨by rfl, fun _ _ => rfl⟩) hHeld ?_
          show wpAnyH _ _ _ _ _ _ _ (Act.put _ (some 99) _) _
          simp only [Act.put, List.setIfInBounds_toArray, List.set_cons_zero, List.set_cons_succ]
          refine wpAnyH_take (i := 3) (v := .int .i64 ((t i).f 25)) rfl (by kernel_rfl) (by kernel_rfl) (by kernel_rfl) (fun _ _ _ h => h) (yieldsIf_cell (by rfl) rfl rfl (fun wh hS => hS.1.int 25 (by decide) (by decide)) isInt3) hHeld ?_
          show wpAnyH _ _ _ _ _ _ _ (Act.put _ (some 100) _) _
          simp only [Act.put, List.setIfInBounds_toArray, List.set_cons_zero, List.set_cons_succ]
          refine wpAnyH_take (i := 4) (v := .pointer (some ⟨b14, 26, none⟩)) rfl (by kernel_rfl) (by kernel_rfl) (by kernel_rfl) (fun _ _ _ h => h) (Or.inl ⟨by rfl, fun _ _ => rfl⟩) hHeld ?_
          show wpAnyH _ _ _ _ _ _ _ (Act.put _ (some 101) _) _
          simp only [Act.put, List.setIfInBounds_toArray, List.set_cons_zero, List.set_cons_succ]
          refine wpAnyH_take (i := 5) (v := .int .i64 ((t i).f 26)) rfl (by kernel_rfl) (by kernel_rfl) (by kernel_rfl) (fun _ _ _ h => h) (yieldsIf_cell (by rfl) rfl rfl (fun wh hS => hS.1.int 26 (by decide) (by decide)) isInt3) hHeld ?_
          show wpAnyH _ _ _ _ _ _ _ (Act.put _ (some 102) _) _
          simp only [Act.put, List.setIfInBounds_toArray, List.set_cons_zero, List.set_cons_succ]
          refine wpAnyH_take (i := 6) (v := .pointer (some ⟨b14, 1, none⟩)) rfl (by kernel_rfl) (by kernel_rfl) (by kernel_rfl) (fun _ _ _ h => h) (Or.inl ⟨by rfl, fun _ _ => rfl⟩) hHeld ?_
          show wpAnyH _ _ _ _ _ _ _ (Act.put _ (some 103) _) _
          simp only [Act.put, List.setIfInBounds_toArray, List.set_cons_zero, List.set_cons_succ]
          refine wpAnyH_take (i := 7) (v := .int .i64 ((t i).f 1)) rfl (by kernel_rfl) (by kernel_rfl) (by kernel_rfl) (fun _ _ _ h => h) (yieldsIf_cell (by rfl) rfl rfl (fun wh hS => hS.1.int 1 (by decide) (by decide)) isInt3) hHeld ?_
          show wpAnyH _ _ _ _ _ _ _ (Act.put _ (some 104) _) _
          simp only [Act.put, List.setIfInBounds_toArray, List.set_cons_zero, List.set_cons_succ]
          refine wpAnyH_take (i := 8) (v := .pointer (some ⟨b17, 2, none⟩)) rfl (by kernel_rfl) (by kernel_rfl) (by kernel_rfl) (fun _ _ _ h => h) (Or.inl ⟨by rfl, fun _ _ => rfl⟩) hHeld ?_
          show wpAnyH _ _ _ _ _ _ _ (Act.put _ (some 105) _) _
          simp only [Act.put, List.setIfInBounds_toArray, List.set_cons_zero, List.set_cons_succ]
          refine wpAnyH_all (rs := [9]) (by kernel_rfl) (by simp) (fun i hi' => ?_)
          obtain rfl : i = 9 := by simpa using hi'
          clear hi'
          refine draw_pfield _ (.tmp 105) (.tmp 98) b17 2 ((t i).f 2) (aT i) rfl (by rfl) rfl rfl rfl hqa (by decide) (by decide) (fun w9 hqb hu9 => ?_)
          have hHeld := And.intro (hu9.pblk hHeld.1 (by omega)) (And.intro (hu9.blk hHeld.2.1 (by omega)) (hHeld.2.2.trans (hu9.below (by omega))))
          refine ⟨hHeld, ?_⟩
          clear hu9 hqa
          refine wpAnyH_take (i := 10) (v := .pointer (some ⟨b17, 25, none⟩)) rfl (by kernel_rfl) (by kernel_rfl) (by kernel_rfl) (fun _ _ _ h => h) (Or.inl ⟨by rfl, fun _ _ => rfl⟩) hHeld ?_
          show wpAnyH _ _ _ _ _ _ _ (Act.put _ (some 106) _) _
          simp only [Act.put, List.setIfInBounds_toArray, List.set_cons_zero, List.set_cons_succ]
          refine wpAnyH_all (rs := [11]) (by kernel_rfl) (by simp) (fun i hi' => ?_)
          obtain rfl : i = 11 := by simpa using hi'
          clear hi'
          refine draw_pfield _ (.tmp 106) (.tmp 100) b17 25 ((t i).f 25) (setf (aT i) 2 ((t i).f 2)) rfl (by rfl) rfl rfl rfl hqb (by decide) (by decide) (fun w9 hqc hu9 => ?_)
          have hHeld := And.intro (hu9.pblk hHeld.1 (by omega)) (And.intro (hu9.blk hHeld.2.1 (by omega)) (hHeld.2.2.trans (hu9.below (by omega))))
          refine ⟨hHeld, ?_⟩
          clear hu9 hqb
          refine wpAnyH_take (i := 12) (v := .pointer (some ⟨b17, 26, none⟩)) rfl (by kernel_rfl) (by kernel_rfl) (by kernel_rfl) (fun _ _ _ h => h) (Or.inl ⟨by rfl, fun _ _ => rfl⟩) hHeld ?_
          show wpAnyH _ _ _ _ _ _ _ (Act.put _ (some 107) _) _
          simp only [Act.put, List.setIfInBounds_toArray, List.set_cons_zero, List.set_cons_succ]
          refine wpAnyH_all (rs := [13]) (by kernel_rfl) (by simp) (fun i hi' => ?_)
          obtain rfl : i = 13 := by simpa using hi'
          clear hi'
          refine draw_pfield _ (.tmp 107) (.tmp 102) b17 26 ((t i).f 26) (setf (setf (aT i) 2 ((t i).f 2)) 25 ((t i).f 25)) rfl (by rfl) rfl rfl rfl hqc (by decide) (by decide) (fun w9 hqd hu9 => ?_)
          have hHeld := And.intro (hu9.pblk hHeld.1 (by omega)) (And.intro (hu9.blk hHeld.2.1 (by omega)) (hHeld.2.2.trans (hu9.below (by omega))))
          refine ⟨hHeld, ?_⟩
          clear hu9 hqc
          refine wpAnyH_take (i := 14) (v := .pointer (some ⟨b17, 1, none⟩)) rfl (by kernel_rfl) (by kernel_rfl) (by kernel_rfl) (fun _ _ _ h => h) (Or.inl ⟨by rfl, fun _ _ => rfl⟩) hHeld ?_
          show wpAnyH _ _ _ _ _ _ _ (Act.put _ (some 108) _) _
          simp only [Act.put, List.setIfInBounds_toArray, List.set_cons_zero, List.set_cons_succ]
          refine wpAnyH_all (rs := [15]) (by kernel_rfl) (by simp) (fun i hi' => ?_)
          obtain rfl : i = 15 := by simpa using hi'
          clear hi'
          refine draw_pfield _ (.tmp 108) (.tmp 104) b17 1 ((t i).f 1) (setf (setf (setf (aT i) 2 ((t i).f 2)) 25 ((t i).f 25)) 26 ((t i).f 26)) rfl (by rfl) rfl rfl rfl hqd (by decide) (by decide) (fun w9 hqe hu9 => ?_)
          have hHeld := And.intro (hu9.pblk hHeld.1 (by omega)) (And.intro (hu9.blk hHeld.2.1 (by omega)) (hHeld.2.2.trans (hu9.below (by omega))))
          refine ⟨hHeld, ?_⟩
          clear hu9 hqd
          refine wpAnyH_done (by kernel_rfl) ?_ _
          clear hp14 hx16 HWx
          go_wp2
          have hneq1 : (!eqP (setf (setf (setf (setf (aT i) 2 ((t i).f 2)) 25 ((t i).f 25)) 26 ((t i).f 26)) 1 ((t i).f 1)) (t i)) = false := eqP_no (keep_back (HA.out i hi8).1)
          have hpar : ((aT i).f 1 != (t i).f 1) = false := by rw [(HA.out i hi8).2]; simp
          refine wp_region_held_drew (S := fun wh => PBlk wh b17 (setf (setf (setf (setf (aT i) 2 ((t i).f 2)) 25 ((t i).f 25)) 26 ((t i).f 26)) 1 ((t i).f 1)) ∧ PBlk wh b14 (t i) ∧ Blk wh b16 aT ∧ Below M W0 wh) (by kernel_rfl) (⟨hqe.drew, hHeld.1.drew, hHeld.2.1.drew, hHeld.2.2.drew⟩) (fun hHeld => ?_)
          show wpAnyH _ _ _ _ _ (26 + 1) #[false, false, false, false, false, false, false, false, false, false, false, false, false, false, false, false, false, false, false, false, false, false, false, false, false, false, false] _ _
          refine wpAnyH_take (i := 0) (v := .agg (pcs (setf (setf (setf (setf (aT i) 2 ((t i).f 2)) 25 ((t i).f 25)) 26 ((t i).f 26)) 1 ((t i).f 1)))) rfl (by kernel_rfl) (by kernel_rfl) (by kernel_rfl) (fun _ _ _ h => h) (yieldsIf_row (by rfl) rfl rfl (fun wh hS => hS.1.range) Try.underlying28 rfl (info28l _)) hHeld ?_
          show wpAnyH _ _ _ _ _ _ _ (Act.put _ (some 109) _) _
          simp only [Act.put, List.setIfInBounds_toArray, List.set_cons_zero, List.set_cons_succ]
          refine wpAnyH_take (i := 1) (v := .agg (pcs (t i))) rfl (by kernel_rfl) (by kernel_rfl) (by kernel_rfl) (fun _ _ _ h => h) (yieldsIf_row (by rfl) rfl rfl (fun wh hS => hS.2.1.range) Try.underlying28 rfl (info28l _)) hHeld ?_
          show wpAnyH _ _ _ _ _ _ _ (Act.put _ (some 110) _) _
          simp only [Act.put, List.setIfInBounds_toArray, List.set_cons_zero, List.set_cons_succ]
          refine wpAnyH_take (i := 2) (v := .bool false) rfl (by kernel_rfl) (by kernel_rfl) (by kernel_rfl) (fun _ _ _ h => h) (yieldsIf_neq28 (by rfl) rfl rfl rfl hneq1) hHeld ?_
          show wpAnyH _ _ _ _ _ _ _ (Act.put _ (some 111) _) _
          simp only [Act.put, List.setIfInBounds_toArray, List.set_cons_zero, List.set_cons_succ]
          refine wpAnyH_take (i := 3) (v := .bool false) rfl (by kernel_rfl) (by kernel_rfl) (by kernel_rfl) (fun _ _ _ h => h) (Or.inl ⟨by rfl, fun _ _ => rfl⟩) hHeld ?_
          show wpAnyH _ _ _ _ _ _ _ (Act.put _ (some 112) _) _
          simp only [Act.put, List.setIfInBounds_toArray, List.set_cons_zero, List.set_cons_succ]
          refine wpAnyH_take (i := 4) (v := .int .i64 0) rfl (by kernel_rfl) (by kernel_rfl) (by kernel_rfl) (fun _ _ _ h => h) (Or.inl ⟨by rfl, fun _ _ => rfl⟩) hHeld ?_
          show wpAnyH _ _ _ _ _ _ _ (Act.put _ (some 113) _) _
          simp only [Act.put, List.setIfInBounds_toArray, List.set_cons_zero, List.set_cons_succ]
          refine wpAnyH_take (i := 5) (v := .bool false) rfl (by kernel_rfl) (by kernel_rfl) (by kernel_rfl) (fun _ _ _ h => h) (yb (b := 0 == 2) (by rfl) (fun _ _ => rfl) rfl) hHeld ?_
          show wpAnyH _ _ _ _ _ _ _ (Act.put _ (some 114) _) _
          simp only [Act.put, List.setIfInBounds_toArray, List.set_cons_zero, List.set_cons_succ]
          refine wpAnyH_take (i := 6) (v := .bool false) rfl (by kernel_rfl) (by kernel_rfl) (by kernel_rfl) (fun _ _ _ h => h) (Or.inl ⟨by rfl, fun _ _ => rfl⟩) hHeld ?_
          show wpAnyH _ _ _ _ _ _ _ (Act.put _ (some 115) _) _
          simp only [Act.put, List.setIfInBounds_toArray, List.set_cons_zero, List.set_cons_succ]
          refine wpAnyH_take (i := 7) (v := undef) rfl (by kernel_rfl) (by kernel_rfl) (by kernel_rfl) (fun _ _ _ h => h) (Or.inr ⟨by rfl, rfl⟩) hHeld ?_
          show wpAnyH _ _ _ _ _ _ _ (Act.put _ (some 116) _) _
          simp only [Act.put, List.setIfInBounds_toArray, List.set_cons_zero, List.set_cons_succ]
          refine wpAnyH_take (i := 8) (v := undef) rfl (by kernel_rfl) (by kernel_rfl) (by kernel_rfl) (fun _ _ _ h => h) (Or.inr ⟨by rfl, rfl⟩) hHeld ?_
          show wpAnyH _ _ _ _ _ _ _ (Act.put _ (some 117) _) _
          simp only [Act.put, List.setIfInBounds_toArray, List.set_cons_zero, List.set_cons_succ]
          refine wpAnyH_take (i := 9) (v := undef) rfl (by kernel_rfl) (by kernel_rfl) (by kernel_rfl) (fun _ _ _ h => h) (Or.inr ⟨by rfl, rfl⟩) hHeld ?_
          show wpAnyH _ _ _ _ _ _ _ (Act.put _ (some 118) _) _
          simp only [Act.put, List.setIfInBounds_toArray, List.set_cons_zero, List.set_cons_succ]
          refine wpAnyH_take (i := 10) (v := undef) rfl (by kernel_rfl) (by kernel_rfl) (by kernel_rfl) (fun _ _ _ h => h) (Or.inr ⟨by rfl, rfl⟩) hHeld ?_
          show wpAnyH _ _ _ _ _ _ _ (Act.put _ (some 119) _) _
          simp only [Act.put, List.setIfInBounds_toArray, List.set_cons_zero, List.set_cons_succ]
          refine wpAnyH_take (i := 11) (v := undef) rfl (by kernel_rfl) (by kernel_rfl) (by kernel_rfl) (fun _ _ _ h => h) (Or.inr ⟨by rfl, rfl⟩) hHeld ?_
          show wpAnyH _ _ _ _ _ _ _ (Act.put _ (some 120) _) _
          simp only [Act.put, List.setIfInBounds_toArray, List.set_cons_zero, List.set_cons_succ]
          refine wpAnyH_take (i := 12) (v := .bool false) rfl (by kernel_rfl) (by kernel_rfl) (by kernel_rfl) (fun _ _ _ h => h) (Or.inl ⟨by rfl, fun _ _ => rfl⟩) hHeld ?_
          show wpAnyH _ _ _ _ _ _ _ (Act.put _ (some 121) _) _
          simp only [Act.put, List.setIfInBounds_toArray, List.set_cons_zero, List.set_cons_succ]
          refine wpAnyH_take (i := 13) (v := .bool false) rfl (by kernel_rfl) (by kernel_rfl) (by kernel_rfl) (fun _ _ _ h => h) (Or.inl ⟨by rfl, fun _ _ => rfl⟩) hHeld ?_
          show wpAnyH _ _ _ _ _ _ _ (Act.put _ (some 122) _) _
          simp only [Act.put, List.setIfInBounds_toArray, List.set_cons_zero, List.set_cons_succ]
          refine wpAnyH_take (i := 14) (v := .bool false) rfl (by kernel_rfl) (by kernel_rfl) (by kernel_rfl) (fun _ _ _ h => h) (Or.inl ⟨by rfl, fun _ _ => rfl⟩) hHeld ?_
          show wpAnyH _ _ _ _ _ _ _ (Act.put _ (some 123) _) _
          simp only [Act.put, List.setIfInBounds_toArray, List.set_cons_zero, List.set_cons_succ]
          refine wpAnyH_take (i := 15) (v := .int .i64 0) rfl (by kernel_rfl) (by kernel_rfl) (by kernel_rfl) (fun _ _ _ h => h) (Or.inl ⟨by rfl, fun _ _ => rfl⟩) hHeld ?_
          show wpAnyH _ _ _ _ _ _ _ (Act.put _ (some 124) _) _
          simp only [Act.put, List.setIfInBounds_toArray, List.set_cons_zero, List.set_cons_succ]
          refine wpAnyH_take (i := 16) (v := .bool true) rfl (by kernel_rfl) (by kernel_rfl) (by kernel_rfl) (fun _ _ _ h => h) (yb (b := 0 == 0) (by rfl) (fun _ _ => rfl) rfl) hHeld ?_
          show wpAnyH _ _ _ _ _ _ _ (Act.put _ (some 125) _) _
          simp only [Act.put, List.setIfInBounds_toArray, List.set_cons_zero, List.set_cons_succ]
          refine wpAnyH_take (i := 17) (v := .bool true) rfl (by kernel_rfl) (by kernel_rfl) (by kernel_rfl) (fun _ _ _ h => h) (Or.inl ⟨by rfl, fun _ _ => rfl⟩) hHeld ?_
          show wpAnyH _ _ _ _ _ _ _ (Act.put _ (some 126) _) _
          simp only [Act.put, List.setIfInBounds_toArray, List.set_cons_zero, List.set_cons_succ]
          refine wpAnyH_take (i := 18) (v := .int .i64 (i : Int)) rfl (by kernel_rfl) (by kernel_rfl) (by kernel_rfl) (fun _ _ _ h => h) (Or.inl ⟨by rfl, fun _ _ => rfl⟩) hHeld ?_
          show wpAnyH _ _ _ _ _ _ _ (Act.put _ (some 127) _) _
          simp only [Act.put, List.setIfInBounds_toArray, List.set_cons_zero, List.set_cons_succ]
          refine wpAnyH_take (i := 19) (v := .pointer (some ⟨b16, i * 29, none⟩)) rfl (by kernel_rfl) (by kernel_rfl) (by kernel_rfl) (fun _ _ _ h => h) (Or.inl ⟨by rfl, fun wh hS => by go_simp⟩) hHeld ?_
          show wpAnyH _ _ _ _ _ _ _ (Act.put _ (some 128) _) _
          simp only [Act.put, List.setIfInBounds_toArray, List.set_cons_zero, List.set_cons_succ]
          refine wpAnyH_take (i := 20) (v := .pointer (some ⟨b16, i * 29 + 1, none⟩)) rfl (by kernel_rfl) (by kernel_rfl) (by kernel_rfl) (fun _ _ _ h => h) (Or.inl ⟨by rfl, fun _ _ => rfl⟩) hHeld ?_
          show wpAnyH _ _ _ _ _ _ _ (Act.put _ (some 129) _) _
          simp only [Act.put, List.setIfInBounds_toArray, List.set_cons_zero, List.set_cons_succ]
          refine wpAnyH_take (i := 21) (v := .int .i64 ((aT i).f 1)) rfl (by kernel_rfl) (by kernel_rfl) (by kernel_rfl) (fun _ _ _ h => h) (yieldsIf_cell (by rfl) rfl rfl (fun wh hS => hS.2.2.1.int i 1 hi8 (by decide) (by decide)) isInt3) hHeld ?_
          show wpAnyH _ _ _ _ _ _ _ (Act.put _ (some 130) _) _
          simp only [Act.put, List.setIfInBounds_toArray, List.set_cons_zero, List.set_cons_succ]
          refine wpAnyH_take (i := 22) (v := .pointer (some ⟨b14, 1, none⟩)) rfl (by kernel_rfl) (by kernel_rfl) (by kernel_rfl) (fun _ _ _ h => h) (Or.inl ⟨by rfl, fun _ _ => rfl⟩) hHeld ?_
          show wpAnyH _ _ _ _ _ _ _ (Act.put _ (some 131) _) _
          simp only [Act.put, List.setIfInBounds_toArray, List.set_cons_zero, List.set_cons_succ]
          refine wpAnyH_take (i := 23) (v := .int .i64 ((t i).f 1)) rfl (by kernel_rfl) (by kernel_rfl) (by kernel_rfl) (fun _ _ _ h => h) (yieldsIf_cell (by rfl) rfl rfl (fun wh hS => hS.2.1.int 1 (by decide) (by decide)) isInt3) hHeld ?_
          show wpAnyH _ _ _ _ _ _ _ (Act.put _ (some 132) _) _
          simp only [Act.put, List.setIfInBounds_toArray, List.set_cons_zero, List.set_cons_succ]
          refine wpAnyH_take (i := 24) (v := .bool false) rfl (by kernel_rfl) (by kernel_rfl) (by kernel_rfl) (fun _ _ _ h => h) (yb (b := ((aT i).f 1) != ((t i).f 1)) (by rfl) (fun _ _ => rfl) hpar) hHeld ?_
          show wpAnyH _ _ _ _ _ _ _ (Act.put _ (some 133) _) _
          simp only [Act.put, List.setIfInBounds_toArray, List.set_cons_zero, List.set_cons_succ]
          refine wpAnyH_take (i := 25) (v := .bool false) rfl (by kernel_rfl) (by kernel_rfl) (by kernel_rfl) (fun _ _ _ h => h) (Or.inl ⟨by rfl, fun _ _ => rfl⟩) hHeld ?_
          show wpAnyH _ _ _ _ _ _ _ (Act.put _ (some 134) _) _
          simp only [Act.put, List.setIfInBounds_toArray, List.set_cons_zero, List.set_cons_succ]
          refine wpAnyH_take (i := 26) (v := .bool false) rfl (by kernel_rfl) (by kernel_rfl) (by kernel_rfl) (fun _ _ _ h => h) (Or.inl ⟨by rfl, fun _ _ => rfl⟩) hHeld ?_
          show wpAnyH _ _ _ _ _ _ _ (Act.put _ (some 135) _) _
          simp only [Act.put, List.setIfInBounds_toArray, List.set_cons_zero, List.set_cons_succ]
          refine wpAnyH_done (by kernel_rfl) ?_ _
          obtain ⟨_, _, _, hwn⟩ := hHeld
          have HWk := hidI hwn
          clear hwn hneq1 hpar hqe
          go_wp2
          generalize w9.drew = wk at *
          cases hix : ((i : Int) == index)
          · have HNE : Hid ((i : Int) ≠ index) := by have : ((i : Int) == index) = false := hix; exact hidI (by simpa using this)
            rw [rounds_succ]
            have hTk := hT.below HWk.out hTl
            have hpk := hp0.below HWk.out hl14
            have hMk : M ≤ wk.heap.size := by rw [HMM.out]; exact HWk.out.size
            go_wp2_with (first
              | ((with_reducible refine g_load 29 ?_ rfl); refine st_loadT (f := three aT bT cT) (k := 1) (by rfl) rfl rfl hTk (by decide) ?_)
              | ((with_reducible refine g_alloc 29 ?_ rfl); refine st_alloc29 (by rfl) rfl ?_; have hz := Blk.new wk tz; have hp1 := hpk.alloc (.cells (tcs tz) 29); have HW1 := hidI (HWk.out.alloc hMk (.cells (tcs tz) 29)); clear hTk hpk HWk)
              | ((with_reducible refine g_store 29 ?_ rfl); refine st_store29 (x := .tmp 16) (by rfl) rfl rfl rfl hz ?_; intro w2 hx2 hu2; have hp2 := hu2.pblk hp1 (by omega); have HW2 := hidI (HW1.out.trans (hu2.below hMk)); have hs2 := hu2.size; rw [World.size_alloc] at hs2; have hM2 : M ≤ w2.heap.size := (by omega); have HS2 := hidI hs2; clear hs2 hu2 hz hp1 HW1)
              | ((with_reducible refine g_load 28 ?_ rfl); refine st_load28 (k := i) (by rfl) rfl rfl hx2 hi8 ?_)
              | ((with_reducible refine g_alloc 28 ?_ rfl); refine st_alloc28 (by rfl) rfl ?_; have hqz := PBlk.new w2 zp; have hp3 := hp2.alloc (.cells (pcs zp) 28); have hx3 := hx2.alloc (.cells (pcs zp) 28); have HW3 := hidI (HW2.out.alloc hM2 (.cells (pcs zp) 28)); clear hp2 hx2 HW2)
              | ((with_reducible refine g_store 28 ?_ rfl); refine st_pstore28 (by rfl) rfl rfl rfl hqz ?_; intro w4 hqa hu4; have hb17 : wk.heap.size < w2.heap.size := (by have := HS2.out; omega); have hp14 := hu4.pblk hp3 (by omega); have hx16 := hu4.blk hx3 (by omega); have HWx := hidI (HW3.out.trans (hu4.below (by omega))); clear hqz hu4 hp3 hx3 HW3 HS2))
            generalize wk.heap.size = b16 at *
            generalize w2.heap.size = b17 at *
            have hqa : PBlk w4.drew b17 (bT i) := hqa
            refine wp_region_held_drew (S := fun wh => PBlk wh b14 (t i) ∧ Blk wh b16 bT ∧ Below M W0 wh) (by kernel_rfl) (⟨hp14.drew, hx16.drew, HWx.out.drew⟩) (fun hHeld => ?_)
            show wpAnyH _ _ _ _ _ (15 + 1) #[false, false, false, false, false, false, false, false, false, false, false, false, false, false, false, false] _ _
            refine wpAnyH_take (i := 0) (v := .pointer (some ⟨b14, 2, none⟩)) rfl (by kernel_rfl) (by kernel_rfl) (by kernel_rfl) (fun _ _ _ h => h) (Or.inl ⟨by rfl, fun _ _ => rfl⟩) hHeld ?_
            show wpAnyH _ _ _ _ _ _ _ (Act.put _ (some 97) _) _
            simp only [Act.put, List.setIfInBounds_toArray, List.set_cons_zero, List.set_cons_succ]
            refine wpAnyH_take (i := 1) (v := .int .i64 ((t i).f 2)) rfl (by kernel_rfl) (by kernel_rfl) (by kernel_rfl) (fun _ _ _ h => h) (yieldsIf_cell (by rfl) rfl rfl (fun wh hS => hS.1.int 2 (by decide) (by decide)) isInt3) hHeld ?_
            show wpAnyH _ _ _ _ _ _ _ (Act.put _ (some 98) _) _
            simp only [Act.put, List.setIfInBounds_toArray, List.set_cons_zero, List.set_cons_succ]
            refine wpAnyH_take (i := 2) (v := .pointer (some ⟨b14, 25, none⟩)) rfl (by kernel_rfl) (by kernel_rfl) (by kernel_rfl) (fun _ _ _ h => h) (Or.inl ⟨by rfl, fun _ _ => rfl⟩) hHeld ?_
            show wpAnyH _ _ _ _ _ _ _ (Act.put _ (some 99) _) _
            simp only [Act.put, List.setIfInBounds_toArray, List.set_cons_zero, List.set_cons_succ]
            refine wpAnyH_take (i := 3) (v := .int .i64 ((t i).f 25)) rfl (by kernel_rfl) (by kernel_rfl) (by kernel_rfl) (fun _ _ _ h => h) (yieldsIf_cell (by rfl) rfl rfl (fun wh hS => hS.1.int 25 (by decide) (by decide)) isInt3) hHeld ?_
            show wpAnyH _ _ _ _ _ _ _ (Act.put _ (some 100) _) _
            simp only [Act.put, List.setIfInBounds_toArray, List.set_cons_zero, List.set_cons_succ]
            refine wpAnyH_take (i := 4) (v := .pointer (some ⟨b14, 26, none⟩)) rfl (by kernel_rfl) (by kernel_rfl) (by kernel_rfl) (fun _ _ _ h => h) (Or.inl ⟨by rfl, fun _ _ => rfl⟩) hHeld ?_
            show wpAnyH _ _ _ _ _ _ _ (Act.put _ (some 101) _) _
            simp only [Act.put, List.setIfInBounds_toArray, List.set_cons_zero, List.set_cons_succ]
            refine wpAnyH_take (i := 5) (v := .int .i64 ((t i).f 26)) rfl (by kernel_rfl) (by kernel_rfl) (by kernel_rfl) (fun _ _ _ h => h) (yieldsIf_cell (by rfl) rfl rfl (fun wh hS => hS.1.int 26 (by decide) (by decide)) isInt3) hHeld ?_
            show wpAnyH _ _ _ _ _ _ _ (Act.put _ (some 102) _) _
            simp only [Act.put, List.setIfInBounds_toArray, List.set_cons_zero, List.set_cons_succ]
            refine wpAnyH_take (i := 6) (v := .pointer (some ⟨b14, 1, none⟩)) rfl (by kernel_rfl) (by kernel_rfl) (by kernel_rfl) (fun _ _ _ h => h) (Or.inl ⟨by rfl, fun _ _ => rfl⟩) hHeld ?_
            show wpAnyH _ _ _ _ _ _ _ (Act.put _ (some 103) _) _
            simp only [Act.put, List.setIfInBounds_toArray, List.set_cons_zero, List.set_cons_succ]
            refine wpAnyH_take (i := 7) (v := .int .i64 ((t i).f 1)) rfl (by kernel_rfl) (by kernel_rfl) (by kernel_rfl) (fun _ _ _ h => h) (yieldsIf_cell (by rfl) rfl rfl (fun wh hS => hS.1.int 1 (by decide) (by decide)) isInt3) hHeld ?_
            show wpAnyH _ _ _ _ _ _ _ (Act.put _ (some 104) _) _
            simp only [Act.put, List.setIfInBounds_toArray, List.set_cons_zero, List.set_cons_succ]
            refine wpAnyH_take (i := 8) (v := .pointer (some ⟨b17, 2, none⟩)) rfl (by kernel_rfl) (by kernel_rfl) (by kernel_rfl) (fun _ _ _ h => h) (Or.inl ⟨by rfl, fun _ _ => rfl⟩) hHeld ?_
            show wpAnyH _ _ _ _ _ _ _ (Act.put _ (some 105) _) _
            simp only [Act.put, List.setIfInBounds_toArray, List.set_cons_zero, List.set_cons_succ]
            refine wpAnyH_all (rs := [9]) (by kernel_rfl) (by simp) (fun i hi' => ?_)
            obtain rfl : i = 9 := by simpa using hi'
            clear hi'
            refine draw_pfield _ (.tmp 105) (.tmp 98) b17 2 ((t i).f 2) (bT i) rfl (by rfl) rfl rfl rfl hqa (by decide) (by decide) (fun w9 hqb hu9 => ?_)
            have hHeld := And.intro (hu9.pblk hHeld.1 (by omega)) (And.intro (hu9.blk hHeld.2.1 (by omega)) (hHeld.2.2.trans (hu9.below (by omega))))
            refine ⟨hHeld, ?_⟩
            clear hu9 hqa
            refine wpAnyH_take (i := 10) (v := .pointer (some ⟨b17, 25, none⟩)) rfl (by kernel_rfl) (by kernel_rfl) (by kernel_rfl) (fun _ _ _ h => h) (Or.inl ⟨by rfl, fun _ _ => rfl⟩) hHeld ?_
            show wpAnyH _ _ _ _ _ _ _ (Act.put _ (some 106) _) _
            simp only [Act.put, List.setIfInBounds_toArray, List.set_cons_zero, List.set_cons_succ]
            refine wpAnyH_all (rs := [11]) (by kernel_rfl) (by simp) (fun i hi' => ?_)
            obtain rfl : i = 11 := by simpa using hi'
            clear hi'
            refine draw_pfield _ (.tmp 106) (.tmp 100) b17 25 ((t i).f 25) (setf (bT i) 2 ((t i).f 2)) rfl (by rfl) rfl rfl rfl hqb (by decide) (by decide) (fun w9 hqc hu9 => ?_)
            have hHeld := And.intro (hu9.pblk hHeld.1 (by omega)) (And.intro (hu9.blk hHeld.2.1 (by omega)) (hHeld.2.2.trans (hu9.below (by omega))))
            refine ⟨hHeld, ?_⟩
            clear hu9 hqb
            refine wpAnyH_take (i := 12) (v := .pointer (some ⟨b17, 26, none⟩)) rfl (by kernel_rfl) (by kernel_rfl) (by kernel_rfl) (fun _ _ _ h => h) (Or.inl ⟨by rfl, fun _ _ => rfl⟩) hHeld ?_
            show wpAnyH _ _ _ _ _ _ _ (Act.put _ (some 107) _) _
            simp only [Act.put, List.setIfInBounds_toArray, List.set_cons_zero, List.set_cons_succ]
            refine wpAnyH_all (rs := [13]) (by kernel_rfl) (by simp) (fun i hi' => ?_)
            obtain rfl : i = 13 := by simpa using hi'
            clear hi'
            refine draw_pfield _ (.tmp 107) (.tmp 102) b17 26 ((t i).f 26) (setf (setf (bT i) 2 ((t i).f 2)) 25 ((t i).f 25)) rfl (by rfl) rfl rfl rfl hqc (by decide) (by decide) (fun w9 hqd hu9 => ?_)
            have hHeld := And.intro (hu9.pblk hHeld.1 (by omega)) (And.intro (hu9.blk hHeld.2.1 (by omega)) (hHeld.2.2.trans (hu9.below (by omega))))
            refine ⟨hHeld, ?_⟩
            clear hu9 hqc
            refine wpAnyH_take (i := 14) (v := .pointer (some ⟨b17, 1, none⟩)) rfl (by kernel_rfl) (by kernel_rfl) (by kernel_rfl) (fun _ _ _ h => h) (Or.inl ⟨by rfl, fun _ _ => rfl⟩) hHeld ?_
            show wpAnyH _ _ _ _ _ _ _ (Act.put _ (some 108) _) _
            simp only [Act.put, List.setIfInBounds_toArray, List.set_cons_zero, List.set_cons_succ]
            refine wpAnyH_all (rs := [15]) (by kernel_rfl) (by simp) (fun i hi' => ?_)
            obtain rfl : i = 15 := by simpa using hi'
            clear hi'
            refine draw_pfield _ (.tmp 108) (.tmp 104) b17 1 ((t i).f 1) (setf (setf (setf (bT i) 2 ((t i).f 2)) 25 ((t i).f 25)) 26 ((t i).f 26)) rfl (by rfl) rfl rfl rfl hqd (by decide) (by decide) (fun w9 hqe hu9 => ?_)
            have hHeld := And.intro (hu9.pblk hHeld.1 (by omega)) (And.intro (hu9.blk hHeld.2.1 (by omega)) (hHeld.2.2.trans (hu9.below (by omega))))
            refine ⟨hHeld, ?_⟩
            clear hu9 hqd
            refine wpAnyH_done (by kernel_rfl) ?_ _
            clear hp14 hx16 HWx
            go_wp2
            have hneq1 : (!eqP (setf (setf (setf (setf (bT i) 2 ((t i).f 2)) 25 ((t i).f 25)) 26 ((t i).f 26)) 1 ((t i).f 1)) (t i)) = false := eqP_no (keep_back (HBK.out i hi8 HNE.out HL3.out))
            refine wp_region_held_drew (S := fun wh => PBlk wh b17 (setf (setf (setf (setf (bT i) 2 ((t i).f 2)) 25 ((t i).f 25)) 26 ((t i).f 26)) 1 ((t i).f 1)) ∧ PBlk wh b14 (t i) ∧ Blk wh b16 bT ∧ Below M W0 wh) (by kernel_rfl) (⟨hqe.drew, hHeld.1.drew, hHeld.2.1.drew, hHeld.2.2.drew⟩) (fun hHeld => ?_)
            show wpAnyH _ _ _ _ _ (26 + 1) #[false, false, false, false, false, false, false, false, false, false, false, false, false, false, false, false, false, false, false, false, false, false, false, false, false, false, false] _ _
            refine wpAnyH_take (i := 0) (v := .agg (pcs (setf (setf (setf (setf (bT i) 2 ((t i).f 2)) 25 ((t i).f 25)) 26 ((t i).f 26)) 1 ((t i).f 1)))) rfl (by kernel_rfl) (by kernel_rfl) (by kernel_rfl) (fun _ _ _ h => h) (yieldsIf_row (by rfl) rfl rfl (fun wh hS => hS.1.range) Try.underlying28 rfl (info28l _)) hHeld ?_
            show wpAnyH _ _ _ _ _ _ _ (Act.put _ (some 109) _) _
            simp only [Act.put, List.setIfInBounds_toArray, List.set_cons_zero, List.set_cons_succ]
            refine wpAnyH_take (i := 1) (v := .agg (pcs (t i))) rfl (by kernel_rfl) (by kernel_rfl) (by kernel_rfl) (fun _ _ _ h => h) (yieldsIf_row (by rfl) rfl rfl (fun wh hS => hS.2.1.range) Try.underlying28 rfl (info28l _)) hHeld ?_
            show wpAnyH _ _ _ _ _ _ _ (Act.put _ (some 110) _) _
            simp only [Act.put, List.setIfInBounds_toArray, List.set_cons_zero, List.set_cons_succ]
            refine wpAnyH_take (i := 2) (v := .bool false) rfl (by kernel_rfl) (by kernel_rfl) (by kernel_rfl) (fun _ _ _ h => h) (yieldsIf_neq28 (by rfl) rfl rfl rfl hneq1) hHeld ?_
            show wpAnyH _ _ _ _ _ _ _ (Act.put _ (some 111) _) _
            simp only [Act.put, List.setIfInBounds_toArray, List.set_cons_zero, List.set_cons_succ]
            refine wpAnyH_take (i := 3) (v := .bool false) rfl (by kernel_rfl) (by kernel_rfl) (by kernel_rfl) (fun _ _ _ h => h) (Or.inl ⟨by rfl, fun _ _ => rfl⟩) hHeld ?_
            show wpAnyH _ _ _ _ _ _ _ (Act.put _ (some 112) _) _
            simp only [Act.put, List.setIfInBounds_toArray, List.set_cons_zero, List.set_cons_succ]
            refine wpAnyH_take (i := 4) (v := .int .i64 1) rfl (by kernel_rfl) (by kernel_rfl) (by kernel_rfl) (fun _ _ _ h => h) (Or.inl ⟨by rfl, fun _ _ => rfl⟩) hHeld ?_
            show wpAnyH _ _ _ _ _ _ _ (Act.put _ (some 113) _) _
            simp only [Act.put, List.setIfInBounds_toArray, List.set_cons_zero, List.set_cons_succ]
            refine wpAnyH_take (i := 5) (v := .bool false) rfl (by kernel_rfl) (by kernel_rfl) (by kernel_rfl) (fun _ _ _ h => h) (yb (b := 1 == 2) (by rfl) (fun _ _ => rfl) rfl) hHeld ?_
            show wpAnyH _ _ _ _ _ _ _ (Act.put _ (some 114) _) _
            simp only [Act.put, List.setIfInBounds_toArray, List.set_cons_zero, List.set_cons_succ]
            refine wpAnyH_take (i := 6) (v := .bool false) rfl (by kernel_rfl) (by kernel_rfl) (by kernel_rfl) (fun _ _ _ h => h) (Or.inl ⟨by rfl, fun _ _ => rfl⟩) hHeld ?_
            show wpAnyH _ _ _ _ _ _ _ (Act.put _ (some 115) _) _
            simp only [Act.put, List.setIfInBounds_toArray, List.set_cons_zero, List.set_cons_succ]
            refine wpAnyH_take (i := 7) (v := undef) rfl (by kernel_rfl) (by kernel_rfl) (by kernel_rfl) (fun _ _ _ h => h) (Or.inr ⟨by rfl, rfl⟩) hHeld ?_
            show wpAnyH _ _ _ _ _ _ _ (Act.put _ (some 116) _) _
            simp only [Act.put, List.setIfInBounds_toArray, List.set_cons_zero, List.set_cons_succ]
            refine wpAnyH_take (i := 8) (v := undef) rfl (by kernel_rfl) (by kernel_rfl) (by kernel_rfl) (fun _ _ _ h => h) (Or.inr ⟨by rfl, rfl⟩) hHeld ?_
            show wpAnyH _ _ _ _ _ _ _ (Act.put _ (some 117) _) _
            simp only [Act.put, List.setIfInBounds_toArray, List.set_cons_zero, List.set_cons_succ]
            refine wpAnyH_take (i := 9) (v := undef) rfl (by kernel_rfl) (by kernel_rfl) (by kernel_rfl) (fun _ _ _ h => h) (Or.inr ⟨by rfl, rfl⟩) hHeld ?_
            show wpAnyH _ _ _ _ _ _ _ (Act.put _ (some 118) _) _
            simp only [Act.put, List.setIfInBounds_toArray, List.set_cons_zero, List.set_cons_succ]
            refine wpAnyH_take (i := 10) (v := undef) rfl (by kernel_rfl) (by kernel_rfl) (by kernel_rfl) (fun _ _ _ h => h) (Or.inr ⟨by rfl, rfl⟩) hHeld ?_
            show wpAnyH _ _ _ _ _ _ _ (Act.put _ (some 119) _) _
            simp only [Act.put, List.setIfInBounds_toArray, List.set_cons_zero, List.set_cons_succ]
            refine wpAnyH_take (i := 11) (v := undef) rfl (by kernel_rfl) (by kernel_rfl) (by kernel_rfl) (fun _ _ _ h => h) (Or.inr ⟨by rfl, rfl⟩) hHeld ?_
            show wpAnyH _ _ _ _ _ _ _ (Act.put _ (some 120) _) _
            simp only [Act.put, List.setIfInBounds_toArray, List.set_cons_zero, List.set_cons_succ]
            refine wpAnyH_take (i := 12) (v := .bool false) rfl (by kernel_rfl) (by kernel_rfl) (by kernel_rfl) (fun _ _ _ h => h) (Or.inl ⟨by rfl, fun _ _ => rfl⟩) hHeld ?_
            show wpAnyH _ _ _ _ _ _ _ (Act.put _ (some 121) _) _
            simp only [Act.put, List.setIfInBounds_toArray, List.set_cons_zero, List.set_cons_succ]
            refine wpAnyH_take (i := 13) (v := .bool false) rfl (by kernel_rfl) (by kernel_rfl) (by kernel_rfl) (fun _ _ _ h => h) (Or.inl ⟨by rfl, fun _ _ => rfl⟩) hHeld ?_
            show wpAnyH _ _ _ _ _ _ _ (Act.put _ (some 122) _) _
            simp only [Act.put, List.setIfInBounds_toArray, List.set_cons_zero, List.set_cons_succ]
            refine wpAnyH_take (i := 14) (v := .bool false) rfl (by kernel_rfl) (by kernel_rfl) (by kernel_rfl) (fun _ _ _ h => h) (Or.inl ⟨by rfl, fun _ _ => rfl⟩) hHeld ?_
            show wpAnyH _ _ _ _ _ _ _ (Act.put _ (some 123) _) _
            simp only [Act.put, List.setIfInBounds_toArray, List.set_cons_zero, List.set_cons_succ]
            refine wpAnyH_take (i := 15) (v := .int .i64 1) rfl (by kernel_rfl) (by kernel_rfl) (by kernel_rfl) (fun _ _ _ h => h) (Or.inl ⟨by rfl, fun _ _ => rfl⟩) hHeld ?_
            show wpAnyH _ _ _ _ _ _ _ (Act.put _ (some 124) _) _
            simp only [Act.put, List.setIfInBounds_toArray, List.set_cons_zero, List.set_cons_succ]
            refine wpAnyH_take (i := 16) (v := .bool false) rfl (by kernel_rfl) (by kernel_rfl) (by kernel_rfl) (fun _ _ _ h => h) (yb (b := 1 == 0) (by rfl) (fun _ _ => rfl) rfl) hHeld ?_
            show wpAnyH _ _ _ _ _ _ _ (Act.put _ (some 125) _) _
            simp only [Act.put, List.setIfInBounds_toArray, List.set_cons_zero, List.set_cons_succ]
            refine wpAnyH_take (i := 17) (v := .bool false) rfl (by kernel_rfl) (by kernel_rfl) (by kernel_rfl) (fun _ _ _ h => h) (Or.inl ⟨by rfl, fun _ _ => rfl⟩) hHeld ?_
            show wpAnyH _ _ _ _ _ _ _ (Act.put _ (some 126) _) _
            simp only [Act.put, List.setIfInBounds_toArray, List.set_cons_zero, List.set_cons_succ]
            refine wpAnyH_take (i := 18) (v := undef) rfl (by kernel_rfl) (by kernel_rfl) (by kernel_rfl) (fun _ _ _ h => h) (Or.inr ⟨by rfl, rfl⟩) hHeld ?_
            show wpAnyH _ _ _ _ _ _ _ (Act.put _ (some 127) _) _
            simp only [Act.put, List.setIfInBounds_toArray, List.set_cons_zero, List.set_cons_succ]
            refine wpAnyH_take (i := 19) (v := undef) rfl (by kernel_rfl) (by kernel_rfl) (by kernel_rfl) (fun _ _ _ h => h) (Or.inr ⟨by rfl, rfl⟩) hHeld ?_
            show wpAnyH _ _ _ _ _ _ _ (Act.put _ (some 128) _) _
            simp only [Act.put, List.setIfInBounds_toArray, List.set_cons_zero, List.set_cons_succ]
            refine wpAnyH_take (i := 20) (v := undef) rfl (by kernel_rfl) (by kernel_rfl) (by kernel_rfl) (fun _ _ _ h => h) (Or.inr ⟨by rfl, rfl⟩) hHeld ?_
            show wpAnyH _ _ _ _ _ _ _ (Act.put _ (some 129) _) _
            simp only [Act.put, List.setIfInBounds_toArray, List.set_cons_zero, List.set_cons_succ]
            refine wpAnyH_take (i := 21) (v := undef) rfl (by kernel_rfl) (by kernel_rfl) (by kernel_rfl) (fun _ _ _ h => h) (Or.inr ⟨by rfl, rfl⟩) hHeld ?_
            show wpAnyH _ _ _ _ _ _ _ (Act.put _ (some 130) _) _
            simp only [Act.put, List.setIfInBounds_toArray, List.set_cons_zero, List.set_cons_succ]
            refine wpAnyH_take (i := 22) (v := undef) rfl (by kernel_rfl) (by kernel_rfl) (by kernel_rfl) (fun _ _ _ h => h) (Or.inr ⟨by rfl, rfl⟩) hHeld ?_
            show wpAnyH _ _ _ _ _ _ _ (Act.put _ (some 131) _) _
            simp only [Act.put, List.setIfInBounds_toArray, List.set_cons_zero, List.set_cons_succ]
            refine wpAnyH_take (i := 23) (v := undef) rfl (by kernel_rfl) (by kernel_rfl) (by kernel_rfl) (fun _ _ _ h => h) (Or.inr ⟨by rfl, rfl⟩) hHeld ?_
            show wpAnyH _ _ _ _ _ _ _ (Act.put _ (some 132) _) _
            simp only [Act.put, List.setIfInBounds_toArray, List.set_cons_zero, List.set_cons_succ]
            refine wpAnyH_take (i := 24) (v := undef) rfl (by kernel_rfl) (by kernel_rfl) (by kernel_rfl) (fun _ _ _ h => h) (Or.inr ⟨by rfl, rfl⟩) hHeld ?_
            show wpAnyH _ _ _ _ _ _ _ (Act.put _ (some 133) _) _
            simp only [Act.put, List.setIfInBounds_toArray, List.set_cons_zero, List.set_cons_succ]
            refine wpAnyH_take (i := 25) (v := .bool false) rfl (by kernel_rfl) (by kernel_rfl) (by kernel_rfl) (fun _ _ _ h => h) (Or.inl ⟨by rfl, fun _ _ => rfl⟩) hHeld ?_
            show wpAnyH _ _ _ _ _ _ _ (Act.put _ (some 134) _) _
            simp only [Act.put, List.setIfInBounds_toArray, List.set_cons_zero, List.set_cons_succ]
            refine wpAnyH_take (i := 26) (v := .bool false) rfl (by kernel_rfl) (by kernel_rfl) (by kernel_rfl) (fun _ _ _ h => h) (Or.inl ⟨by rfl, fun _ _ => rfl⟩) hHeld ?_
            show wpAnyH _ _ _ _ _ _ _ (Act.put _ (some 135) _) _
            simp only [Act.put, List.setIfInBounds_toArray, List.set_cons_zero, List.set_cons_succ]
            refine wpAnyH_done (by kernel_rfl) ?_ _
            obtain ⟨_, _, _, hwn⟩ := hHeld
            have HWk := hidI hwn
            clear hwn hneq1 hqe
            go_wp2
            generalize w9.drew = wk at *
            rw [rounds_succ]
            have hTk := hT.below HWk.out hTl
            have hpk := hp0.below HWk.out hl14
            have hMk : M ≤ wk.heap.size := by rw [HMM.out]; exact HWk.out.size
            go_wp2_with (first
              | ((with_reducible refine g_load 29 ?_ rfl); refine st_loadT (f := three aT bT cT) (k := 2) (by rfl) rfl rfl hTk (by decide) ?_)
              | ((with_reducible refine g_alloc 29 ?_ rfl); refine st_alloc29 (by rfl) rfl ?_; have hz := Blk.new wk tz; have hp1 := hpk.alloc (.cells (tcs tz) 29); have HW1 := hidI (HWk.out.alloc hMk (.cells (tcs tz) 29)); clear hTk hpk HWk)
              | ((with_reducible refine g_store 29 ?_ rfl); refine st_store29 (x := .tmp 16) (by rfl) rfl rfl rfl hz ?_; intro w2 hx2 hu2; have hp2 := hu2.pblk hp1 (by omega); have HW2 := hidI (HW1.out.trans (hu2.below hMk)); have hs2 := hu2.size; rw [World.size_alloc] at hs2; have hM2 : M ≤ w2.heap.size := (by omega); have HS2 := hidI hs2; clear hs2 hu2 hz hp1 HW1)
              | ((with_reducible refine g_load 28 ?_ rfl); refine st_load28 (k := i) (by rfl) rfl rfl hx2 hi8 ?_)
              | ((with_reducible refine g_alloc 28 ?_ rfl); refine st_alloc28 (by rfl) rfl ?_; have hqz := PBlk.new w2 zp; have hp3 := hp2.alloc (.cells (pcs zp) 28); have hx3 := hx2.alloc (.cells (pcs zp) 28); have HW3 := hidI (HW2.out.alloc hM2 (.cells (pcs zp) 28)); clear hp2 hx2 HW2)
              | ((with_reducible refine g_store 28 ?_ rfl); refine st_pstore28 (by rfl) rfl rfl rfl hqz ?_; intro w4 hqa hu4; have hb17 : wk.heap.size < w2.heap.size := (by have := HS2.out; omega); have hp14 := hu4.pblk hp3 (by omega); have hx16 := hu4.blk hx3 (by omega); have HWx := hidI (HW3.out.trans (hu4.below (by omega))); clear hqz hu4 hp3 hx3 HW3 HS2))
            generalize wk.heap.size = b16 at *
            generalize w2.heap.size = b17 at *
            have hqa : PBlk w4.drew b17 (cT i) := hqa
            refine wp_region_held_drew (S := fun wh => PBlk wh b14 (t i) ∧ Blk wh b16 cT ∧ Below M W0 wh) (by kernel_rfl) (⟨hp14.drew, hx16.drew, HWx.out.drew⟩) (fun hHeld => ?_)
            show wpAnyH _ _ _ _ _ (15 + 1) #[false, false, false, false, false, false, false, false, false, false, false, false, false, false, false, false] _ _
            refine wpAnyH_take (i := 0) (v := .pointer (some ⟨b14, 2, none⟩)) rfl (by kernel_rfl) (by kernel_rfl) (by kernel_rfl) (fun _ _ _ h => h) (Or.inl ⟨by rfl, fun _ _ => rfl⟩) hHeld ?_
            show wpAnyH _ _ _ _ _ _ _ (Act.put _ (some 97) _) _
            simp only [Act.put, List.setIfInBounds_toArray, List.set_cons_zero, List.set_cons_succ]
            refine wpAnyH_take (i := 1) (v := .int .i64 ((t i).f 2)) rfl (by kernel_rfl) (by kernel_rfl) (by kernel_rfl) (fun _ _ _ h => h) (yieldsIf_cell (by rfl) rfl rfl (fun wh hS => hS.1.int 2 (by decide) (by decide)) isInt3) hHeld ?_
            show wpAnyH _ _ _ _ _ _ _ (Act.put _ (some 98) _) _
            simp only [Act.put, List.setIfInBounds_toArray, List.set_cons_zero, List.set_cons_succ]
            refine wpAnyH_take (i := 2) (v := .pointer (some ⟨b14, 25, none⟩)) rfl (by kernel_rfl) (by kernel_rfl) (by kernel_rfl) (fun _ _ _ h => h) (Or.inl ⟨by rfl, fun _ _ => rfl⟩) hHeld ?_
            show wpAnyH _ _ _ _ _ _ _ (Act.put _ (some 99) _) _
            simp only [Act.put, List.setIfInBounds_toArray, List.set_cons_zero, List.set_cons_succ]
            refine wpAnyH_take (i := 3) (v := .int .i64 ((t i).f 25)) rfl (by kernel_rfl) (by kernel_rfl) (by kernel_rfl) (fun _ _ _ h => h) (yieldsIf_cell (by rfl) rfl rfl (fun wh hS => hS.1.int 25 (by decide) (by decide)) isInt3) hHeld ?_
            show wpAnyH _ _ _ _ _ _ _ (Act.put _ (some 100) _) _
            simp only [Act.put, List.setIfInBounds_toArray, List.set_cons_zero, List.set_cons_succ]
            refine wpAnyH_take (i := 4) (v := .pointer (some ⟨b14, 26, none⟩)) rfl (by kernel_rfl) (by kernel_rfl) (by kernel_rfl) (fun _ _ _ h => h) (Or.inl ⟨by rfl, fun _ _ => rfl⟩) hHeld ?_
            show wpAnyH _ _ _ _ _ _ _ (Act.put _ (some 101) _) _
            simp only [Act.put, List.setIfInBounds_toArray, List.set_cons_zero, List.set_cons_succ]
            refine wpAnyH_take (i := 5) (v := .int .i64 ((t i).f 26)) rfl (by kernel_rfl) (by kernel_rfl) (by kernel_rfl) (fun _ _ _ h => h) (yieldsIf_cell (by rfl) rfl rfl (fun wh hS => hS.1.int 26 (by decide) (by decide)) isInt3) hHeld ?_
            show wpAnyH _ _ _ _ _ _ _ (Act.put _ (some 102) _) _
            simp only [Act.put, List.setIfInBounds_toArray, List.set_cons_zero, List.set_cons_succ]
            refine wpAnyH_take (i := 6) (v := .pointer (some ⟨b14, 1, none⟩)) rfl (by kernel_rfl) (by kernel_rfl) (by kernel_rfl) (fun _ _ _ h => h) (Or.inl ⟨by rfl, fun _ _ => rfl⟩) hHeld ?_
            show wpAnyH _ _ _ _ _ _ _ (Act.put _ (some 103) _) _
            simp only [Act.put, List.setIfInBounds_toArray, List.set_cons_zero, List.set_cons_succ]
            refine wpAnyH_take (i := 7) (v := .int .i64 ((t i).f 1)) rfl (by kernel_rfl) (by kernel_rfl) (by kernel_rfl) (fun _ _ _ h => h) (yieldsIf_cell (by rfl) rfl rfl (fun wh hS => hS.1.int 1 (by decide) (by decide)) isInt3) hHeld ?_
            show wpAnyH _ _ _ _ _ _ _ (Act.put _ (some 104) _) _
            simp only [Act.put, List.setIfInBounds_toArray, List.set_cons_zero, List.set_cons_succ]
            refine wpAnyH_take (i := 8) (v := .pointer (some ⟨b17, 2, none⟩)) rfl (by kernel_rfl) (by kernel_rfl) (by kernel_rfl) (fun _ _ _ h => h) (Or.inl ⟨by rfl, fun _ _ => rfl⟩) hHeld ?_
            show wpAnyH _ _ _ _ _ _ _ (Act.put _ (some 105) _) _
            simp only [Act.put, List.setIfInBounds_toArray, List.set_cons_zero, List.set_cons_succ]
            refine wpAnyH_all (rs := [9]) (by kernel_rfl) (by simp) (fun i hi' => ?_)
            obtain rfl : i = 9 := by simpa using hi'
            clear hi'
            refine draw_pfield _ (.tmp 105) (.tmp 98) b17 2 ((t i).f 2) (cT i) rfl (by rfl) rfl rfl rfl hqa (by decide) (by decide) (fun w9 hqb hu9 => ?_)
            have hHeld := And.intro (hu9.pblk hHeld.1 (by omega)) (And.intro (hu9.blk hHeld.2.1 (by omega)) (hHeld.2.2.trans (hu9.below (by omega))))
            refine ⟨hHeld, ?_⟩
            clear hu9 hqa
            refine wpAnyH_take (i := 10) (v := .pointer (some ⟨b17, 25, none⟩)) rfl (by kernel_rfl) (by kernel_rfl) (by kernel_rfl) (fun _ _ _ h => h) (Or.inl ⟨by rfl, fun _ _ => rfl⟩) hHeld ?_
            show wpAnyH _ _ _ _ _ _ _ (Act.put _ (some 106) _) _
            simp only [Act.put, List.setIfInBounds_toArray, List.set_cons_zero, List.set_cons_succ]
            refine wpAnyH_all (rs := [11]) (by kernel_rfl) (by simp) (fun i hi' => ?_)
            obtain rfl : i = 11 := by simpa using hi'
            clear hi'
            refine draw_pfield _ (.tmp 106) (.tmp 100) b17 25 ((t i).f 25) (setf (cT i) 2 ((t i).f 2)) rfl (by rfl) rfl rfl rfl hqb (by decide) (by decide) (fun w9 hqc hu9 => ?_)
            have hHeld := And.intro (hu9.pblk hHeld.1 (by omega)) (And.intro (hu9.blk hHeld.2.1 (by omega)) (hHeld.2.2.trans (hu9.below (by omega))))
            refine ⟨hHeld, ?_⟩
            clear hu9 hqb
            refine wpAnyH_take (i := 12) (v := .pointer (some ⟨b17, 26, none⟩)) rfl (by kernel_rfl) (by kernel_rfl) (by kernel_rfl) (fun _ _ _ h => h) (Or.inl ⟨by rfl, fun _ _ => rfl⟩) hHeld ?_
            show wpAnyH _ _ _ _ _ _ _ (Act.put _ (some 107) _) _
            simp only [Act.put, List.setIfInBounds_toArray, List.set_cons_zero, List.set_cons_succ]
            refine wpAnyH_all (rs := [13]) (by kernel_rfl) (by simp) (fun i hi' => ?_)
            obtain rfl : i = 13 := by simpa using hi'
            clear hi'
            refine draw_pfield _ (.tmp 107) (.tmp 102) b17 26 ((t i).f 26) (setf (setf (cT i) 2 ((t i).f 2)) 25 ((t i).f 25)) rfl (by rfl) rfl rfl rfl hqc (by decide) (by decide) (fun w9 hqd hu9 => ?_)
            have hHeld := And.intro (hu9.pblk hHeld.1 (by omega)) (And.intro (hu9.blk hHeld.2.1 (by omega)) (hHeld.2.2.trans (hu9.below (by omega))))
            refine ⟨hHeld, ?_⟩
            clear hu9 hqc
            refine wpAnyH_take (i := 14) (v := .pointer (some ⟨b17, 1, none⟩)) rfl (by kernel_rfl) (by kernel_rfl) (by kernel_rfl) (fun _ _ _ h => h) (Or.inl ⟨by rfl, fun _ _ => rfl⟩) hHeld ?_
            show wpAnyH _ _ _ _ _ _ _ (Act.put _ (some 108) _) _
            simp only [Act.put, List.setIfInBounds_toArray, List.set_cons_zero, List.set_cons_succ]
            refine wpAnyH_all (rs := [15]) (by kernel_rfl) (by simp) (fun i hi' => ?_)
            obtain rfl : i = 15 := by simpa using hi'
            clear hi'
            refine draw_pfield _ (.tmp 108) (.tmp 104) b17 1 ((t i).f 1) (setf (setf (setf (cT i) 2 ((t i).f 2)) 25 ((t i).f 25)) 26 ((t i).f 26)) rfl (by rfl) rfl rfl rfl hqd (by decide) (by decide) (fun w9 hqe hu9 => ?_)
            have hHeld := And.intro (hu9.pblk hHeld.1 (by omega)) (And.intro (hu9.blk hHeld.2.1 (by omega)) (hHeld.2.2.trans (hu9.below (by omega))))
            refine ⟨hHeld, ?_⟩
            clear hu9 hqd
            refine wpAnyH_done (by kernel_rfl) ?_ _
            clear hp14 hx16 HWx
            go_wp2
            have hcti := HC.out i HL3.out
            have hneq1 : (!eqP (setf (setf (setf (setf (cT i) 2 ((t i).f 2)) 25 ((t i).f 25)) 26 ((t i).f 26)) 1 ((t i).f 1)) (t i)) = false := eqP_no (keep_back (by rw [hcti]; exact keep_refl _))
            have hneq2 : (!eqP (cT i) (t i)) = false := eqP_no (by rw [hcti])
            clear hcti
            refine wp_region_held_drew (S := fun wh => PBlk wh b17 (setf (setf (setf (setf (cT i) 2 ((t i).f 2)) 25 ((t i).f 25)) 26 ((t i).f 26)) 1 ((t i).f 1)) ∧ PBlk wh b14 (t i) ∧ Blk wh b16 cT ∧ Below M W0 wh) (by kernel_rfl) (⟨hqe.drew, hHeld.1.drew, hHeld.2.1.drew, hHeld.2.2.drew⟩) (fun hHeld => ?_)
            show wpAnyH _ _ _ _ _ (26 + 1) #[false, false, false, false, false, false, false, false, false, false, false, false, false, false, false, false, false, false, false, false, false, false, false, false, false, false, false] _ _
            refine wpAnyH_take (i := 0) (v := .agg (pcs (setf (setf (setf (setf (cT i) 2 ((t i).f 2)) 25 ((t i).f 25)) 26 ((t i).f 26)) 1 ((t i).f 1)))) rfl (by kernel_rfl) (by kernel_rfl) (by kernel_rfl) (fun _ _ _ h => h) (yieldsIf_row (by rfl) rfl rfl (fun wh hS => hS.1.range) Try.underlying28 rfl (info28l _)) hHeld ?_
            show wpAnyH _ _ _ _ _ _ _ (Act.put _ (some 109) _) _
            simp only [Act.put, List.setIfInBounds_toArray, List.set_cons_zero, List.set_cons_succ]
            refine wpAnyH_take (i := 1) (v := .agg (pcs (t i))) rfl (by kernel_rfl) (by kernel_rfl) (by kernel_rfl) (fun _ _ _ h => h) (yieldsIf_row (by rfl) rfl rfl (fun wh hS => hS.2.1.range) Try.underlying28 rfl (info28l _)) hHeld ?_
            show wpAnyH _ _ _ _ _ _ _ (Act.put _ (some 110) _) _
            simp only [Act.put, List.setIfInBounds_toArray, List.set_cons_zero, List.set_cons_succ]
            refine wpAnyH_take (i := 2) (v := .bool false) rfl (by kernel_rfl) (by kernel_rfl) (by kernel_rfl) (fun _ _ _ h => h) (yieldsIf_neq28 (by rfl) rfl rfl rfl hneq1) hHeld ?_
            show wpAnyH _ _ _ _ _ _ _ (Act.put _ (some 111) _) _
            simp only [Act.put, List.setIfInBounds_toArray, List.set_cons_zero, List.set_cons_succ]
            refine wpAnyH_take (i := 3) (v := .bool false) rfl (by kernel_rfl) (by kernel_rfl) (by kernel_rfl) (fun _ _ _ h => h) (Or.inl ⟨by rfl, fun _ _ => rfl⟩) hHeld ?_
            show wpAnyH _ _ _ _ _ _ _ (Act.put _ (some 112) _) _
            simp only [Act.put, List.setIfInBounds_toArray, List.set_cons_zero, List.set_cons_succ]
            refine wpAnyH_take (i := 4) (v := .int .i64 2) rfl (by kernel_rfl) (by kernel_rfl) (by kernel_rfl) (fun _ _ _ h => h) (Or.inl ⟨by rfl, fun _ _ => rfl⟩) hHeld ?_
            show wpAnyH _ _ _ _ _ _ _ (Act.put _ (some 113) _) _
            simp only [Act.put, List.setIfInBounds_toArray, List.set_cons_zero, List.set_cons_succ]
            refine wpAnyH_take (i := 5) (v := .bool true) rfl (by kernel_rfl) (by kernel_rfl) (by kernel_rfl) (fun _ _ _ h => h) (yb (b := 2 == 2) (by rfl) (fun _ _ => rfl) rfl) hHeld ?_
            show wpAnyH _ _ _ _ _ _ _ (Act.put _ (some 114) _) _
            simp only [Act.put, List.setIfInBounds_toArray, List.set_cons_zero, List.set_cons_succ]
            refine wpAnyH_take (i := 6) (v := .bool true) rfl (by kernel_rfl) (by kernel_rfl) (by kernel_rfl) (fun _ _ _ h => h) (Or.inl ⟨by rfl, fun _ _ => rfl⟩) hHeld ?_
            show wpAnyH _ _ _ _ _ _ _ (Act.put _ (some 115) _) _
            simp only [Act.put, List.setIfInBounds_toArray, List.set_cons_zero, List.set_cons_succ]
            refine wpAnyH_take (i := 7) (v := .int .i64 (i : Int)) rfl (by kernel_rfl) (by kernel_rfl) (by kernel_rfl) (fun _ _ _ h => h) (Or.inl ⟨by rfl, fun _ _ => rfl⟩) hHeld ?_
            show wpAnyH _ _ _ _ _ _ _ (Act.put _ (some 116) _) _
            simp only [Act.put, List.setIfInBounds_toArray, List.set_cons_zero, List.set_cons_succ]
            refine wpAnyH_take (i := 8) (v := .pointer (some ⟨b16, i * 29, none⟩)) rfl (by kernel_rfl) (by kernel_rfl) (by kernel_rfl) (fun _ _ _ h => h) (Or.inl ⟨by rfl, fun wh hS => by go_simp⟩) hHeld ?_
            show wpAnyH _ _ _ _ _ _ _ (Act.put _ (some 117) _) _
            simp only [Act.put, List.setIfInBounds_toArray, List.set_cons_zero, List.set_cons_succ]
            refine wpAnyH_take (i := 9) (v := .agg (pcs (cT i))) rfl (by kernel_rfl) (by kernel_rfl) (by kernel_rfl) (fun _ _ _ h => h) (yieldsIf_row (by rfl) rfl rfl (fun wh hS => hS.2.2.1.range i hi8) Try.underlying28 rfl (info28l _)) hHeld ?_
            show wpAnyH _ _ _ _ _ _ _ (Act.put _ (some 118) _) _
            simp only [Act.put, List.setIfInBounds_toArray, List.set_cons_zero, List.set_cons_succ]
            refine wpAnyH_take (i := 10) (v := .agg (pcs (t i))) rfl (by kernel_rfl) (by kernel_rfl) (by kernel_rfl) (fun _ _ _ h => h) (yieldsIf_row (by rfl) rfl rfl (fun wh hS => hS.2.1.range) Try.underlying28 rfl (info28l _)) hHeld ?_
            show wpAnyH _ _ _ _ _ _ _ (Act.put _ (some 119) _) _
            simp only [Act.put, List.setIfInBounds_toArray, List.set_cons_zero, List.set_cons_succ]
            refine wpAnyH_take (i := 11) (v := .bool false) rfl (by kernel_rfl) (by kernel_rfl) (by kernel_rfl) (fun _ _ _ h => h) (yieldsIf_neq28 (by rfl) rfl rfl rfl hneq2) hHeld ?_
            show wpAnyH _ _ _ _ _ _ _ (Act.put _ (some 120) _) _
            simp only [Act.put, List.setIfInBounds_toArray, List.set_cons_zero, List.set_cons_succ]
            refine wpAnyH_take (i := 12) (v := .bool false) rfl (by kernel_rfl) (by kernel_rfl) (by kernel_rfl) (fun _ _ _ h => h) (Or.inl ⟨by rfl, fun _ _ => rfl⟩) hHeld ?_
            show wpAnyH _ _ _ _ _ _ _ (Act.put _ (some 121) _) _
            simp only [Act.put, List.setIfInBounds_toArray, List.set_cons_zero, List.set_cons_succ]
            refine wpAnyH_take (i := 13) (v := .bool false) rfl (by kernel_rfl) (by kernel_rfl) (by kernel_rfl) (fun _ _ _ h => h) (Or.inl ⟨by rfl, fun _ _ => rfl⟩) hHeld ?_
            show wpAnyH _ _ _ _ _ _ _ (Act.put _ (some 122) _) _
            simp only [Act.put, List.setIfInBounds_toArray, List.set_cons_zero, List.set_cons_succ]
            refine wpAnyH_take (i := 14) (v := .bool false) rfl (by kernel_rfl) (by kernel_rfl) (by kernel_rfl) (fun _ _ _ h => h) (Or.inl ⟨by rfl, fun _ _ => rfl⟩) hHeld ?_
            show wpAnyH _ _ _ _ _ _ _ (Act.put _ (some 123) _) _
            simp only [Act.put, List.setIfInBounds_toArray, List.set_cons_zero, List.set_cons_succ]
            refine wpAnyH_take (i := 15) (v := .int .i64 2) rfl (by kernel_rfl) (by kernel_rfl) (by kernel_rfl) (fun _ _ _ h => h) (Or.inl ⟨by rfl, fun _ _ => rfl⟩) hHeld ?_
            show wpAnyH _ _ _ _ _ _ _ (Act.put _ (some 124) _) _
            simp only [Act.put, List.setIfInBounds_toArray, List.set_cons_zero, List.set_cons_succ]
            refine wpAnyH_take (i := 16) (v := .bool false) rfl (by kernel_rfl) (by kernel_rfl) (by kernel_rfl) (fun _ _ _ h => h) (yb (b := 2 == 0) (by rfl) (fun _ _ => rfl) rfl) hHeld ?_
            show wpAnyH _ _ _ _ _ _ _ (Act.put _ (some 125) _) _
            simp only [Act.put, List.setIfInBounds_toArray, List.set_cons_zero, List.set_cons_succ]
            refine wpAnyH_take (i := 17) (v := .bool false) rfl (by kernel_rfl) (by kernel_rfl) (by kernel_rfl) (fun _ _ _ h => h) (Or.inl ⟨by rfl, fun _ _ => rfl⟩) hHeld ?_
            show wpAnyH _ _ _ _ _ _ _ (Act.put _ (some 126) _) _
            simp only [Act.put, List.setIfInBounds_toArray, List.set_cons_zero, List.set_cons_succ]
            refine wpAnyH_take (i := 18) (v := undef) rfl (by kernel_rfl) (by kernel_rfl) (by kernel_rfl) (fun _ _ _ h => h) (Or.inr ⟨by rfl, rfl⟩) hHeld ?_
            show wpAnyH _ _ _ _ _ _ _ (Act.put _ (some 127) _) _
            simp only [Act.put, List.setIfInBounds_toArray, List.set_cons_zero, List.set_cons_succ]
            refine wpAnyH_take (i := 19) (v := undef) rfl (by kernel_rfl) (by kernel_rfl) (by kernel_rfl) (fun _ _ _ h => h) (Or.inr ⟨by rfl, rfl⟩) hHeld ?_
            show wpAnyH _ _ _ _ _ _ _ (Act.put _ (some 128) _) _
            simp only [Act.put, List.setIfInBounds_toArray, List.set_cons_zero, List.set_cons_succ]
            refine wpAnyH_take (i := 20) (v := undef) rfl (by kernel_rfl) (by kernel_rfl) (by kernel_rfl) (fun _ _ _ h => h) (Or.inr ⟨by rfl, rfl⟩) hHeld ?_
            show wpAnyH _ _ _ _ _ _ _ (Act.put _ (some 129) _) _
            simp only [Act.put, List.setIfInBounds_toArray, List.set_cons_zero, List.set_cons_succ]
            refine wpAnyH_take (i := 21) (v := undef) rfl (by kernel_rfl) (by kernel_rfl) (by kernel_rfl) (fun _ _ _ h => h) (Or.inr ⟨by rfl, rfl⟩) hHeld ?_
            show wpAnyH _ _ _ _ _ _ _ (Act.put _ (some 130) _) _
            simp only [Act.put, List.setIfInBounds_toArray, List.set_cons_zero, List.set_cons_succ]
            refine wpAnyH_take (i := 22) (v := undef) rfl (by kernel_rfl) (by kernel_rfl) (by kernel_rfl) (fun _ _ _ h => h) (Or.inr ⟨by rfl, rfl⟩) hHeld ?_
            show wpAnyH _ _ _ _ _ _ _ (Act.put _ (some 131) _) _
            simp only [Act.put, List.setIfInBounds_toArray, List.set_cons_zero, List.set_cons_succ]
            refine wpAnyH_take (i := 23) (v := undef) rfl (by kernel_rfl) (by kernel_rfl) (by kernel_rfl) (fun _ _ _ h => h) (Or.inr ⟨by rfl, rfl⟩) hHeld ?_
            show wpAnyH _ _ _ _ _ _ _ (Act.put _ (some 132) _) _
            simp only [Act.put, List.setIfInBounds_toArray, List.set_cons_zero, List.set_cons_succ]
            refine wpAnyH_take (i := 24) (v := undef) rfl (by kernel_rfl) (by kernel_rfl) (by kernel_rfl) (fun _ _ _ h => h) (Or.inr ⟨by rfl, rfl⟩) hHeld ?_
            show wpAnyH _ _ _ _ _ _ _ (Act.put _ (some 133) _) _
            simp only [Act.put, List.setIfInBounds_toArray, List.set_cons_zero, List.set_cons_succ]
            refine wpAnyH_take (i := 25) (v := .bool false) rfl (by kernel_rfl) (by kernel_rfl) (by kernel_rfl) (fun _ _ _ h => h) (Or.inl ⟨by rfl, fun _ _ => rfl⟩) hHeld ?_
            show wpAnyH _ _ _ _ _ _ _ (Act.put _ (some 134) _) _
            simp only [Act.put, List.setIfInBounds_toArray, List.set_cons_zero, List.set_cons_succ]
            refine wpAnyH_take (i := 26) (v := .bool false) rfl (by kernel_rfl) (by kernel_rfl) (by kernel_rfl) (fun _ _ _ h => h) (Or.inl ⟨by rfl, fun _ _ => rfl⟩) hHeld ?_
            show wpAnyH _ _ _ _ _ _ _ (Act.put _ (some 135) _) _
            simp only [Act.put, List.setIfInBounds_toArray, List.set_cons_zero, List.set_cons_succ]
            refine wpAnyH_done (by kernel_rfl) ?_ _
            obtain ⟨_, _, _, hwn⟩ := hHeld
            have HWk := hidI hwn
            clear hwn hneq1 hneq2 hqe
            go_wp2
            generalize w9.drew = wk at *
            rw [rounds_succ]
            go_wp2
            go_roundw
            case measure => simp [intOf]; omega
            case rel => exact ⟨i + 1, by omega, by go_num, HZ.out.trans (HWk.out.mono hM1)⟩
          · rw [rounds_succ]
            have hTk := hT.below HWk.out hTl
            have hMk : M ≤ wk.heap.size := by rw [HMM.out]; exact HWk.out.size
            go_wp2_with (first
              | ((with_reducible refine g_load 29 ?_ rfl); refine st_loadT (f := three aT bT cT) (k := 1) (by rfl) rfl rfl hTk (by decide) ?_)
              | ((with_reducible refine g_alloc 29 ?_ rfl); refine st_alloc29 (by rfl) rfl ?_; have hz := Blk.new wk tz; have HW1 := hidI (HWk.out.alloc hMk (.cells (tcs tz) 29)); clear hTk HWk)
              | ((with_reducible refine g_store 29 ?_ rfl); refine st_store29 (x := .tmp 16) (by rfl) rfl rfl rfl hz ?_; intro w2 hx2 hu2; have HWk := hidI (HW1.out.trans (hu2.below hMk)); clear hu2 hz HW1 hx2))
            clear hMk
            generalize w2 = wk at *
            rw [rounds_succ]
            have hTk := hT.below HWk.out hTl
            have hpk := hp0.below HWk.out hl14
            have hMk : M ≤ wk.heap.size := by rw [HMM.out]; exact HWk.out.size
            go_wp2_with (first
              | ((with_reducible refine g_load 29 ?_ rfl); refine st_loadT (f := three aT bT cT) (k := 2) (by rfl) rfl rfl hTk (by decide) ?_)
              | ((with_reducible refine g_alloc 29 ?_ rfl); refine st_alloc29 (by rfl) rfl ?_; have hz := Blk.new wk tz; have hp1 := hpk.alloc (.cells (tcs tz) 29); have HW1 := hidI (HWk.out.alloc hMk (.cells (tcs tz) 29)); clear hTk hpk HWk)
              | ((with_reducible refine g_store 29 ?_ rfl); refine st_store29 (x := .tmp 16) (by rfl) rfl rfl rfl hz ?_; intro w2 hx2 hu2; have hp2 := hu2.pblk hp1 (by omega); have HW2 := hidI (HW1.out.trans (hu2.below hMk)); have hs2 := hu2.size; rw [World.size_alloc] at hs2; have hM2 : M ≤ w2.heap.size := (by omega); have HS2 := hidI hs2; clear hs2 hu2 hz hp1 HW1)
              | ((with_reducible refine g_load 28 ?_ rfl); refine st_load28 (k := i) (by rfl) rfl rfl hx2 hi8 ?_)
              | ((with_reducible refine g_alloc 28 ?_ rfl); refine st_alloc28 (by rfl) rfl ?_; have hqz := PBlk.new w2 zp; have hp3 := hp2.alloc (.cells (pcs zp) 28); have hx3 := hx2.alloc (.cells (pcs zp) 28); have HW3 := hidI (HW2.out.alloc hM2 (.cells (pcs zp) 28)); clear hp2 hx2 HW2)
              | ((with_reducible refine g_store 28 ?_ rfl); refine st_pstore28 (by rfl) rfl rfl rfl hqz ?_; intro w4 hqa hu4; have hb17 : wk.heap.size < w2.heap.size := (by have := HS2.out; omega); have hp14 := hu4.pblk hp3 (by omega); have hx16 := hu4.blk hx3 (by omega); have HWx := hidI (HW3.out.trans (hu4.below (by omega))); clear hqz hu4 hp3 hx3 HW3 HS2))
            generalize wk.heap.size = b16 at *
            generalize w2.heap.size = b17 at *
            have hqa : PBlk w4.drew b17 (cT i) := hqa
            refine wp_region_held_drew (S := fun wh => PBlk wh b14 (t i) ∧ Blk wh b16 cT ∧ Below M W0 wh) (by kernel_rfl) (⟨hp14.drew, hx16.drew, HWx.out.drew⟩) (fun hHeld => ?_)
            show wpAnyH _ _ _ _ _ (15 + 1) #[false, false, false, false, false, false, false, false, false, false, false, false, false, false, false, false] _ _
            refine wpAnyH_take (i := 0) (v := .pointer (some ⟨b14, 2, none⟩)) rfl (by kernel_rfl) (by kernel_rfl) (by kernel_rfl) (fun _ _ _ h => h) (Or.inl ⟨by rfl, fun _ _ => rfl⟩) hHeld ?_
            show wpAnyH _ _ _ _ _ _ _ (Act.put _ (some 97) _) _
            simp only [Act.put, List.setIfInBounds_toArray, List.set_cons_zero, List.set_cons_succ]
            refine wpAnyH_take (i := 1) (v := .int .i64 ((t i).f 2)) rfl (by kernel_rfl) (by kernel_rfl) (by kernel_rfl) (fun _ _ _ h => h) (yieldsIf_cell (by rfl) rfl rfl (fun wh hS => hS.1.int 2 (by decide) (by decide)) isInt3) hHeld ?_
            show wpAnyH _ _ _ _ _ _ _ (Act.put _ (some 98) _) _
            simp only [Act.put, List.setIfInBounds_toArray, List.set_cons_zero, List.set_cons_succ]
            refine wpAnyH_take (i := 2) (v := .pointer (some ⟨b14, 25, none⟩)) rfl (by kernel_rfl) (by kernel_rfl) (by kernel_rfl) (fun _ _ _ h => h) (Or.inl ⟨by rfl, fun _ _ => rfl⟩) hHeld ?_
            show wpAnyH _ _ _ _ _ _ _ (Act.put _ (some 99) _) _
            simp only [Act.put, List.setIfInBounds_toArray, List.set_cons_zero, List.set_cons_succ]
            refine wpAnyH_take (i := 3) (v := .int .i64 ((t i).f 25)) rfl (by kernel_rfl) (by kernel_rfl) (by kernel_rfl) (fun _ _ _ h => h) (yieldsIf_cell (by rfl) rfl rfl (fun wh hS => hS.1.int 25 (by decide) (by decide)) isInt3) hHeld ?_
            show wpAnyH _ _ _ _ _ _ _ (Act.put _ (some 100) _) _
            simp only [Act.put, List.setIfInBounds_toArray, List.set_cons_zero, List.set_cons_succ]
            refine wpAnyH_take (i := 4) (v := .pointer (some ⟨b14, 26, none⟩)) rfl (by kernel_rfl) (by kernel_rfl) (by kernel_rfl) (fun _ _ _ h => h) (Or.inl ⟨by rfl, fun _ _ => rfl⟩) hHeld ?_
            show wpAnyH _ _ _ _ _ _ _ (Act.put _ (some 101) _) _
            simp only [Act.put, List.setIfInBounds_toArray, List.set_cons_zero, List.set_cons_succ]
            refine wpAnyH_take (i := 5) (v := .int .i64 ((t i).f 26)) rfl (by kernel_rfl) (by kernel_rfl) (by kernel_rfl) (fun _ _ _ h => h) (yieldsIf_cell (by rfl) rfl rfl (fun wh hS => hS.1.int 26 (by decide) (by decide)) isInt3) hHeld ?_
            show wpAnyH _ _ _ _ _ _ _ (Act.put _ (some 102) _) _
            simp only [Act.put, List.setIfInBounds_toArray, List.set_cons_zero, List.set_cons_succ]
            refine wpAnyH_take (i := 6) (v := .pointer (some ⟨b14, 1, none⟩)) rfl (by kernel_rfl) (by kernel_rfl) (by kernel_rfl) (fun _ _ _ h => h) (Or.inl ⟨by rfl, fun _ _ => rfl⟩) hHeld ?_
            show wpAnyH _ _ _ _ _ _ _ (Act.put _ (some 103) _) _
            simp only [Act.put, List.setIfInBounds_toArray, List.set_cons_zero, List.set_cons_succ]
            refine wpAnyH_take (i := 7) (v := .int .i64 ((t i).f 1)) rfl (by kernel_rfl) (by kernel_rfl) (by kernel_rfl) (fun _ _ _ h => h) (yieldsIf_cell (by rfl) rfl rfl (fun wh hS => hS.1.int 1 (by decide) (by decide)) isInt3) hHeld ?_
            show wpAnyH _ _ _ _ _ _ _ (Act.put _ (some 104) _) _
            simp only [Act.put, List.setIfInBounds_toArray, List.set_cons_zero, List.set_cons_succ]
            refine wpAnyH_take (i := 8) (v := .pointer (some ⟨b17, 2, none⟩)) rfl (by kernel_rfl) (by kernel_rfl) (by kernel_rfl) (fun _ _ _ h => h) (Or.inl ⟨by rfl, fun _ _ => rfl⟩) hHeld ?_
            show wpAnyH _ _ _ _ _ _ _ (Act.put _ (some 105) _) _
            simp only [Act.put, List.setIfInBounds_toArray, List.set_cons_zero, List.set_cons_succ]
            refine wpAnyH_all (rs := [9]) (by kernel_rfl) (by simp) (fun i hi' => ?_)
            obtain rfl : i = 9 := by simpa using hi'
            clear hi'
            refine draw_pfield _ (.tmp 105) (.tmp 98) b17 2 ((t i).f 2) (cT i) rfl (by rfl) rfl rfl rfl hqa (by decide) (by decide) (fun w9 hqb hu9 => ?_)
            have hHeld := And.intro (hu9.pblk hHeld.1 (by omega)) (And.intro (hu9.blk hHeld.2.1 (by omega)) (hHeld.2.2.trans (hu9.below (by omega))))
            refine ⟨hHeld, ?_⟩
            clear hu9 hqa
            refine wpAnyH_take (i := 10) (v := .pointer (some ⟨b17, 25, none⟩)) rfl (by kernel_rfl) (by kernel_rfl) (by kernel_rfl) (fun _ _ _ h => h) (Or.inl ⟨by rfl, fun _ _ => rfl⟩) hHeld ?_
            show wpAnyH _ _ _ _ _ _ _ (Act.put _ (some 106) _) _
            simp only [Act.put, List.setIfInBounds_toArray, List.set_cons_zero, List.set_cons_succ]
            refine wpAnyH_all (rs := [11]) (by kernel_rfl) (by simp) (fun i hi' => ?_)
            obtain rfl : i = 11 := by simpa using hi'
            clear hi'
            refine draw_pfield _ (.tmp 106) (.tmp 100) b17 25 ((t i).f 25) (setf (cT i) 2 ((t i).f 2)) rfl (by rfl) rfl rfl rfl hqb (by decide) (by decide) (fun w9 hqc hu9 => ?_)
            have hHeld := And.intro (hu9.pblk hHeld.1 (by omega)) (And.intro (hu9.blk hHeld.2.1 (by omega)) (hHeld.2.2.trans (hu9.below (by omega))))
            refine ⟨hHeld, ?_⟩
            clear hu9 hqb
            refine wpAnyH_take (i := 12) (v := .pointer (some ⟨b17, 26, none⟩)) rfl (by kernel_rfl) (by kernel_rfl) (by kernel_rfl) (fun _ _ _ h => h) (Or.inl ⟨by rfl, fun _ _ => rfl⟩) hHeld ?_
            show wpAnyH _ _ _ _ _ _ _ (Act.put _ (some 107) _) _
            simp only [Act.put, List.setIfInBounds_toArray, List.set_cons_zero, List.set_cons_succ]
            refine wpAnyH_all (rs := [13]) (by kernel_rfl) (by simp) (fun i hi' => ?_)
            obtain rfl : i = 13 := by simpa using hi'
            clear hi'
            refine draw_pfield _ (.tmp 107) (.tmp 102) b17 26 ((t i).f 26) (setf (setf (cT i) 2 ((t i).f 2)) 25 ((t i).f 25)) rfl (by rfl) rfl rfl rfl hqc (by decide) (by decide) (fun w9 hqd hu9 => ?_)
            have hHeld := And.intro (hu9.pblk hHeld.1 (by omega)) (And.intro (hu9.blk hHeld.2.1 (by omega)) (hHeld.2.2.trans (hu9.below (by omega))))
            refine ⟨hHeld, ?_⟩
            clear hu9 hqc
            refine wpAnyH_take (i := 14) (v := .pointer (some ⟨b17, 1, none⟩)) rfl (by kernel_rfl) (by kernel_rfl) (by kernel_rfl) (fun _ _ _ h => h) (Or.inl ⟨by rfl, fun _ _ => rfl⟩) hHeld ?_
            show wpAnyH _ _ _ _ _ _ _ (Act.put _ (some 108) _) _
            simp only [Act.put, List.setIfInBounds_toArray, List.set_cons_zero, List.set_cons_succ]
            refine wpAnyH_all (rs := [15]) (by kernel_rfl) (by simp) (fun i hi' => ?_)
            obtain rfl : i = 15 := by simpa using hi'
            clear hi'
            refine draw_pfield _ (.tmp 108) (.tmp 104) b17 1 ((t i).f 1) (setf (setf (setf (cT i) 2 ((t i).f 2)) 25 ((t i).f 25)) 26 ((t i).f 26)) rfl (by rfl) rfl rfl rfl hqd (by decide) (by decide) (fun w9 hqe hu9 => ?_)
            have hHeld := And.intro (hu9.pblk hHeld.1 (by omega)) (And.intro (hu9.blk hHeld.2.1 (by omega)) (hHeld.2.2.trans (hu9.below (by omega))))
            refine ⟨hHeld, ?_⟩
            clear hu9 hqd
            refine wpAnyH_done (by kernel_rfl) ?_ _
            clear hp14 hx16 HWx
            go_wp2
            have hcti := HC.out i HL3.out
            have hneq1 : (!eqP (setf (setf (setf (setf (cT i) 2 ((t i).f 2)) 25 ((t i).f 25)) 26 ((t i).f 26)) 1 ((t i).f 1)) (t i)) = false := eqP_no (keep_back (by rw [hcti]; exact keep_refl _))
            have hneq2 : (!eqP (cT i) (t i)) = false := eqP_no (by rw [hcti])
            clear hcti
            refine wp_region_held_drew (S := fun wh => PBlk wh b17 (setf (setf (setf (setf (cT i) 2 ((t i).f 2)) 25 ((t i).f 25)) 26 ((t i).f 26)) 1 ((t i).f 1)) ∧ PBlk wh b14 (t i) ∧ Blk wh b16 cT ∧ Below M W0 wh) (by kernel_rfl) (⟨hqe.drew, hHeld.1.drew, hHeld.2.1.drew, hHeld.2.2.drew⟩) (fun hHeld => ?_)
            show wpAnyH _ _ _ _ _ (26 + 1) #[false, false, false, false, false, false, false, false, false, false, false, false, false, false, false, false, false, false, false, false, false, false, false, false, false, false, false] _ _
            refine wpAnyH_take (i := 0) (v := .agg (pcs (setf (setf (setf (setf (cT i) 2 ((t i).f 2)) 25 ((t i).f 25)) 26 ((t i).f 26)) 1 ((t i).f 1)))) rfl (by kernel_rfl) (by kernel_rfl) (by kernel_rfl) (fun _ _ _ h => h) (yieldsIf_row (by rfl) rfl rfl (fun wh hS => hS.1.range) Try.underlying28 rfl (info28l _)) hHeld ?_
            show wpAnyH _ _ _ _ _ _ _ (Act.put _ (some 109) _) _
            simp only [Act.put, List.setIfInBounds_toArray, List.set_cons_zero, List.set_cons_succ]
            refine wpAnyH_take (i := 1) (v := .agg (pcs (t i))) rfl (by kernel_rfl) (by kernel_rfl) (by kernel_rfl) (fun _ _ _ h => h) (yieldsIf_row (by rfl) rfl rfl (fun wh hS => hS.2.1.range) Try.underlying28 rfl (info28l _)) hHeld ?_
            show wpAnyH _ _ _ _ _ _ _ (Act.put _ (some 110) _) _
            simp only [Act.put, List.setIfInBounds_toArray, List.set_cons_zero, List.set_cons_succ]
            refine wpAnyH_take (i := 2) (v := .bool false) rfl (by kernel_rfl) (by kernel_rfl) (by kernel_rfl) (fun _ _ _ h => h) (yieldsIf_neq28 (by rfl) rfl rfl rfl hneq1) hHeld ?_
            show wpAnyH _ _ _ _ _ _ _ (Act.put _ (some 111) _) _
            simp only [Act.put, List.setIfInBounds_toArray, List.set_cons_zero, List.set_cons_succ]
            refine wpAnyH_take (i := 3) (v := .bool false) rfl (by kernel_rfl) (by kernel_rfl) (by kernel_rfl) (fun _ _ _ h => h) (Or.inl ⟨by rfl, fun _ _ => rfl⟩) hHeld ?_
            show wpAnyH _ _ _ _ _ _ _ (Act.put _ (some 112) _) _
            simp only [Act.put, List.setIfInBounds_toArray, List.set_cons_zero, List.set_cons_succ]
            refine wpAnyH_take (i := 4) (v := .int .i64 2) rfl (by kernel_rfl) (by kernel_rfl) (by kernel_rfl) (fun _ _ _ h => h) (Or.inl ⟨by rfl, fun _ _ => rfl⟩) hHeld ?_
            show wpAnyH _ _ _ _ _ _ _ (Act.put _ (some 113) _) _
            simp only [Act.put, List.setIfInBounds_toArray, List.set_cons_zero, List.set_cons_succ]
            refine wpAnyH_take (i := 5) (v := .bool true) rfl (by kernel_rfl) (by kernel_rfl) (by kernel_rfl) (fun _ _ _ h => h) (yb (b := 2 == 2) (by rfl) (fun _ _ => rfl) rfl) hHeld ?_
            show wpAnyH _ _ _ _ _ _ _ (Act.put _ (some 114) _) _
            simp only [Act.put, List.setIfInBounds_toArray, List.set_cons_zero, List.set_cons_succ]
            refine wpAnyH_take (i := 6) (v := .bool true) rfl (by kernel_rfl) (by kernel_rfl) (by kernel_rfl) (fun _ _ _ h => h) (Or.inl ⟨by rfl, fun _ _ => rfl⟩) hHeld ?_
            show wpAnyH _ _ _ _ _ _ _ (Act.put _ (some 115) _) _
            simp only [Act.put, List.setIfInBounds_toArray, List.set_cons_zero, List.set_cons_succ]
            refine wpAnyH_take (i := 7) (v := .int .i64 (i : Int)) rfl (by kernel_rfl) (by kernel_rfl) (by kernel_rfl) (fun _ _ _ h => h) (Or.inl ⟨by rfl, fun _ _ => rfl⟩) hHeld ?_
            show wpAnyH _ _ _ _ _ _ _ (Act.put _ (some 116) _) _
            simp only [Act.put, List.setIfInBounds_toArray, List.set_cons_zero, List.set_cons_succ]
            refine wpAnyH_take (i := 8) (v := .pointer (some ⟨b16, i * 29, none⟩)) rfl (by kernel_rfl) (by kernel_rfl) (by kernel_rfl) (fun _ _ _ h => h) (Or.inl ⟨by rfl, fun wh hS => by go_simp⟩) hHeld ?_
            show wpAnyH _ _ _ _ _ _ _ (Act.put _ (some 117) _) _
            simp only [Act.put, List.setIfInBounds_toArray, List.set_cons_zero, List.set_cons_succ]
            refine wpAnyH_take (i := 9) (v := .agg (pcs (cT i))) rfl (by kernel_rfl) (by kernel_rfl) (by kernel_rfl) (fun _ _ _ h => h) (yieldsIf_row (by rfl) rfl rfl (fun wh hS => hS.2.2.1.range i hi8) Try.underlying28 rfl (info28l _)) hHeld ?_
            show wpAnyH _ _ _ _ _ _ _ (Act.put _ (some 118) _) _
            simp only [Act.put, List.setIfInBounds_toArray, List.set_cons_zero, List.set_cons_succ]
            refine wpAnyH_take (i := 10) (v := .agg (pcs (t i))) rfl (by kernel_rfl) (by kernel_rfl) (by kernel_rfl) (fun _ _ _ h => h) (yieldsIf_row (by rfl) rfl rfl (fun wh hS => hS.2.1.range) Try.underlying28 rfl (info28l _)) hHeld ?_
            show wpAnyH _ _ _ _ _ _ _ (Act.put _ (some 119) _) _
            simp only [Act.put, List.setIfInBounds_toArray, List.set_cons_zero, List.set_cons_succ]
            refine wpAnyH_take (i := 11) (v := .bool false) rfl (by kernel_rfl) (by kernel_rfl) (by kernel_rfl) (fun _ _ _ h => h) (yieldsIf_neq28 (by rfl) rfl rfl rfl hneq2) hHeld ?_
            show wpAnyH _ _ _ _ _ _ _ (Act.put _ (some 120) _) _
            simp only [Act.put, List.setIfInBounds_toArray, List.set_cons_zero, List.set_cons_succ]
            refine wpAnyH_take (i := 12) (v := .bool false) rfl (by kernel_rfl) (by kernel_rfl) (by kernel_rfl) (fun _ _ _ h => h) (Or.inl ⟨by rfl, fun _ _ => rfl⟩) hHeld ?_
            show wpAnyH _ _ _ _ _ _ _ (Act.put _ (some 121) _) _
            simp only [Act.put, List.setIfInBounds_toArray, List.set_cons_zero, List.set_cons_succ]
            refine wpAnyH_take (i := 13) (v := .bool false) rfl (by kernel_rfl) (by kernel_rfl) (by kernel_rfl) (fun _ _ _ h => h) (Or.inl ⟨by rfl, fun _ _ => rfl⟩) hHeld ?_
            show wpAnyH _ _ _ _ _ _ _ (Act.put _ (some 122) _) _
            simp only [Act.put, List.setIfInBounds_toArray, List.set_cons_zero, List.set_cons_succ]
            refine wpAnyH_take (i := 14) (v := .bool false) rfl (by kernel_rfl) (by kernel_rfl) (by kernel_rfl) (fun _ _ _ h => h) (Or.inl ⟨by rfl, fun _ _ => rfl⟩) hHeld ?_
            show wpAnyH _ _ _ _ _ _ _ (Act.put _ (some 123) _) _
            simp only [Act.put, List.setIfInBounds_toArray, List.set_cons_zero, List.set_cons_succ]
            refine wpAnyH_take (i := 15) (v := .int .i64 2) rfl (by kernel_rfl) (by kernel_rfl) (by kernel_rfl) (fun _ _ _ h => h) (Or.inl ⟨by rfl, fun _ _ => rfl⟩) hHeld ?_
            show wpAnyH _ _ _ _ _ _ _ (Act.put _ (some 124) _) _
            simp only [Act.put, List.setIfInBounds_toArray, List.set_cons_zero, List.set_cons_succ]
            refine wpAnyH_take (i := 16) (v := .bool false) rfl (by kernel_rfl) (by kernel_rfl) (by kernel_rfl) (fun _ _ _ h => h) (yb (b := 2 == 0) (by rfl) (fun _ _ => rfl) rfl) hHeld ?_
            show wpAnyH _ _ _ _ _ _ _ (Act.put _ (some 125) _) _
            simp only [Act.put, List.setIfInBounds_toArray, List.set_cons_zero, List.set_cons_succ]
            refine wpAnyH_take (i := 17) (v := .bool false) rfl (by kernel_rfl) (by kernel_rfl) (by kernel_rfl) (fun _ _ _ h => h) (Or.inl ⟨by rfl, fun _ _ => rfl⟩) hHeld ?_
            show wpAnyH _ _ _ _ _ _ _ (Act.put _ (some 126) _) _
            simp only [Act.put, List.setIfInBounds_toArray, List.set_cons_zero, List.set_cons_succ]
            refine wpAnyH_take (i := 18) (v := undef) rfl (by kernel_rfl) (by kernel_rfl) (by kernel_rfl) (fun _ _ _ h => h) (Or.inr ⟨by rfl, rfl⟩) hHeld ?_
            show wpAnyH _ _ _ _ _ _ _ (Act.put _ (some 127) _) _
            simp only [Act.put, List.setIfInBounds_toArray, List.set_cons_zero, List.set_cons_succ]
            refine wpAnyH_take (i := 19) (v := undef) rfl (by kernel_rfl) (by kernel_rfl) (by kernel_rfl) (fun _ _ _ h => h) (Or.inr ⟨by rfl, rfl⟩) hHeld ?_
            show wpAnyH _ _ _ _ _ _ _ (Act.put _ (some 128) _) _
            simp only [Act.put, List.setIfInBounds_toArray, List.set_cons_zero, List.set_cons_succ]
            refine wpAnyH_take (i := 20) (v := undef) rfl (by kernel_rfl) (by kernel_rfl) (by kernel_rfl) (fun _ _ _ h => h) (Or.inr ⟨by rfl, rfl⟩) hHeld ?_
            show wpAnyH _ _ _ _ _ _ _ (Act.put _ (some 129) _) _
            simp only [Act.put, List.setIfInBounds_toArray, List.set_cons_zero, List.set_cons_succ]
            refine wpAnyH_take (i := 21) (v := undef) rfl (by kernel_rfl) (by kernel_rfl) (by kernel_rfl) (fun _ _ _ h => h) (Or.inr ⟨by rfl, rfl⟩) hHeld ?_
            show wpAnyH _ _ _ _ _ _ _ (Act.put _ (some 130) _) _
            simp only [Act.put, List.setIfInBounds_toArray, List.set_cons_zero, List.set_cons_succ]
            refine wpAnyH_take (i := 22) (v := undef) rfl (by kernel_rfl) (by kernel_rfl) (by kernel_rfl) (fun _ _ _ h => h) (Or.inr ⟨by rfl, rfl⟩) hHeld ?_
            show wpAnyH _ _ _ _ _ _ _ (Act.put _ (some 131) _) _
            simp only [Act.put, List.setIfInBounds_toArray, List.set_cons_zero, List.set_cons_succ]
            refine wpAnyH_take (i := 23) (v := undef) rfl (by kernel_rfl) (by kernel_rfl) (by kernel_rfl) (fun _ _ _ h => h) (Or.inr ⟨by rfl, rfl⟩) hHeld ?_
            show wpAnyH _ _ _ _ _ _ _ (Act.put _ (some 132) _) _
            simp only [Act.put, List.setIfInBounds_toArray, List.set_cons_zero, List.set_cons_succ]
            refine wpAnyH_take (i := 24) (v := undef) rfl (by kernel_rfl) (by kernel_rfl) (by kernel_rfl) (fun _ _ _ h => h) (Or.inr ⟨by rfl, rfl⟩) hHeld ?_
            show wpAnyH _ _ _ _ _ _ _ (Act.put _ (some 133) _) _
            simp only [Act.put, List.setIfInBounds_toArray, List.set_cons_zero, List.set_cons_succ]
            refine wpAnyH_take (i := 25) (v := .bool false) rfl (by kernel_rfl) (by kernel_rfl) (by kernel_rfl) (fun _ _ _ h => h) (Or.inl ⟨by rfl, fun _ _ => rfl⟩) hHeld ?_
            show wpAnyH _ _ _ _ _ _ _ (Act.put _ (some 134) _) _
            simp only [Act.put, List.setIfInBounds_toArray, List.set_cons_zero, List.set_cons_succ]
            refine wpAnyH_take (i := 26) (v := .bool false) rfl (by kernel_rfl) (by kernel_rfl) (by kernel_rfl) (fun _ _ _ h => h) (Or.inl ⟨by rfl, fun _ _ => rfl⟩) hHeld ?_
            show wpAnyH _ _ _ _ _ _ _ (Act.put _ (some 135) _) _
            simp only [Act.put, List.setIfInBounds_toArray, List.set_cons_zero, List.set_cons_succ]
            refine wpAnyH_done (by kernel_rfl) ?_ _
            obtain ⟨_, _, _, hwn⟩ := hHeld
            have HWk := hidI hwn
            clear hwn hneq1 hneq2 hqe
            go_wp2
            generalize w9.drew = wk at *
            rw [rounds_succ]
            go_wp2
            go_roundw
            case measure => simp [intOf]; omega
            case rel => exact ⟨i + 1, by omega, by go_num, HZ.out.trans (HWk.out.mono hM1)⟩
      · obtain rfl : i = 8 := by omega
        rw [show ((8 : Nat) : Int) = 8 from rfl]
        have HBE := hidI (HBL.out.trans (HZ.out.mono HBL.out.size))
        go_wp2_with (first
          | (go_at_call 13; refine (alive_v _).mono ?_; rintro e w3 ⟨rfl, hb⟩; have HB2 := hidI (HBE.out.trans (hb.mono HBE.out.size)); clear HBE hb))
        go_ret
        exact ⟨rfl, HB2.out⟩
  · have heb : (r4 == 0) = false := by simpa using he
    have heb' : (r4 != 0) = true := by simpa using he
    clear HCK hrc he
    go_enter Try.func10, Try.ntmps10
    go_wp2_with (first
      | ((with_reducible refine g_load 29 ?_ rfl); refine st_load29 (x := .tmp 3) (by rfl) rfl rfl hk0 ?_)
      | (go_at_call 11; have _t := HB0; refine (hrt _).mono ?_; rintro e w1 ⟨rfl, hb⟩; have hk1 := hk0.below hb hk0.lt; have HB1 := hidI (HB0.out.trans (hb.mono HB0.out.size)); clear HB0 hb hk0 hrt)
      | ((with_reducible refine g_load 29 ?_ rfl); refine st_load29 (x := .tmp 3) (by rfl) rfl rfl hk1 ?_)
      | (go_at_call 26; refine (hwk _).mono ?_; rintro e w2 ⟨rfl, hb⟩; have hk2 := hk1.below hb hk1.lt; have HB2 := hidI (HB1.out.trans (hb.mono HB1.out.size)); clear HB1 hb hk1 hwk)
      | ((with_reducible refine g_alloc 29 ?_ rfl); have _t := HB2; refine st_alloc29 (by rfl) rfl ?_; have hz := Blk.new w2 tz; have hk3 := hk2.alloc (.cells (tcs tz) 29); have hl2 := hk2.lt; have HBa := hidI (HB2.out.alloc HB2.out.size (.cells (tcs tz) 29)); have hs2 := HB2.out.size; clear HB2 hk2)
      | ((with_reducible refine g_store 29 ?_ rfl); have _t := HBa; refine st_store29 (x := .tmp 7) (by rfl) rfl rfl rfl hz ?_; intro w3 ha3 hu; have hk4 := hu.blk hk3 (by omega); have HB3 := hidI (HBa.out.trans (hu.below hs2)); clear HBa hu hz hk3)
      | ((with_reducible refine g_load 29 ?_ rfl); refine st_load29 (x := .tmp 3) (by rfl) rfl rfl hk4 ?_)
      | (go_at_call 14; refine (hex _).mono ?_; rintro e w4 ⟨rfl, hb⟩; have hk5 := hk4.below hb hk4.lt; have ha4 := ha3.below hb ha3.lt; have HB4 := hidI (HB3.out.trans (hb.mono HB3.out.size)); clear HB3 hb hk4 ha3 hex)
      | ((with_reducible refine g_alloc 29 ?_ rfl); have _t := HB4; refine st_alloc29 (by rfl) rfl ?_; have hz := Blk.new w4 tz; have hk6 := hk5.alloc (.cells (tcs tz) 29); have ha5 := ha4.alloc (.cells (tcs tz) 29); have hl4 := hk5.lt; have hm4 := ha4.lt; have HBa := hidI (HB4.out.alloc HB4.out.size (.cells (tcs tz) 29)); have hs4 := HB4.out.size; clear HB4 hk5 ha4)
      | ((with_reducible refine g_store 29 ?_ rfl); have _t := HBa; refine st_store29 (x := .tmp 8) (by rfl) rfl rfl rfl hz ?_; intro w5 hb5 hu; have hk7 := hu.blk hk6 (by omega); have ha6 := hu.blk ha5 (by omega); have HB5 := hidI (HBa.out.trans (hu.below hs4)); clear HBa hu hz hk6 ha5)
      | ((with_reducible refine g_load 29 ?_ rfl); refine st_load29 (x := .tmp 3) (by rfl) rfl rfl hk7 ?_)
      | (go_at_call 16; refine (hrp _).mono ?_; rintro e w6 ⟨rfl, hb⟩; have hk8 := hk7.below hb hk7.lt; have ha7 := ha6.below hb ha6.lt; have hb6 := hb5.below hb hb5.lt; have HB6 := hidI (HB5.out.trans (hb.mono HB5.out.size)); clear HB5 hb hk7 ha6 hb5 hrp)
      | ((with_reducible refine g_alloc 29 ?_ rfl); have _t := HB6; refine st_alloc29 (by rfl) rfl ?_; have hz := Blk.new w6 tz; have hk8a := hk8.alloc (.cells (tcs tz) 29); have ha7a := ha7.alloc (.cells (tcs tz) 29); have hb6a := hb6.alloc (.cells (tcs tz) 29); have hl6 := hk8.lt; have hm6 := ha7.lt; have hn6 := hb6.lt; have HBa := hidI (HB6.out.alloc HB6.out.size (.cells (tcs tz) 29)); have hs6 := HB6.out.size; clear HB6 hk8 ha7 hb6)
      | ((with_reducible refine g_store 29 ?_ rfl); have _t := HBa; refine st_store29 (x := .tmp 9) (by rfl) rfl rfl rfl hz ?_; intro w7 hc7 hu; have hk8b := hu.blk hk8a (by omega); have ha7b := hu.blk ha7a (by omega); have hb6b := hu.blk hb6a (by omega); have HB7 := hidI (HBa.out.trans (hu.below hs6)); clear HBa hu hz hk8a ha7a hb6a)
      | ((with_reducible refine g_load 29 ?_ rfl); refine st_load29 (x := .tmp 7) (by rfl) rfl rfl ha7b ?_)
      | (go_at_call 11; have _t := HB7; refine (hra _).mono ?_; rintro e w8 ⟨rfl, hb⟩; have ha8 := ha7b.below hb ha7b.lt; have hb8 := hb6b.below hb hb6b.lt; have hc8 := hc7.below hb hc7.lt; have hk8c := hk8b.below hb hk8b.lt; have HB8 := hidI (HB7.out.trans (hb.mono HB7.out.size)); clear HB7 hb ha7b hb6b hc7 hk8b hra)
      | ((with_reducible refine g_load 29 ?_ rfl); refine st_load29 (x := .tmp 8) (by rfl) rfl rfl hb8 ?_)
      | (go_at_call 11; have _t := HB8; refine (hrb _).mono ?_; rintro e w9 ⟨rfl, hb⟩; have ha9 := ha8.below hb ha8.lt; have hb9 := hb8.below hb hb8.lt; have hc9 := hc8.below hb hc8.lt; have hk9 := hk8c.below hb hk8c.lt; have HB9 := hidI (HB8.out.trans (hb.mono HB8.out.size)); clear HB8 hb ha8 hb8 hc8 hk8c hrb)
      | ((with_reducible refine g_load 29 ?_ rfl); refine st_load29 (x := .tmp 3) (by rfl) rfl rfl hk9 ?_))
    have hal := ha9
    have hbl := hb9
    have hcl := hc9
    have HBL := HB9
    clear ha9 hb9 hc9 hk9 HB9
    generalize w9 = W1 at *
    clear hl2 hs2 hl4 hm4 hs4 hl6 hm6 hn6 hs6
    generalize w2.heap.size = b7 at *
    generalize w4.heap.size = b8 at *
    generalize w6.heap.size = b9 at *
    go_loopw [57] (fun x wr => ∃ i : Nat, i ≤ 8 ∧ x = .int .i64 i ∧ Below W1.heap.size W1 wr) (fun x _ => 8 - (intOf x).toNat)
    case atStart => exact ⟨0, by omega, rfl, Below.refl _ _⟩
    case round =>
      obtain ⟨i, hi, rfl, hbel⟩ := hrel
      have HZ := hidI hbel; clear hbel
      by_cases hi8 : i < 8
      · have hlt : (i : Int) < 8 := by omega
        have hlo : (0 : Int) ≤ i := by omega
        have hsz := HZ.out.size
        cases h1 : ((t i).f 2 != 1)
        rotate_left
        · cases h2 : ((t i).f 2 != 2)
          rotate_left
          · go_wp2_with (first
              | ((with_reducible refine g_index 29 ?_ rfl); refine st_index29 (by rfl) rfl rfl rfl hi8 ?_)
              | ((with_reducible refine g_alloc 28 ?_ rfl); refine st_alloc28 (by rfl) rfl ?_; have hq1 := PBlk.new wr zp; have HZ1 := hidI (HZ.out.alloc HZ.out.size (.cells (pcs zp) 28)); clear HZ)
              | ((with_reducible refine g_store 28 ?_ rfl); refine st_pstore28 (by rfl) rfl rfl rfl hq1 ?_; intro w2 hq2 hu2; have HZ2 := hidI (HZ1.out.trans (hu2.below hsz)); have d2 := hq2.int 2 (by decide) (by decide); clear hq1 hu2 HZ1 hq2))
            go_roundw
            case measure => simp [intOf]; omega
            case rel => exact ⟨i + 1, by omega, by go_num, HZ2.out⟩
          · have HL3 : Hid ((t i).f 2 ≠ 3) := by have : (t i).f 2 = 2 := (by simpa using h2); show (t i).f 2 ≠ 3; omega
            go_wp2_with (first
              | ((with_reducible refine g_index 29 ?_ rfl); refine st_index29 (by rfl) rfl rfl rfl hi8 ?_)
              | ((with_reducible refine g_alloc 28 ?_ rfl); refine st_alloc28 (by rfl) rfl ?_; have hq1 := PBlk.new wr zp; have HZ1 := hidI (HZ.out.alloc HZ.out.size (.cells (pcs zp) 28)); clear HZ)
              | ((with_reducible refine g_store 28 ?_ rfl); refine st_pstore28 (by rfl) rfl rfl rfl hq1 ?_; intro w2 hq2 hu2; have HZ2 := hidI (HZ1.out.trans (hu2.below hsz)); have d2 := hq2.int 2 (by decide) (by decide); have ha2 := hal.below HZ2.out hal.lt; have hb2 := hbl.below HZ2.out hbl.lt; have hc2 := hcl.below HZ2.out hcl.lt; clear hq1 hu2 HZ1)
              | ((with_reducible refine g_load 29 ?_ rfl); refine st_load29 (x := .tmp 7) (by rfl) rfl rfl ha2 ?_)
              | ((with_reducible refine g_load 29 ?_ rfl); refine st_load29 (x := .tmp 8) (by rfl) rfl rfl hb2 ?_)
              | ((with_reducible refine g_load 29 ?_ rfl); refine st_load29 (x := .tmp 9) (by rfl) rfl rfl hc2 ?_)
              | ((with_reducible refine g_bslice 43 ?_ rfl); refine st_bslice43 (three aT bT cT) (by rfl) rfl rfl rfl rfl ?_; intro C hT; have hp0 := hq2.alloc (.cells C 29); have HZ := hidI (HZ2.out.alloc HZ2.out.size (.cells C 29)); clear ha2 hb2 hc2 hq2 HZ2 d2))
            generalize wr.heap.size = b14 at *
            generalize w2.heap.size = b72 at *
            generalize (w2.alloc (.cells C 29)) = W0 at *
            have hM1 := HZ.out.size
            have HWk := hidI (Below.refl W0.heap.size W0)
            have hl14 := hp0.lt
            clear hsz
            obtain ⟨M, hM⟩ : ∃ M, M = W0.heap.size := ⟨_, rfl⟩
            rw [← hM] at HWk hl14 hM1
            have hTl : b72 < M := by rw [hM]; exact hT.lt
            have HMM := hidI hM
            clear hM
            refine wp_loop_rounds 4 ?_
            obtain ⟨wk, hwk⟩ : ∃ wk, wk = W0 := ⟨_, rfl⟩
            have HWk : Hid (Below M W0 wk) := by rw [hwk]; exact HWk.out
            rw [← hwk]
            clear hwk
            rw [rounds_succ]
            have hTk := hT.below HWk.out hTl
            have hpk := hp0.below HWk.out hl14
            have hMk : M ≤ wk.heap.size := by rw [HMM.out]; exact HWk.out.size
            go_wp2_with (first
              | ((with_reducible refine g_load 29 ?_ rfl); refine st_loadT (f := three aT bT cT) (k := 0) (by rfl) rfl rfl hTk (by decide) ?_)
              | ((with_reducible refine g_alloc 29 ?_ rfl); refine st_alloc29 (by rfl) rfl ?_; have hz := Blk.new wk tz; have hp1 := hpk.alloc (.cells (tcs tz) 29); have HW1 := hidI (HWk.out.alloc hMk (.cells (tcs tz) 29)); clear hTk hpk HWk)
              | ((with_reducible refine g_store 29 ?_ rfl); refine st_store29 (x := .tmp 16) (by rfl) rfl rfl rfl hz ?_; intro w2 hx2 hu2; have hp2 := hu2.pblk hp1 (by omega); have HW2 := hidI (HW1.out.trans (hu2.below hMk)); have hs2 := hu2.size; rw [World.size_alloc] at hs2; have hM2 : M ≤ w2.heap.size := (by omega); have HS2 := hidI hs2; clear hs2 hu2 hz hp1 HW1)
              | ((with_reducible refine g_load 28 ?_ rfl); refine st_load28 (k := i) (by rfl) rfl rfl hx2 hi8 ?_)
              | ((with_reducible refine g_alloc 28 ?_ rfl); refine st_alloc28 (by rfl) rfl ?_; have hqz := PBlk.new w2 zp; have hp3 := hp2.alloc (.cells (pcs zp) 28); have hx3 := hx2.alloc (.cells (pcs zp) 28); have HW3 := hidI (HW2.out.alloc hM2 (.cells (pcs zp) 28)); clear hp2 hx2 HW2)
              | ((with_reducible refine g_store 28 ?_ rfl); refine st_pstore28 (by rfl) rfl rfl rfl hqz ?_; intro w4 hqa hu4; have hb17 : wk.heap.size < w2.heap.size := (by have := HS2.out; omega); have hp14 := hu4.pblk hp3 (by omega); have hx16 := hu4.blk hx3 (by omega); have HWx := hidI (HW3.out.trans (hu4.below (by omega))); clear hqz hu4 hp3 hx3 HW3 HS2))
            generalize wk.heap.size = b16 at *
            generalize w2.heap.size = b17 at *
            have hqa : PBlk w4.drew b17 (aT i) := hqa
            refine wp_region_held_drew (S := fun wh => PBlk wh b14 (t i) ∧ Blk wh b16 aT ∧ Below M W0 wh) (by kernel_rfl) (⟨hp14.drew, hx16.drew, HWx.out.drew⟩) (fun hHeld => ?_)
            show wpAnyH _ _ _ _ _ (15 + 1) #[false, false, false, false, false, false, false, false, false, false, false, false, false, false, false, false] _ _
            refine wpAnyH_take (i := 0) (v := .pointer (some ⟨b14, 2, none⟩)) rfl (by kernel_rfl) (by kernel_rfl) (by kernel_rfl) (fun _ _ _ h => h) (Or.inl ⟨by rfl, fun _ _ => rfl⟩) hHeld ?_
            show wpAnyH _ _ _ _ _ _ _ (Act.put _ (some 97) _) _
            simp only [Act.put, List.setIfInBounds_toArray, List.set_cons_zero, List.set_cons_succ]
            refine wpAnyH_take (i := 1) (v := .int .i64 ((t i).f 2)) rfl (by kernel_rfl) (by kernel_rfl) (by kernel_rfl) (fun _ _ _ h => h) (yieldsIf_cell (by rfl) rfl rfl (fun wh hS => hS.1.int 2 (by decide) (by decide)) isInt3) hHeld ?_
            show wpAnyH _ _ _ _ _ _ _ (Act.put _ (some 98) _) _
            simp only [Act.put, List.setIfInBounds_toArray, List.set_cons_zero, List.set_cons_succ]
            refine wpAnyH_take (i := 2) (v := .pointer (some ⟨b14, 25, none⟩)) rfl (by kernel_rfl) (by kernel_rfl) (by kernel_rfl) (fun _ _ _ h => h) (Or.inl ⟨by rfl, fun _ _ => rfl⟩) hHeld ?_
            show wpAnyH _ _ _ _ _ _ _ (Act.put _ (some 99) _) _
            simp only [Act.put, List.setIfInBounds_toArray, List.set_cons_zero, List.set_cons_succ]
            refine wpAnyH_take (i := 3) (v := .int .i64 ((t i).f 25)) rfl (by kernel_rfl) (by kernel_rfl) (by kernel_rfl) (fun _ _ _ h => h) (yieldsIf_cell (by rfl) rfl rfl (fun wh hS => hS.1.int 25 (by decide) (by decide)) isInt3) hHeld ?_
            show wpAnyH _ _ _ _ _ _ _ (Act.put _ (some 100) _) _
            simp only [Act.put, List.setIfInBounds_toArray, List.set_cons_zero, List.set_cons_succ]
            refine wpAnyH_take (i := 4) (v := .pointer (some ⟨b14, 26, none⟩)) rfl (by kernel_rfl) (by kernel_rfl) (by kernel_rfl) (fun _ _ _ h => h) (Or.inl ⟨by rfl, fun _ _ => rfl⟩) hHeld ?_
            show wpAnyH _ _ _ _ _ _ _ (Act.put _ (some 101) _) _
            simp only [Act.put, List.setIfInBounds_toArray, List.set_cons_zero, List.set_cons_succ]
            refine wpAnyH_take (i := 5) (v := .int .i64 ((t i).f 26)) rfl (by kernel_rfl) (by kernel_rfl) (by kernel_rfl) (fun _ _ _ h => h) (yieldsIf_cell (by rfl) rfl rfl (fun wh hS => hS.1.int 26 (by decide) (by decide)) isInt3) hHeld ?_
            show wpAnyH _ _ _ _ _ _ _ (Act.put _ (some 102) _) _
            simp only [Act.put, List.setIfInBounds_toArray, List.set_cons_zero, List.set_cons_succ]
            refine wpAnyH_take (i := 6) (v := .pointer (some ⟨b14, 1, none⟩)) rfl (by kernel_rfl) (by kernel_rfl) (by kernel_rfl) (fun _ _ _ h => h) (Or.inl ⟨by rfl, fun _ _ => rfl⟩) hHeld ?_
            show wpAnyH _ _ _ _ _ _ _ (Act.put _ (some 103) _) _
            simp only [Act.put, List.setIfInBounds_toArray, List.set_cons_zero, List.set_cons_succ]
            refine wpAnyH_take (i := 7) (v := .int .i64 ((t i).f 1)) rfl (by kernel_rfl) (by kernel_rfl) (by kernel_rfl) (fun _ _ _ h => h) (yieldsIf_cell (by rfl) rfl rfl (fun wh hS => hS.1.int 1 (by decide) (by decide)) isInt3) hHeld ?_
            show wpAnyH _ _ _ _ _ _ _ (Act.put _ (some 104) _) _
            simp only [Act.put, List.setIfInBounds_toArray, List.set_cons_zero, List.set_cons_succ]
            refine wpAnyH_take (i := 8) (v := .pointer (some ⟨b17, 2, none⟩)) rfl (by kernel_rfl) (by kernel_rfl) (by kernel_rfl) (fun _ _ _ h => h) (Or.inl ⟨by rfl, fun _ _ => rfl⟩) hHeld ?_
            show wpAnyH _ _ _ _ _ _ _ (Act.put _ (some 105) _) _
            simp only [Act.put, List.setIfInBounds_toArray, List.set_cons_zero, List.set_cons_succ]
            refine wpAnyH_all (rs := [9]) (by kernel_rfl) (by simp) (fun i hi' => ?_)
            obtain rfl : i = 9 := by simpa using hi'
            clear hi'
            refine draw_pfield _ (.tmp 105) (.tmp 98) b17 2 ((t i).f 2) (aT i) rfl (by rfl) rfl rfl rfl hqa (by decide) (by decide) (fun w9 hqb hu9 => ?_)
            have hHeld := And.intro (hu9.pblk hHeld.1 (by omega)) (And.intro (hu9.blk hHeld.2.1 (by omega)) (hHeld.2.2.trans (hu9.below (by omega))))
            refine ⟨hHeld, ?_⟩
            clear hu9 hqa
            refine wpAnyH_take (i := 10) (v := .pointer (some ⟨b17, 25, none⟩)) rfl (by kernel_rfl) (by kernel_rfl) (by kernel_rfl) (fun _ _ _ h => h) (Or.inl ⟨by rfl, fun _ _ => rfl⟩) hHeld ?_
            show wpAnyH _ _ _ _ _ _ _ (Act.put _ (some 106) _) _
            simp only [Act.put, List.setIfInBounds_toArray, List.set_cons_zero, List.set_cons_succ]
            refine wpAnyH_all (rs := [11]) (by kernel_rfl) (by simp) (fun i hi' => ?_)
            obtain rfl : i = 11 := by simpa using hi'
            clear hi'
            refine draw_pfield _ (.tmp 106) (.tmp 100) b17 25 ((t i).f 25) (setf (aT i) 2 ((t i).f 2)) rfl (by rfl) rfl rfl rfl hqb (by decide) (by decide) (fun w9 hqc hu9 => ?_)
            have hHeld := And.intro (hu9.pblk hHeld.1 (by omega)) (And.intro (hu9.blk hHeld.2.1 (by omega)) (hHeld.2.2.trans (hu9.below (by omega))))
            refine ⟨hHeld, ?_⟩
            clear hu9 hqb
            refine wpAnyH_take (i := 12) (v := .pointer (some ⟨b17, 26, none⟩)) rfl (by kernel_rfl) (by kernel_rfl) (by kernel_rfl) (fun _ _ _ h => h) (Or.inl ⟨by rfl, fun _ _ => rfl⟩) hHeld ?_
            show wpAnyH _ _ _ _ _ _ _ (Act.put _ (some 107) _) _
            simp only [Act.put, List.setIfInBounds_toArray, List.set_cons_zero, List.set_cons_succ]
            refine wpAnyH_all (rs := [13]) (by kernel_rfl) (by simp) (fun i hi' => ?_)
            obtain rfl : i = 13 := by simpa using hi'
            clear hi'
            refine draw_pfield _ (.tmp 107) (.tmp 102) b17 26 ((t i).f 26) (setf (setf (aT i) 2 ((t i).f 2)) 25 ((t i).f 25)) rfl (by rfl) rfl rfl rfl hqc (by decide) (by decide) (fun w9 hqd hu9 => ?_)
            have hHeld := And.intro (hu9.pblk hHeld.1 (by omega)) (And.intro (hu9.blk hHeld.2.1 (by omega)) (hHeld.2.2.trans (hu9.below (by omega))))
            refine ⟨hHeld, ?_⟩
            clear hu9 hqc
            refine wpAnyH_take (i := 14) (v := .pointer (some ⟨b17, 1, none⟩)) rfl (by kernel_rfl) (by kernel_rfl) (by kernel_rfl) (fun _ _ _ h => h) (Or.inl ⟨by rfl, fun _ _ => rfl⟩) hHeld ?_
            show wpAnyH _ _ _ _ _ _ _ (Act.put _ (some 108) _) _
            simp only [Act.put, List.setIfInBounds_toArray, List.set_cons_zero, List.set_cons_succ]
            refine wpAnyH_all (rs := [15]) (by kernel_rfl) (by simp) (fun i hi' => ?_)
            obtain rfl : i = 15 := by simpa using hi'
            clear hi'
            refine draw_pfield _ (.tmp 108) (.tmp 104) b17 1 ((t i).f 1) (setf (setf (setf (aT i) 2 ((t i).f 2)) 25 ((t i).f 25)) 26 ((t i).f 26)) rfl (by rfl) rfl rfl rfl hqd (by decide) (by decide) (fun w9 hqe hu9 => ?_)
            have hHeld := And.intro (hu9.pblk hHeld.1 (by omega)) (And.intro (hu9.blk hHeld.2.1 (by omega)) (hHeld.2.2.trans (hu9.below (by omega))))
            refine ⟨hHeld, ?_⟩
            clear hu9 hqd
            refine wpAnyH_done (by kernel_rfl) ?_ _
            clear hp14 hx16 HWx
            go_wp2
            have hneq1 : (!eqP (setf (setf (setf (setf (aT i) 2 ((t i).f 2)) 25 ((t i).f 25)) 26 ((t i).f 26)) 1 ((t i).f 1)) (t i)) = false := eqP_no (keep_back (HA.out i hi8).1)
            have hpar : ((aT i).f 1 != (t i).f 1) = false := by rw [(HA.out i hi8).2]; simp
            refine wp_region_held_drew (S := fun wh => PBlk wh b17 (setf (setf (setf (setf (aT i) 2 ((t i).f 2)) 25 ((t i).f 25)) 26 ((t i).f 26)) 1 ((t i).f 1)) ∧ PBlk wh b14 (t i) ∧ Blk wh b16 aT ∧ Below M W0 wh) (by kernel_rfl) (⟨hqe.drew, hHeld.1.drew, hHeld.2.1.drew, hHeld.2.2.drew⟩) (fun hHeld => ?_)
            show wpAnyH _ _ _ _ _ (26 + 1) #[false, false, false, false, false, false, false, false, false, false, false, false, false, false, false, false, false, false, false, false, false, false, false, false, false, false, false] _ _
            refine wpAnyH_take (i := 0) (v := .agg (pcs (setf (setf (setf (setf (aT i) 2 ((t i).f 2)) 25 ((t i).f 25)) 26 ((t i).f 26)) 1 ((t i).f 1)))) rfl (by kernel_rfl) (by kernel_rfl) (by kernel_rfl) (fun _ _ _ h => h) (yieldsIf_row (by rfl) rfl rfl (fun wh hS => hS.1.range) Try.underlying28 rfl (info28l _)) hHeld ?_
            show wpAnyH _ _ _ _ _ _ _ (Act.put _ (some 109) _) _
            simp only [Act.put, List.setIfInBounds_toArray, List.set_cons_zero, List.set_cons_succ]
            refine wpAnyH_take (i := 1) (v := .agg (pcs (t i))) rfl (by kernel_rfl) (by kernel_rfl) (by kernel_rfl) (fun _ _ _ h => h) (yieldsIf_row (by rfl) rfl rfl (fun wh hS => hS.2.1.range) Try.underlying28 rfl (info28l _)) hHeld ?_
            show wpAnyH _ _ _ _ _ _ _ (Act.put _ (some 110) _) _
            simp only [Act.put, List.setIfInBounds_toArray, List.set_cons_zero, List.set_cons_succ]
            refine wpAnyH_take (i := 2) (v := .bool false) rfl (by kernel_rfl) (by kernel_rfl) (by kernel_rfl) (fun _ _ _ h => h) (yieldsIf_neq28 (by rfl) rfl rfl rfl hneq1) hHeld ?_
            show wpAnyH _ _ _ _ _ _ _ (Act.put _ (some 111) _) _
            simp only [Act.put, List.setIfInBounds_toArray, List.set_cons_zero, List.set_cons_succ]
            refine wpAnyH_take (i := 3) (v := .bool false) rfl (by kernel_rfl) (by kernel_rfl) (by kernel_rfl) (fun _ _ _ h => h) (Or.inl ⟨by rfl, fun _ _ => rfl⟩) hHeld ?_
            show wpAnyH _ _ _ _ _ _ _ (Act.put _ (some 112) _) _
            simp only [Act.put, List.setIfInBounds_toArray, List.set_cons_zero, List.set_cons_succ]
            refine wpAnyH_take (i := 4) (v := .int .i64 0) rfl (by kernel_rfl) (by kernel_rfl) (by kernel_rfl) (fun _ _ _ h => h) (Or.inl ⟨by rfl, fun _ _ => rfl⟩) hHeld ?_
            show wpAnyH _ _ _ _ _ _ _ (Act.put _ (some 113) _) _
            simp only [Act.put, List.setIfInBounds_toArray, List.set_cons_zero, List.set_cons_succ]
            refine wpAnyH_take (i := 5) (v := .bool false) rfl (by kernel_rfl) (by kernel_rfl) (by kernel_rfl) (fun _ _ _ h => h) (yb (b := 0 == 2) (by rfl) (fun _ _ => rfl) rfl) hHeld ?_
            show wpAnyH _ _ _ _ _ _ _ (Act.put _ (some 114) _) _
            simp only [Act.put, List.setIfInBounds_toArray, List.set_cons_zero, List.set_cons_succ]
            refine wpAnyH_take (i := 6) (v := .bool false) rfl (by kernel_rfl) (by kernel_rfl) (by kernel_rfl) (fun _ _ _ h => h) (Or.inl ⟨by rfl, fun _ _ => rfl⟩) hHeld ?_
            show wpAnyH _ _ _ _ _ _ _ (Act.put _ (some 115) _) _
            simp only [Act.put, List.setIfInBounds_toArray, List.set_cons_zero, List.set_cons_succ]
            refine wpAnyH_take (i := 7) (v := undef) rfl (by kernel_rfl) (by kernel_rfl) (by kernel_rfl) (fun _ _ _ h => h) (Or.inr ⟨by rfl, rfl⟩) hHeld ?_
            show wpAnyH _ _ _ _ _ _ _ (Act.put _ (some 116) _) _
            simp only [Act.put, List.setIfInBounds_toArray, List.set_cons_zero, List.set_cons_succ]
            refine wpAnyH_take (i := 8) (v := undef) rfl (by kernel_rfl) (by kernel_rfl) (by kernel_rfl) (fun _ _ _ h => h) (Or.inr ⟨by rfl, rfl⟩) hHeld ?_
            show wpAnyH _ _ _ _ _ _ _ (Act.put _ (some 117) _) _
            simp only [Act.put, List.setIfInBounds_toArray, List.set_cons_zero, List.set_cons_succ]
            refine wpAnyH_take (i := 9) (v := undef) rfl (by kernel_rfl) (by kernel_rfl) (by kernel_rfl) (fun _ _ _ h => h) (Or.inr ⟨by rfl, rfl⟩) hHeld ?_
            show wpAnyH _ _ _ _ _ _ _ (Act.put _ (some 118) _) _
            simp only [Act.put, List.setIfInBounds_toArray, List.set_cons_zero, List.set_cons_succ]
            refine wpAnyH_take (i := 10) (v := undef) rfl (by kernel_rfl) (by kernel_rfl) (by kernel_rfl) (fun _ _ _ h => h) (Or.inr ⟨by rfl, rfl⟩) hHeld ?_
            show wpAnyH _ _ _ _ _ _ _ (Act.put _ (some 119) _) _
            simp only [Act.put, List.setIfInBounds_toArray, List.set_cons_zero, List.set_cons_succ]
            refine wpAnyH_take (i := 11) (v := undef) rfl (by kernel_rfl) (by kernel_rfl) (by kernel_rfl) (fun _ _ _ h => h) (Or.inr ⟨by rfl, rfl⟩) hHeld ?_
            show wpAnyH _ _ _ _ _ _ _ (Act.put _ (some 120) _) _
            simp only [Act.put, List.setIfInBounds_toArray, List.set_cons_zero, List.set_cons_succ]
            refine wpAnyH_take (i := 12) (v := .bool false) rfl (by kernel_rfl) (by kernel_rfl) (by kernel_rfl) (fun _ _ _ h => h) (Or.inl ⟨by rfl, fun _ _ => rfl⟩) hHeld ?_
            show wpAnyH _ _ _ _ _ _ _ (Act.put _ (some 121) _) _
            simp only [Act.put, List.setIfInBounds_toArray, List.set_cons_zero, List.set_cons_succ]
            refine wpAnyH_take (i := 13) (v := .bool false) rfl (by kernel_rfl) (by kernel_rfl) (by kernel_rfl) (fun _ _ _ h => h) (Or.inl ⟨by rfl, fun _ _ => rfl⟩) hHeld ?_
            show wpAnyH _ _ _ _ _ _ _ (Act.put _ (some 122) _) _
            simp only [Act.put, List.setIfInBounds_toArray, List.set_cons_zero, List.set_cons_succ]
            refine wpAnyH_take (i := 14) (v := .bool false) rfl (by kernel_rfl) (by kernel_rfl) (by kernel_rfl) (fun _ _ _ h => h) (Or.inl ⟨by rfl, fun _ _ => rfl⟩) hHeld ?_
            show wpAnyH _ _ _ _ _ _ _ (Act.put _ (some 123) _) _
            simp only [Act.put, List.setIfInBounds_toArray, List.set_cons_zero, List.set_cons_succ]
            refine wpAnyH_take (i := 15) (v := .int .i64 0) rfl (by kernel_rfl) (by kernel_rfl) (by kernel_rfl) (fun _ _ _ h => h) (Or.inl ⟨by rfl, fun _ _ => rfl⟩) hHeld ?_
            show wpAnyH _ _ _ _ _ _ _ (Act.put _ (some 124) _) _
            simp only [Act.put, List.setIfInBounds_toArray, List.set_cons_zero, List.set_cons_succ]
            refine wpAnyH_take (i := 16) (v := .bool true) rfl (by kernel_rfl) (by kernel_rfl) (by kernel_rfl) (fun _ _ _ h => h) (yb (b := 0 == 0) (by rfl) (fun _ _ => rfl) rfl) hHeld ?_
            show wpAnyH _ _ _ _ _ _ _ (Act.put _ (some 125) _) _
            simp only [Act.put, List.setIfInBounds_toArray, List.set_cons_zero, List.set_cons_succ]
            refine wpAnyH_take (i := 17) (v := .bool true) rfl (by kernel_rfl) (by kernel_rfl) (by kernel_rfl) (fun _ _ _ h => h) (Or.inl ⟨by rfl, fun _ _ => rfl⟩) hHeld ?_
            show wpAnyH _ _ _ _ _ _ _ (Act.put _ (some 126) _) _
            simp only [Act.put, List.setIfInBounds_toArray, List.set_cons_zero, List.set_cons_succ]
            refine wpAnyH_take (i := 18) (v := .int .i64 (i : Int)) rfl (by kernel_rfl) (by kernel_rfl) (by kernel_rfl) (fun _ _ _ h => h) (Or.inl ⟨by rfl, fun _ _ => rfl⟩) hHeld ?_
            show wpAnyH _ _ _ _ _ _ _ (Act.put _ (some 127) _) _
            simp only [Act.put, List.setIfInBounds_toArray, List.set_cons_zero, List.set_cons_succ]
            refine wpAnyH_take (i := 19) (v := .pointer (some ⟨b16, i * 29, none⟩)) rfl (by kernel_rfl) (by kernel_rfl) (by kernel_rfl) (fun _ _ _ h => h) (Or.inl ⟨by rfl, fun wh hS => by go_simp⟩) hHeld ?_
            show wpAnyH _ _ _ _ _ _ _ (Act.put _ (some 128) _) _
            simp only [Act.put, List.setIfInBounds_toArray, List.set_cons_zero, List.set_cons_succ]
            refine wpAnyH_take (i := 20) (v := .pointer (some ⟨b16, i * 29 + 1, none⟩)) rfl (by kernel_rfl) (by kernel_rfl) (by kernel_rfl) (fun _ _ _ h => h) (Or.inl ⟨by rfl, fun _ _ => rfl⟩) hHeld ?_
            show wpAnyH _ _ _ _ _ _ _ (Act.put _ (some 129) _) _
            simp only [Act.put, List.setIfInBounds_toArray, List.set_cons_zero, List.set_cons_succ]
            refine wpAnyH_take (i := 21) (v := .int .i64 ((aT i).f 1)) rfl (by kernel_rfl) (by kernel_rfl) (by kernel_rfl) (fun _ _ _ h => h) (yieldsIf_cell (by rfl) rfl rfl (fun wh hS => hS.2.2.1.int i 1 hi8 (by decide) (by decide)) isInt3) hHeld ?_
            show wpAnyH _ _ _ _ _ _ _ (Act.put _ (some 130) _) _
            simp only [Act.put, List.setIfInBounds_toArray, List.set_cons_zero, List.set_cons_succ]
            refine wpAnyH_take (i := 22) (v := .pointer (some ⟨b14, 1, none⟩)) rfl (by kernel_rfl) (by kernel_rfl) (by kernel_rfl) (fun _ _ _ h => h) (Or.inl ⟨by rfl, fun _ _ => rfl⟩) hHeld ?_
            show wpAnyH _ _ _ _ _ _ _ (Act.put _ (some 131) _) _
            simp only [Act.put, List.setIfInBounds_toArray, List.set_cons_zero, List.set_cons_succ]
            refine wpAnyH_take (i := 23) (v := .int .i64 ((t i).f 1)) rfl (by kernel_rfl) (by kernel_rfl) (by kernel_rfl) (fun _ _ _ h => h) (yieldsIf_cell (by rfl) rfl rfl (fun wh hS => hS.2.1.int 1 (by decide) (by decide)) isInt3) hHeld ?_
            show wpAnyH _ _ _ _ _ _ _ (Act.put _ (some 132) _) _
            simp only [Act.put, List.setIfInBounds_toArray, List.set_cons_zero, List.set_cons_succ]
            refine wpAnyH_take (i := 24) (v := .bool false) rfl (by kernel_rfl) (by kernel_rfl) (by kernel_rfl) (fun _ _ _ h => h) (yb (b := ((aT i).f 1) != ((t i).f 1)) (by rfl) (fun _ _ => rfl) hpar) hHeld ?_
            show wpAnyH _ _ _ _ _ _ _ (Act.put _ (some 133) _) _
            simp only [Act.put, List.setIfInBounds_toArray, List.set_cons_zero, List.set_cons_succ]
            refine wpAnyH_take (i := 25) (v := .bool false) rfl (by kernel_rfl) (by kernel_rfl) (by kernel_rfl) (fun _ _ _ h => h) (Or.inl ⟨by rfl, fun _ _ => rfl⟩) hHeld ?_
            show wpAnyH _ _ _ _ _ _ _ (Act.put _ (some 134) _) _
            simp only [Act.put, List.setIfInBounds_toArray, List.set_cons_zero, List.set_cons_succ]
            refine wpAnyH_take (i := 26) (v := .bool false) rfl (by kernel_rfl) (by kernel_rfl) (by kernel_rfl) (fun _ _ _ h => h) (Or.inl ⟨by rfl, fun _ _ => rfl⟩) hHeld ?_
            show wpAnyH _ _ _ _ _ _ _ (Act.put _ (some 135) _) _
            simp only [Act.put, List.setIfInBounds_toArray, List.set_cons_zero, List.set_cons_succ]
            refine wpAnyH_done (by kernel_rfl) ?_ _
            obtain ⟨_, _, _, hwn⟩ := hHeld
            have HWk := hidI hwn
            clear hwn hneq1 hpar hqe
            go_wp2
            generalize w9.drew = wk at *
            cases hix : ((i : Int) == index)
            · have HNE : Hid ((i : Int) ≠ index) := by have : ((i : Int) == index) = false := hix; exact hidI (by simpa using this)
              rw [rounds_succ]
              have hTk := hT.below HWk.out hTl
              have hpk := hp0.below HWk.out hl14
              have hMk : M ≤ wk.heap.size := by rw [HMM.out]; exact HWk.out.size
              go_wp2_with (first
                | ((with_reducible refine g_load 29 ?_ rfl); refine st_loadT (f := three aT bT cT) (k := 1) (by rfl) rfl rfl hTk (by decide) ?_)
                | ((with_reducible refine g_alloc 29 ?_ rfl); refine st_alloc29 (by rfl) rfl ?_; have hz := Blk.new wk tz; have hp1 := hpk.alloc (.cells (tcs tz) 29); have HW1 := hidI (HWk.out.alloc hMk (.cells (tcs tz) 29)); clear hTk hpk HWk)
                | ((with_reducible refine g_store 29 ?_ rfl); refine st_store29 (x := .tmp 16) (by rfl) rfl rfl rfl hz ?_; intro w2 hx2 hu2; have hp2 := hu2.pblk hp1 (by omega); have HW2 := hidI (HW1.out.trans (hu2.below hMk)); have hs2 := hu2.size; rw [World.size_alloc] at hs2; have hM2 : M ≤ w2.heap.size := (by omega); have HS2 := hidI hs2; clear hs2 hu2 hz hp1 HW1)
                | ((with_reducible refine g_load 28 ?_ rfl); refine st_load28 (k := i) (by rfl) rfl rfl hx2 hi8 ?_)
                | ((with_reducible refine g_alloc 28 ?_ rfl); refine st_alloc28 (by rfl) rfl ?_; have hqz := PBlk.new w2 zp; have hp3 := hp2.alloc (.cells (pcs zp) 28); have hx3 := hx2.alloc (.cells (pcs zp) 28); have HW3 := hidI (HW2.out.alloc hM2 (.cells (pcs zp) 28)); clear hp2 hx2 HW2)
                | ((with_reducible refine g_store 28 ?_ rfl); refine st_pstore28 (by rfl) rfl rfl rfl hqz ?_; intro w4 hqa hu4; have hb17 : wk.heap.size < w2.heap.size := (by have := HS2.out; omega); have hp14 := hu4.pblk hp3 (by omega); have hx16 := hu4.blk hx3 (by omega); have HWx := hidI (HW3.out.trans (hu4.below (by omega))); clear hqz hu4 hp3 hx3 HW3 HS2))
              generalize wk.heap.size = b16 at *
              generalize w2.heap.size = b17 at *
              have hqa : PBlk w4.drew b17 (bT i) := hqa
              refine wp_region_held_drew (S := fun wh => PBlk wh b14 (t i) ∧ Blk wh b16 bT ∧ Below M W0 wh) (by kernel_rfl) (⟨hp14.drew, hx16.drew, HWx.out.drew⟩) (fun hHeld => ?_)
              show wpAnyH _ _ _ _ _ (15 + 1) #[false, false, false, false, false, false, false, false, false, false, false, false, false, false, false, false] _ _
              refine wpAnyH_take (i := 0) (v := .pointer (some ⟨b14, 2, none⟩)) rfl (by kernel_rfl) (by kernel_rfl) (by kernel_rfl) (fun _ _ _ h => h) (Or.inl ⟨by rfl, fun _ _ => rfl⟩) hHeld ?_
              show wpAnyH _ _ _ _ _ _ _ (Act.put _ (some 97) _) _
              simp only [Act.put, List.setIfInBounds_toArray, List.set_cons_zero, List.set_cons_succ]
              refine wpAnyH_take (i := 1) (v := .int .i64 ((t i).f 2)) rfl (by kernel_rfl) (by kernel_rfl) (by kernel_rfl) (fun _ _ _ h => h) (yieldsIf_cell (by rfl) rfl rfl (fun wh hS => hS.1.int 2 (by decide) (by decide)) isInt3) hHeld ?_
              show wpAnyH _ _ _ _ _ _ _ (Act.put _ (some 98) _) _
              simp only [Act.put, List.setIfInBounds_toArray, List.set_cons_zero, List.set_cons_succ]
              refine wpAnyH_take (i := 2) (v := .pointer (some ⟨b14, 25, none⟩)) rfl (by kernel_rfl) (by kernel_rfl) (by kernel_rfl) (fun _ _ _ h => h) (Or.inl ⟨by rfl, fun _ _ => rfl⟩) hHeld ?_
              show wpAnyH _ _ _ _ _ _ _ (Act.put _ (some 99) _) _
              simp only [Act.put, List.setIfInBounds_toArray, List.set_cons_zero, List.set_cons_succ]
              refine wpAnyH_take (i := 3) (v := .int .i64 ((t i).f 25)) rfl (by kernel_rfl) (by kernel_rfl) (by kernel_rfl) (fun _ _ _ h => h) (yieldsIf_cell (by rfl) rfl rfl (fun wh hS => hS.1.int 25 (by decide) (by decide)) isInt3) hHeld ?_
              show wpAnyH _ _ _ _ _ _ _ (Act.put _ (some 100) _) _
              simp only [Act.put, List.setIfInBounds_toArray, List.set_cons_zero, List.set_cons_succ]
              refine wpAnyH_take (i := 4) (v := .pointer (some ⟨b14, 26, none⟩)) rfl (by kernel_rfl) (by kernel_rfl) (by kernel_rfl) (fun _ _ _ h => h) (Or.inl ⟨by rfl, fun _ _ => rfl⟩) hHeld ?_
              show wpAnyH _ _ _ _ _ _ _ (Act.put _ (some 101) _) _
              simp only [Act.put, List.setIfInBounds_toArray, List.set_cons_zero, List.set_cons_succ]
              refine wpAnyH_take (i := 5) (v := .int .i64 ((t i).f 26)) rfl (by kernel_rfl) (by kernel_rfl) (by kernel_rfl) (fun _ _ _ h => h) (yieldsIf_cell (by rfl) rfl rfl (fun wh hS => hS.1.int 26 (by decide) (by decide)) isInt3) hHeld ?_
              show wpAnyH _ _ _ _ _ _ _ (Act.put _ (some 102) _) _
              simp only [Act.put, List.setIfInBounds_toArray, List.set_cons_zero, List.set_cons_succ]
              refine wpAnyH_take (i := 6) (v := .pointer (some ⟨b14, 1, none⟩)) rfl (by kernel_rfl) (by kernel_rfl) (by kernel_rfl) (fun _ _ _ h => h) (Or.inl ⟨by rfl, fun _ _ => rfl⟩) hHeld ?_
              show wpAnyH _ _ _ _ _ _ _ (Act.put _ (some 103) _) _
              simp only [Act.put, List.setIfInBounds_toArray, List.set_cons_zero, List.set_cons_succ]
              refine wpAnyH_take (i := 7) (v := .int .i64 ((t i).f 1)) rfl (by kernel_rfl) (by kernel_rfl) (by kernel_rfl) (fun _ _ _ h => h) (yieldsIf_cell (by rfl) rfl rfl (fun wh hS => hS.1.int 1 (by decide) (by decide)) isInt3) hHeld ?_
              show wpAnyH _ _ _ _ _ _ _ (Act.put _ (some 104) _) _
              simp only [Act.put, List.setIfInBounds_toArray, List.set_cons_zero, List.set_cons_succ]
              refine wpAnyH_take (i := 8) (v := .pointer (some ⟨b17, 2, none⟩)) rfl (by kernel_rfl) (by kernel_rfl) (by kernel_rfl) (fun _ _ _ h => h) (Or.inl ⟨by rfl, fun _ _ => rfl⟩) hHeld ?_
              show wpAnyH _ _ _ _ _ _ _ (Act.put _ (some 105) _) _
              simp only [Act.put, List.setIfInBounds_toArray, List.set_cons_zero, List.set_cons_succ]
              refine wpAnyH_all (rs := [9]) (by kernel_rfl) (by simp) (fun i hi' => ?_)
              obtain rfl : i = 9 := by simpa using hi'
              clear hi'
              refine draw_pfield _ (.tmp 105) (.tmp 98) b17 2 ((t i).f 2) (bT i) rfl (by rfl) rfl rfl rfl hqa (by decide) (by decide) (fun w9 hqb hu9 => ?_)
              have hHeld := And.intro (hu9.pblk hHeld.1 (by omega)) (And.intro (hu9.blk hHeld.2.1 (by omega)) (hHeld.2.2.trans (hu9.below (by omega))))
              refine ⟨hHeld, ?_⟩
              clear hu9 hqa
              refine wpAnyH_take (i := 10) (v := .pointer (some ⟨b17, 25, none⟩)) rfl (by kernel_rfl) (by kernel_rfl) (by kernel_rfl) (fun _ _ _ h => h) (Or.inl ⟨by rfl, fun _ _ => rfl⟩) hHeld ?_
              show wpAnyH _ _ _ _ _ _ _ (Act.put _ (some 106) _) _
              simp only [Act.put, List.setIfInBounds_toArray, List.set_cons_zero, List.set_cons_succ]
              refine wpAnyH_all (rs := [11]) (by kernel_rfl) (by simp) (fun i hi' => ?_)
              obtain rfl : i = 11 := by simpa using hi'
              clear hi'
              refine draw_pfield _ (.tmp 106) (.tmp 100) b17 25 ((t i).f 25) (setf (bT i) 2 ((t i).f 2)) rfl (by rfl) rfl rfl rfl hqb (by decide) (by decide) (fun w9 hqc hu9 => ?_)
              have hHeld := And.intro (hu9.pblk hHeld.1 (by omega)) (And.intro (hu9.blk hHeld.2.1 (by omega)) (hHeld.2.2.trans (hu9.below (by omega))))
              refine ⟨hHeld, ?_⟩
              clear hu9 hqb
              refine wpAnyH_take (i := 12) (v := .pointer (some ⟨b17, 26, none⟩)) rfl (by kernel_rfl) (by kernel_rfl) (by kernel_rfl) (fun _ _ _ h => h) (Or.inl ⟨by rfl, fun _ _ => rfl⟩) hHeld ?_
              show wpAnyH _ _ _ _ _ _ _ (Act.put _ (some 107) _) _
              simp only [Act.put, List.setIfInBounds_toArray, List.set_cons_zero, List.set_cons_succ]
              refine wpAnyH_all (rs := [13]) (by kernel_rfl) (by simp) (fun i hi' => ?_)
              obtain rfl : i = 13 := by simpa using hi'
              clear hi'
              refine draw_pfield _ (.tmp 107) (.tmp 102) b17 26 ((t i).f 26) (setf (setf (bT i) 2 ((t i).f 2)) 25 ((t i).f 25)) rfl (by rfl) rfl rfl rfl hqc (by decide) (by decide) (fun w9 hqd hu9 => ?_)
              have hHeld := And.intro (hu9.pblk hHeld.1 (by omega)) (And.intro (hu9.blk hHeld.2.1 (by omega)) (hHeld.2.2.trans (hu9.below (by omega))))
              refine ⟨hHeld, ?_⟩
              clear hu9 hqc
              refine wpAnyH_take (i := 14) (v := .pointer (some ⟨b17, 1, none⟩)) rfl (by kernel_rfl) (by kernel_rfl) (by kernel_rfl) (fun _ _ _ h => h) (Or.inl ⟨by rfl, fun _ _ => rfl⟩) hHeld ?_
              show wpAnyH _ _ _ _ _ _ _ (Act.put _ (some 108) _) _
              simp only [Act.put, List.setIfInBounds_toArray, List.set_cons_zero, List.set_cons_succ]
              refine wpAnyH_all (rs := [15]) (by kernel_rfl) (by simp) (fun i hi' => ?_)
              obtain rfl : i = 15 := by simpa using hi'
              clear hi'
              refine draw_pfield _ (.tmp 108) (.tmp 104) b17 1 ((t i).f 1) (setf (setf (setf (bT i) 2 ((t i).f 2)) 25 ((t i).f 25)) 26 ((t i).f 26)) rfl (by rfl) rfl rfl rfl hqd (by decide) (by decide) (fun w9 hqe hu9 => ?_)
              have hHeld := And.intro (hu9.pblk hHeld.1 (by omega)) (And.intro (hu9.blk hHeld.2.1 (by omega)) (hHeld.2.2.trans (hu9.below (by omega))))
              refine ⟨hHeld, ?_⟩
              clear hu9 hqd
              refine wpAnyH_done (by kernel_rfl) ?_ _
              clear hp14 hx16 HWx
              go_wp2
              have hneq1 : (!eqP (setf (setf (setf (setf (bT i) 2 ((t i).f 2)) 25 ((t i).f 25)) 26 ((t i).f 26)) 1 ((t i).f 1)) (t i)) = false := eqP_no (keep_back (HBK.out i hi8 HNE.out HL3.out))
              refine wp_region_held_drew (S := fun wh => PBlk wh b17 (setf (setf (setf (setf (bT i) 2 ((t i).f 2)) 25 ((t i).f 25)) 26 ((t i).f 26)) 1 ((t i).f 1)) ∧ PBlk wh b14 (t i) ∧ Blk wh b16 bT ∧ Below M W0 wh) (by kernel_rfl) (⟨hqe.drew, hHeld.1.drew, hHeld.2.1.drew, hHeld.2.2.drew⟩) (fun hHeld => ?_)
              show wpAnyH _ _ _ _ _ (26 + 1) #[false, false, false, false, false, false, false, false, false, false, false, false, false, false, false, false, false, false, false, false, false, false, false, false, false, false, false] _ _
              refine wpAnyH_take (i := 0) (v := .agg (pcs (setf (setf (setf (setf (bT i) 2 ((t i).f 2)) 25 ((t i).f 25)) 26 ((t i).f 26)) 1 ((t i).f 1)))) rfl (by kernel_rfl) (by kernel_rfl) (by kernel_rfl) (fun _ _ _ h => h) (yieldsIf_row (by rfl) rfl rfl (fun wh hS => hS.1.range) Try.underlying28 rfl (info28l _)) hHeld ?_
              show wpAnyH _ _ _ _ _ _ _ (Act.put _ (some 109) _) _
              simp only [Act.put, List.setIfInBounds_toArray, List.set_cons_zero, List.set_cons_succ]
              refine wpAnyH_take (i := 1) (v := .agg (pcs (t i))) rfl (by kernel_rfl) (by kernel_rfl) (by kernel_rfl) (fun _ _ _ h => h) (yieldsIf_row (by rfl) rfl rfl (fun wh hS => hS.2.1.range) Try.underlying28 rfl (info28l _)) hHeld ?_
              show wpAnyH _ _ _ _ _ _ _ (Act.put _ (some 110) _) _
              simp only [Act.put, List.setIfInBounds_toArray, List.set_cons_zero, List.set_cons_succ]
              refine wpAnyH_take (i := 2) (v := .bool false) rfl (by kernel_rfl) (by kernel_rfl) (by kernel_rfl) (fun _ _ _ h => h) (yieldsIf_neq28 (by rfl) rfl rfl rfl hneq1) hHeld ?_
              show wpAnyH _ _ _ _ _ _ _ (Act.put _ (some 111) _) _
              simp only [Act.put, List.setIfInBounds_toArray, List.set_cons_zero, List.set_cons_succ]
              refine wpAnyH_take (i := 3) (v := .bool false) rfl (by kernel_rfl) (by kernel_rfl) (by kernel_rfl) (fun _ _ _ h => h) (Or.inl ⟨by rfl, fun _ _ => rfl⟩) hHeld ?_
              show wpAnyH _ _ _ _ _ _ _ (Act.put _ (some 112) _) _
              simp only [Act.put, List.setIfInBounds_toArray, List.set_cons_zero, List.set_cons_succ]
              refine wpAnyH_take (i := 4) (v := .int .i64 1) rfl (by kernel_rfl) (by kernel_rfl) (by kernel_rfl) (fun _ _ _ h => h) (Or.inl ⟨by rfl, fun _ _ => rfl⟩) hHeld ?_
              show wpAnyH _ _ _ _ _ _ _ (Act.put _ (some 113) _) _
              simp only [Act.put, List.setIfInBounds_toArray, List.set_cons_zero, List.set_cons_succ]
              refine wpAnyH_take (i := 5) (v := .bool false) rfl (by kernel_rfl) (by kernel_rfl) (by kernel_rfl) (fun _ _ _ h => h) (yb (b := 1 == 2) (by rfl) (fun _ _ => rfl) rfl) hHeld ?_
              show wpAnyH _ _ _ _ _ _ _ (Act.put _ (some 114) _) _
              simp only [Act.put, List.setIfInBounds_toArray, List.set_cons_zero, List.set_cons_succ]
              refine wpAnyH_take (i := 6) (v := .bool false) rfl (by kernel_rfl) (by kernel_rfl) (by kernel_rfl) (fun _ _ _ h => h) (Or.inl ⟨by rfl, fun _ _ => rfl⟩) hHeld ?_
              show wpAnyH _ _ _ _ _ _ _ (Act.put _ (some 115) _) _
              simp only [Act.put, List.setIfInBounds_toArray, List.set_cons_zero, List.set_cons_succ]
              refine wpAnyH_take (i := 7) (v := undef) rfl (by kernel_rfl) (by kernel_rfl) (by kernel_rfl) (fun _ _ _ h => h) (Or.inr ⟨by rfl, rfl⟩) hHeld ?_
              show wpAnyH _ _ _ _ _ _ _ (Act.put _ (some 116) _) _
              simp only [Act.put, List.setIfInBounds_toArray, List.set_cons_zero, List.set_cons_succ]
              refine wpAnyH_take (i := 8) (v := undef) rfl (by kernel_rfl) (by kernel_rfl) (by kernel_rfl) (fun _ _ _ h => h) (Or.inr ⟨by rfl, rfl⟩) hHeld ?_
              show wpAnyH _ _ _ _ _ _ _ (Act.put _ (some 117) _) _
              simp only [Act.put, List.setIfInBounds_toArray, List.set_cons_zero, List.set_cons_succ]
              refine wpAnyH_take (i := 9) (v := undef) rfl (by kernel_rfl) (by kernel_rfl) (by kernel_rfl) (fun _ _ _ h => h) (Or.inr ⟨by rfl, rfl⟩) hHeld ?_
              show wpAnyH _ _ _ _ _ _ _ (Act.put _ (some 118) _) _
              simp only [Act.put, List.setIfInBounds_toArray, List.set_cons_zero, List.set_cons_succ]
              refine wpAnyH_take (i := 10) (v := undef) rfl (by kernel_rfl) (by kernel_rfl) (by kernel_rfl) (fun _ _ _ h => h) (Or.inr ⟨by rfl, rfl⟩) hHeld ?_
              show wpAnyH _ _ _ _ _ _ _ (Act.put _ (some 119) _) _
              simp only [Act.put, List.setIfInBounds_toArray, List.set_cons_zero, List.set_cons_succ]
              refine wpAnyH_take (i := 11) (v := undef) rfl (by kernel_rfl) (by kernel_rfl) (by kernel_rfl) (fun _ _ _ h => h) (Or.inr ⟨by rfl, rfl⟩) hHeld ?_
              show wpAnyH _ _ _ _ _ _ _ (Act.put _ (some 120) _) _
              simp only [Act.put, List.setIfInBounds_toArray, List.set_cons_zero, List.set_cons_succ]
              refine wpAnyH_take (i := 12) (v := .bool false) rfl (by kernel_rfl) (by kernel_rfl) (by kernel_rfl) (fun _ _ _ h => h) (Or.inl ⟨by rfl, fun _ _ => rfl⟩) hHeld ?_
              show wpAnyH _ _ _ _ _ _ _ (Act.put _ (some 121) _) _
              simp only [Act.put, List.setIfInBounds_toArray, List.set_cons_zero, List.set_cons_succ]
              refine wpAnyH_take (i := 13) (v := .bool false) rfl (by kernel_rfl) (by kernel_rfl) (by kernel_rfl) (fun _ _ _ h => h) (Or.inl ⟨by rfl, fun _ _ => rfl⟩) hHeld ?_
              show wpAnyH _ _ _ _ _ _ _ (Act.put _ (some 122) _) _
              simp only [Act.put, List.setIfInBounds_toArray, List.set_cons_zero, List.set_cons_succ]
              refine wpAnyH_take (i := 14) (v := .bool false) rfl (by kernel_rfl) (by kernel_rfl) (by kernel_rfl) (fun _ _ _ h => h) (Or.inl ⟨by rfl, fun _ _ => rfl⟩) hHeld ?_
              show wpAnyH _ _ _ _ _ _ _ (Act.put _ (some 123) _) _
              simp only [Act.put, List.setIfInBounds_toArray, List.set_cons_zero, List.set_cons_succ]
              refine wpAnyH_take (i := 15) (v := .int .i64 1) rfl (by kernel_rfl) (by kernel_rfl) (by kernel_rfl) (fun _ _ _ h => h) (Or.inl ⟨by rfl, fun _ _ => rfl⟩) hHeld ?_
              show wpAnyH _ _ _ _ _ _ _ (Act.put _ (some 124) _) _
              simp only [Act.put, List.setIfInBounds_toArray, List.set_cons_zero, List.set_cons_succ]
              refine wpAnyH_take (i := 16) (v := .bool false) rfl (by kernel_rfl) (by kernel_rfl) (by kernel_rfl) (fun _ _ _ h => h) (yb (b := 1 == 0) (by rfl) (fun _ _ => rfl) rfl) hHeld ?_
              show wpAnyH _ _ _ _ _ _ _ (Act.put _ (some 125) _) _
              simp only [Act.put, List.setIfInBounds_toArray, List.set_cons_zero, List.set_cons_succ]
              refine wpAnyH_take (i := 17) (v := .bool false) rfl (by kernel_rfl) (by kernel_rfl) (by kernel_rfl) (fun _ _ _ h => h) (Or.inl ⟨by rfl, fun _ _ => rfl⟩) hHeld ?_
              show wpAnyH _ _ _ _ _ _ _ (Act.put _ (some 126) _) _
              simp only [Act.put, List.setIfInBounds_toArray, List.set_cons_zero, List.set_cons_succ]
              refine wpAnyH_take (i := 18) (v := undef) rfl (by kernel_rfl) (by kernel_rfl) (by kernel_rfl) (fun _ _ _ h => h) (Or.inr ⟨by rfl, rfl⟩) hHeld ?_
              show wpAnyH _ _ _ _ _ _ _ (Act.put _ (some 127) _) _
              simp only [Act.put, List.setIfInBounds_toArray, List.set_cons_zero, List.set_cons_succ]
              refine wpAnyH_take (i := 19) (v := undef) rfl (by kernel_rfl) (by kernel_rfl) (by kernel_rfl) (fun _ _ _ h => h) (Or.inr ⟨by rfl, rfl⟩) hHeld ?_
              show wpAnyH _ _ _ _ _ _ _ (Act.put _ (some 128) _) _
              simp only [Act.put, List.setIfInBounds_toArray, List.set_cons_zero, List.set_cons_succ]
              refine wpAnyH_take (i := 20) (v := undef) rfl (by kernel_rfl) (by kernel_rfl) (by kernel_rfl) (fun _ _ _ h => h) (Or.inr ⟨by rfl, rfl⟩) hHeld ?_
              show wpAnyH _ _ _ _ _ _ _ (Act.put _ (some 129) _) _
              simp only [Act.put, List.setIfInBounds_toArray, List.set_cons_zero, List.set_cons_succ]
              refine wpAnyH_take (i := 21) (v := undef) rfl (by kernel_rfl) (by kernel_rfl) (by kernel_rfl) (fun _ _ _ h => h) (Or.inr ⟨by rfl, rfl⟩) hHeld ?_
              show wpAnyH _ _ _ _ _ _ _ (Act.put _ (some 130) _) _
              simp only [Act.put, List.setIfInBounds_toArray, List.set_cons_zero, List.set_cons_succ]
              refine wpAnyH_take (i := 22) (v := undef) rfl (by kernel_rfl) (by kernel_rfl) (by kernel_rfl) (fun _ _ _ h => h) (Or.inr ⟨by rfl, rfl⟩) hHeld ?_
              show wpAnyH _ _ _ _ _ _ _ (Act.put _ (some 131) _) _
              simp only [Act.put, List.setIfInBounds_toArray, List.set_cons_zero, List.set_cons_succ]
              refine wpAnyH_take (i := 23) (v := undef) rfl (by kernel_rfl) (by kernel_rfl) (by kernel_rfl) (fun _ _ _ h => h) (Or.inr ⟨by rfl, rfl⟩) hHeld ?_
              show wpAnyH _ _ _ _ _ _ _ (Act.put _ (some 132) _) _
              simp only [Act.put, List.setIfInBounds_toArray, List.set_cons_zero, List.set_cons_succ]
              refine wpAnyH_take (i := 24) (v := undef) rfl (by kernel_rfl) (by kernel_rfl) (by kernel_rfl) (fun _ _ _ h => h) (Or.inr ⟨by rfl, rfl⟩) hHeld ?_
              show wpAnyH _ _ _ _ _ _ _ (Act.put _ (some 133) _) _
              simp only [Act.put, List.setIfInBounds_toArray, List.set_cons_zero, List.set_cons_succ]
              refine wpAnyH_take (i := 25) (v := .bool false) rfl (by kernel_rfl) (by kernel_rfl) (by kernel_rfl) (fun _ _ _ h => h) (Or.inl ⟨by rfl, fun _ _ => rfl⟩) hHeld ?_
              show wpAnyH _ _ _ _ _ _ _ (Act.put _ (some 134) _) _
              simp only [Act.put, List.setIfInBounds_toArray, List.set_cons_zero, List.set_cons_succ]
              refine wpAnyH_take (i := 26) (v := .bool false) rfl (by kernel_rfl) (by kernel_rfl) (by kernel_rfl) (fun _ _ _ h => h) (Or.inl ⟨by rfl, fun _ _ => rfl⟩) hHeld ?_
              show wpAnyH _ _ _ _ _ _ _ (Act.put _ (some 135) _) _
              simp only [Act.put, List.setIfInBounds_toArray, List.set_cons_zero, List.set_cons_succ]
              refine wpAnyH_done (by kernel_rfl) ?_ _
              obtain ⟨_, _, _, hwn⟩ := hHeld
              have HWk := hidI hwn
              clear hwn hneq1 hqe
              go_wp2
              generalize w9.drew = wk at *
              rw [rounds_succ]
              have hTk := hT.below HWk.out hTl
              have hMk : M ≤ wk.heap.size := by rw [HMM.out]; exact HWk.out.size
              go_wp2_with (first
                | ((with_reducible refine g_load 29 ?_ rfl); refine st_loadT (f := three aT bT cT) (k := 2) (by rfl) rfl rfl hTk (by decide) ?_)
                | ((with_reducible refine g_alloc 29 ?_ rfl); refine st_alloc29 (by rfl) rfl ?_; have hz := Blk.new wk tz; have HW1 := hidI (HWk.out.alloc hMk (.cells (tcs tz) 29)); clear hTk HWk)
                | ((with_reducible refine g_store 29 ?_ rfl); refine st_store29 (x := .tmp 16) (by rfl) rfl rfl rfl hz ?_; intro w2 hx2 hu2; have HWk := hidI (HW1.out.trans (hu2.below hMk)); clear hu2 hz HW1 hx2))
              clear hMk
              generalize w2 = wk at *
              rw [rounds_succ]
              go_wp2
              go_roundw
              case measure => simp [intOf]; omega
              case rel => exact ⟨i + 1, by omega, by go_num, HZ.out.trans (HWk.out.mono hM1)⟩
            · rw [rounds_succ]
              have hTk := hT.below HWk.out hTl
              have hMk : M ≤ wk.heap.size := by rw [HMM.out]; exact HWk.out.size
              go_wp2_with (first
                | ((with_reducible refine g_load 29 ?_ rfl); refine st_loadT (f := three aT bT cT) (k := 1) (by rfl) rfl rfl hTk (by decide) ?_)
                | ((with_reducible refine g_alloc 29 ?_ rfl); refine st_alloc29 (by rfl) rfl ?_; have hz := Blk.new wk tz; have HW1 := hidI (HWk.out.alloc hMk (.cells (tcs tz) 29)); clear hTk HWk)
                | ((with_reducible refine g_store 29 ?_ rfl); refine st_store29 (x := .tmp 16) (by rfl) rfl rfl rfl hz ?_; intro w2 hx2 hu2; have HWk := hidI (HW1.out.trans (hu2.below hMk)); clear hu2 hz HW1 hx2))
              clear hMk
              generalize w2 = wk at *
              rw [rounds_succ]
              have hTk := hT.below HWk.out hTl
              have hMk : M ≤ wk.heap.size := by rw [HMM.out]; exact HWk.out.size
              go_wp2_with (first
                | ((with_reducible refine g_load 29 ?_ rfl); refine st_loadT (f := three aT bT cT) (k := 2) (by rfl) rfl rfl hTk (by decide) ?_)
                | ((with_reducible refine g_alloc 29 ?_ rfl); refine st_alloc29 (by rfl) rfl ?_; have hz := Blk.new wk tz; have HW1 := hidI (HWk.out.alloc hMk (.cells (tcs tz) 29)); clear hTk HWk)
                | ((with_reducible refine g_store 29 ?_ rfl); refine st_store29 (x := .tmp 16) (by rfl) rfl rfl rfl hz ?_; intro w2 hx2 hu2; have HWk := hidI (HW1.out.trans (hu2.below hMk)); clear hu2 hz HW1 hx2))
              clear hMk
              generalize w2 = wk at *
              rw [rounds_succ]
              go_wp2
              go_roundw
              case measure => simp [intOf]; omega
              case rel => exact ⟨i + 1, by omega, by go_num, HZ.out.trans (HWk.out.mono hM1)⟩
        · have HL3 : Hid ((t i).f 2 ≠ 3) := by have : (t i).f 2 = 1 := (by simpa using h1); show (t i).f 2 ≠ 3; omega
          go_wp2_with (first
            | ((with_reducible refine g_index 29 ?_ rfl); refine st_index29 (by rfl) rfl rfl rfl hi8 ?_)
            | ((with_reducible refine g_alloc 28 ?_ rfl); refine st_alloc28 (by rfl) rfl ?_; have hq1 := PBlk.new wr zp; have HZ1 := hidI (HZ.out.alloc HZ.out.size (.cells (pcs zp) 28)); clear HZ)
            | ((with_reducible refine g_store 28 ?_ rfl); refine st_pstore28 (by rfl) rfl rfl rfl hq1 ?_; intro w2 hq2 hu2; have HZ2 := hidI (HZ1.out.trans (hu2.below hsz)); have d2 := hq2.int 2 (by decide) (by decide); have ha2 := hal.below HZ2.out hal.lt; have hb2 := hbl.below HZ2.out hbl.lt; have hc2 := hcl.below HZ2.out hcl.lt; clear hq1 hu2 HZ1)
            | ((with_reducible refine g_load 29 ?_ rfl); refine st_load29 (x := .tmp 7) (by rfl) rfl rfl ha2 ?_)
            | ((with_reducible refine g_load 29 ?_ rfl); refine st_load29 (x := .tmp 8) (by rfl) rfl rfl hb2 ?_)
            | ((with_reducible refine g_load 29 ?_ rfl); refine st_load29 (x := .tmp 9) (by rfl) rfl rfl hc2 ?_)
            | ((with_reducible refine g_bslice 43 ?_ rfl); refine st_bslice43 (three aT bT cT) (by rfl) rfl rfl rfl rfl ?_; intro C hT; have hp0 := hq2.alloc (.cells C 29); have HZ := hidI (HZ2.out.alloc HZ2.out.size (.cells C 29)); clear ha2 hb2 hc2 hq2 HZ2 d2))
          generalize wr.heap.size = b14 at *
          generalize w2.heap.size = b72 at *
          generalize (w2.alloc (.cells C 29)) = W0 at *
          have hM1 := HZ.out.size
          have HWk := hidI (Below.refl W0.heap.size W0)
          have hl14 := hp0.lt
          clear hsz
          obtain ⟨M, hM⟩ : ∃ M, M = W0.heap.size := ⟨_, rfl⟩
          rw [← hM] at HWk hl14 hM1
          have hTl : b72 < M := by rw [hM]; exact hT.lt
          have HMM := hidI hM
          clear hM
          refine wp_loop_rounds 4 ?_
          obtain ⟨wk, hwk⟩ : ∃ wk, wk = W0 := ⟨_, rfl⟩
          have HWk : Hid (Below M W0 wk) := by rw [hwk]; exact HWk.out
          rw [← hwk]
          clear hwk
          rw [rounds_succ]
          have hTk := hT.below HWk.out hTl
          have hpk := hp0.below HWk.out hl14
          have hMk : M ≤ wk.heap.size := by rw [HMM.out]; exact HWk.out.size
          go_wp2_with (first
            | ((with_reducible refine g_load 29 ?_ rfl); refine st_loadT (f := three aT bT cT) (k := 0) (by rfl) rfl rfl hTk (by decide) ?_)
            | ((with_reducible refine g_alloc 29 ?_ rfl); refine st_alloc29 (by rfl) rfl ?_; have hz := Blk.new wk tz; have hp1 := hpk.alloc (.cells (tcs tz) 29); have HW1 := hidI (HWk.out.alloc hMk (.cells (tcs tz) 29)); clear hTk hpk HWk)
            | ((with_reducible refine g_store 29 ?_ rfl); refine st_store29 (x := .tmp 16) (by rfl) rfl rfl rfl hz ?_; intro w2 hx2 hu2; have hp2 := hu2.pblk hp1 (by omega); have HW2 := hidI (HW1.out.trans (hu2.below hMk)); have hs2 := hu2.size; rw [World.size_alloc] at hs2; have hM2 : M ≤ w2.heap.size := (by omega); have HS2 := hidI hs2; clear hs2 hu2 hz hp1 HW1)
            | ((with_reducible refine g_load 28 ?_ rfl); refine st_load28 (k := i) (by rfl) rfl rfl hx2 hi8 ?_)
            | ((with_reducible refine g_alloc 28 ?_ rfl); refine st_alloc28 (by rfl) rfl ?_; have hqz := PBlk.new w2 zp; have hp3 := hp2.alloc (.cells (pcs zp) 28); have hx3 := hx2.alloc (.cells (pcs zp) 28); have HW3 := hidI (HW2.out.alloc hM2 (.cells (pcs zp) 28)); clear hp2 hx2 HW2)
            | ((with_reducible refine g_store 28 ?_ rfl); refine st_pstore28 (by rfl) rfl rfl rfl hqz ?_; intro w4 hqa hu4; have hb17 : wk.heap.size < w2.heap.size := (by have := HS2.out; omega); have hp14 := hu4.pblk hp3 (by omega); have hx16 := hu4.blk hx3 (by omega); have HWx := hidI (HW3.out.trans (hu4.below (by omega))); clear hqz hu4 hp3 hx3 HW3 HS2))
          generalize wk.heap.size = b16 at *
          generalize w2.heap.size = b17 at *
          have hqa : PBlk w4.drew b17 (aT i) := hqa
          refine wp_region_held_drew (S := fun wh => PBlk wh b14 (t i) ∧ Blk wh b16 aT ∧ Below M W0 wh) (by kernel_rfl) (⟨hp14.drew, hx16.drew, HWx.out.drew⟩) (fun hHeld => ?_)
          show wpAnyH _ _ _ _ _ (15 + 1) #[false, false, false, false, false, false, false, false, false, false, false, false, false, false, false, false] _ _
          refine wpAnyH_take (i := 0) (v := .pointer (some ⟨b14, 2, none⟩)) rfl (by kernel_rfl) (by kernel_rfl) (by kernel_rfl) (fun _ _ _ h => h) (Or.inl ⟨by rfl, fun _ _ => rfl⟩) hHeld ?_
          show wpAnyH _ _ _ _ _ _ _ (Act.put _ (some 97) _) _
          simp only [Act.put, List.setIfInBounds_toArray, List.set_cons_zero, List.set_cons_succ]
          refine wpAnyH_take (i := 1) (v := .int .i64 ((t i).f 2)) rfl (by kernel_rfl) (by kernel_rfl) (by kernel_rfl) (fun _ _ _ h => h) (yieldsIf_cell (by rfl) rfl rfl (fun wh hS => hS.1.int 2 (by decide) (by decide)) isInt3) hHeld ?_
          show wpAnyH _ _ _ _ _ _ _ (Act.put _ (some 98) _) _
          simp only [Act.put, List.setIfInBounds_toArray, List.set_cons_zero, List.set_cons_succ]
          refine wpAnyH_take (i := 2) (v := .pointer (some ⟨b14, 25, none⟩)) rfl (by kernel_rfl) (by kernel_rfl) (by kernel_rfl) (fun _ _ _ h => h) (Or.inl ⟨by rfl, fun _ _ => rfl⟩) hHeld ?_
          show wpAnyH _ _ _ _ _ _ _ (Act.put _ (some 99) _) _
          simp only [Act.put, List.setIfInBounds_toArray, List.set_cons_zero, List.set_cons_succ]
          refine wpAnyH_take (i := 3) (v := .int .i64 ((t i).f 25)) rfl (by kernel_rfl) (by kernel_rfl) (by kernel_rfl) (fun _ _ _ h => h) (yieldsIf_cell (by rfl) rfl rfl (fun wh hS => hS.1.int 25 (by decide) (by decide)) isInt3) hHeld ?_
          show wpAnyH _ _ _ _ _ _ _ (Act.put _ (some 100) _) _
          simp only [Act.put, List.setIfInBounds_toArray, List.set_cons_zero, List.set_cons_succ]
          refine wpAnyH_take (i := 4) (v := .pointer (some ⟨b14, 26, none⟩)) rfl (by kernel_rfl) (by kernel_rfl) (by kernel_rfl) (fun _ _ _ h => h) (Or.inl ⟨by rfl, fun _ _ => rfl⟩) hHeld ?_
          show wpAnyH _ _ _ _ _ _ _ (Act.put _ (some 101) _) _
          simp only [Act.put, List.setIfInBounds_toArray, List.set_cons_zero, List.set_cons_succ]
          refine wpAnyH_take (i := 5) (v := .int .i64 ((t i).f 26)) rfl (by kernel_rfl) (by kernel_rfl) (by kernel_rfl) (fun _ _ _ h => h) (yieldsIf_cell (by rfl) rfl rfl (fun wh hS => hS.1.int 26 (by decide) (by decide)) isInt3) hHeld ?_
          show wpAnyH _ _ _ _ _ _ _ (Act.put _ (some 102) _) _
          simp only [Act.put, List.setIfInBounds_toArray, List.set_cons_zero, List.set_cons_succ]
          refine wpAnyH_take (i := 6) (v := .pointer (some ⟨b14, 1, none⟩)) rfl (by kernel_rfl) (by kernel_rfl) (by kernel_rfl) (fun _ _ _ h => h) (Or.inl ⟨by rfl, fun _ _ => rfl⟩) hHeld ?_
          show wpAnyH _ _ _ _ _ _ _ (Act.put _ (some 103) _) _
          simp only [Act.put, List.setIfInBounds_toArray, List.set_cons_zero, List.set_cons_succ]
          refine wpAnyH_take (i := 7) (v := .int .i64 ((t i).f 1)) rfl (by kernel_rfl) (by kernel_rfl) (by kernel_rfl) (fun _ _ _ h => h) (yieldsIf_cell (by rfl) rfl rfl (fun wh hS => hS.1.int 1 (by decide) (by decide)) isInt3) hHeld ?_
          show wpAnyH _ _ _ _ _ _ _ (Act.put _ (some 104) _) _
          simp only [Act.put, List.setIfInBounds_toArray, List.set_cons_zero, List.set_cons_succ]
          refine wpAnyH_take (i := 8) (v := .pointer (some ⟨b17, 2, none⟩)) rfl (by kernel_rfl) (by kernel_rfl) (by kernel_rfl) (fun _ _ _ h => h) (Or.inl ⟨by rfl, fun _ _ => rfl⟩) hHeld ?_
          show wpAnyH _ _ _ _ _ _ _ (Act.put _ (some 105) _) _
          simp only [Act.put, List.setIfInBounds_toArray, List.set_cons_zero, List.set_cons_succ]
          refine wpAnyH_all (rs := [9]) (by kernel_rfl) (by simp) (fun i hi' => ?_)
          obtain rfl : i = 9 := by simpa using hi'
          clear hi'
          refine draw_pfield _ (.tmp 105) (.tmp 98) b17 2 ((t i).f 2) (aT i) rfl (by rfl) rfl rfl rfl hqa (by decide) (by decide) (fun w9 hqb hu9 => ?_)
          have hHeld := And.intro (hu9.pblk hHeld.1 (by omega)) (And.intro (hu9.blk hHeld.2.1 (by omega)) (hHeld.2.2.trans (hu9.below (by omega))))
          refine ⟨hHeld, ?_⟩
          clear hu9 hqa
          refine wpAnyH_take (i := 10) (v := .pointer (some ⟨b17, 25, none⟩)) rfl (by kernel_rfl) (by kernel_rfl) (by kernel_rfl) (fun _ _ _ h => h) (Or.inl ⟨by rfl, fun _ _ => rfl⟩) hHeld ?_
          show wpAnyH _ _ _ _ _ _ _ (Act.put _ (some 106) _) _
          simp only [Act.put, List.setIfInBounds_toArray, List.set_cons_zero, List.set_cons_succ]
          refine wpAnyH_all (rs := [11]) (by kernel_rfl) (by simp) (fun i hi' => ?_)
          obtain rfl : i = 11 := by simpa using hi'
          clear hi'
          refine draw_pfield _ (.tmp 106) (.tmp 100) b17 25 ((t i).f 25) (setf (aT i) 2 ((t i).f 2)) rfl (by rfl) rfl rfl rfl hqb (by decide) (by decide) (fun w9 hqc hu9 => ?_)
          have hHeld := And.intro (hu9.pblk hHeld.1 (by omega)) (And.intro (hu9.blk hHeld.2.1 (by omega)) (hHeld.2.2.trans (hu9.below (by omega))))
          refine ⟨hHeld, ?_⟩
          clear hu9 hqb
          refine wpAnyH_take (i := 12) (v := .pointer (some ⟨b17, 26, none⟩)) rfl (by kernel_rfl) (by kernel_rfl) (by kernel_rfl) (fun _ _ _ h => h) (Or.inl ⟨by rfl, fun _ _ => rfl⟩) hHeld ?_
          show wpAnyH _ _ _ _ _ _ _ (Act.put _ (some 107) _) _
          simp only [Act.put, List.setIfInBounds_toArray, List.set_cons_zero, List.set_cons_succ]
          refine wpAnyH_all (rs := [13]) (by kernel_rfl) (by simp) (fun i hi' => ?_)
          obtain rfl : i = 13 := by simpa using hi'
          clear hi'
          refine draw_pfield _ (.tmp 107) (.tmp 102) b17 26 ((t i).f 26) (setf (setf (aT i) 2 ((t i).f 2)) 25 ((t i).f 25)) rfl (by rfl) rfl rfl rfl hqc (by decide) (by decide) (fun w9 hqd hu9 => ?_)
          have hHeld := And.intro (hu9.pblk hHeld.1 (by omega)) (And.intro (hu9.blk hHeld.2.1 (by omega)) (hHeld.2.2.trans (hu9.below (by omega))))
          refine ⟨hHeld, ?_⟩
          clear hu9 hqc
          refine wpAnyH_take (i := 14) (v := .pointer (some ⟨b17, 1, none⟩)) rfl (by kernel_rfl) (by kernel_rfl) (by kernel_rfl) (fun _ _ _ h => h) (Or.inl ⟨by rfl, fun _ _ => rfl⟩) hHeld ?_
          show wpAnyH _ _ _ _ _ _ _ (Act.put _ (some 108) _) _
          simp only [Act.put, List.setIfInBounds_toArray, List.set_cons_zero, List.set_cons_succ]
          refine wpAnyH_all (rs := [15]) (by kernel_rfl) (by simp) (fun i hi' => ?_)
          obtain rfl : i = 15 := by simpa using hi'
          clear hi'
          refine draw_pfield _ (.tmp 108) (.tmp 104) b17 1 ((t i).f 1) (setf (setf (setf (aT i) 2 ((t i).f 2)) 25 ((t i).f 25)) 26 ((t i).f 26)) rfl (by rfl) rfl rfl rfl hqd (by decide) (by decide) (fun w9 hqe hu9 => ?_)
          have hHeld := And.intro (hu9.pblk hHeld.1 (by omega)) (And.intro (hu9.blk hHeld.2.1 (by omega)) (hHeld.2.2.trans (hu9.below (by omega))))
          refine ⟨hHeld, ?_⟩
          clear hu9 hqd
          refine wpAnyH_done (by kernel_rfl) ?_ _
          clear hp14 hx16 HWx
          go_wp2
          have hneq1 : (!eqP (setf (setf (setf (setf (aT i) 2 ((t i).f 2)) 25 ((t i).f 25)) 26 ((t i).f 26)) 1 ((t i).f 1)) (t i)) = false := eqP_no (keep_back (HA.out i hi8).1)
          have hpar : ((aT i).f 1 != (t i).f 1) = false := by rw [(HA.out i hi8).2]; simp
          refine wp_region_held_drew (S := fun wh => PBlk wh b17 (setf (setf (setf (setf (aT i) 2 ((t i).f 2)) 25 ((t i).f 25)) 26 ((t i).f 26)) 1 ((t i).f 1)) ∧ PBlk wh b14 (t i) ∧ Blk wh b16 aT ∧ Below M W0 wh) (by kernel_rfl) (⟨hqe.drew, hHeld.1.drew, hHeld.2.1.drew, hHeld.2.2.drew⟩) (fun hHeld => ?_)
          show wpAnyH _ _ _ _ _ (26 + 1) #[false, false, false, false, false, false, false, false, false, false, false, false, false, false, false, false, false, false, false, false, false, false, false, false, false, false, false] _ _
          refine wpAnyH_take (i := 0) (v := .agg (pcs (setf (setf (setf (setf (aT i) 2 ((t i).f 2)) 25 ((t i).f 25)) 26 ((t i).f 26)) 1 ((t i).f 1)))) rfl (by kernel_rfl) (by kernel_rfl) (by kernel_rfl) (fun _ _ _ h => h) (yieldsIf_row (by rfl) rfl rfl (fun wh hS => hS.1.range) Try.underlying28 rfl (info28l _)) hHeld ?_
          show wpAnyH _ _ _ _ _ _ _ (Act.put _ (some 109) _) _
          simp only [Act.put, List.setIfInBounds_toArray, List.set_cons_zero, List.set_cons_succ]
          refine wpAnyH_take (i := 1) (v := .agg (pcs (t i))) rfl (by kernel_rfl) (by kernel_rfl) (by kernel_rfl) (fun _ _ _ h => h) (yieldsIf_row (by rfl) rfl rfl (fun wh hS => hS.2.1.range) Try.underlying28 rfl (info28l _)) hHeld ?_
          show wpAnyH _ _ _ _ _ _ _ (Act.put _ (some 110) _) _
          simp only [Act.put, List.setIfInBounds_toArray, List.set_cons_zero, List.set_cons_succ]
          refine wpAnyH_take (i := 2) (v := .bool false) rfl (by kernel_rfl) (by kernel_rfl) (by kernel_rfl) (fun _ _ _ h => h) (yieldsIf_neq28 (by rfl) rfl rfl rfl hneq1) hHeld ?_
          show wpAnyH _ _ _ _ _ _ _ (Act.put _ (some 111) _) _
          simp only [Act.put, List.setIfInBounds_toArray, List.set_cons_zero, List.set_cons_succ]
          refine wpAnyH_take (i := 3) (v := .bool false) rfl (by kernel_rfl) (by kernel_rfl) (by kernel_rfl) (fun _ _ _ h => h) (Or.inl ⟨by rfl, fun _ _ => rfl⟩) hHeld ?_
          show wpAnyH _ _ _ _ _ _ _ (Act.put _ (some 112) _) _
          simp only [Act.put, List.setIfInBounds_toArray, List.set_cons_zero, List.set_cons_succ]
          refine wpAnyH_take (i := 4) (v := .int .i64 0) rfl (by kernel_rfl) (by kernel_rfl) (by kernel_rfl) (fun _ _ _ h => h) (Or.inl ⟨by rfl, fun _ _ => rfl⟩) hHeld ?_
          show wpAnyH _ _ _ _ _ _ _ (Act.put _ (some 113) _) _
          simp only [Act.put, List.setIfInBounds_toArray, List.set_cons_zero, List.set_cons_succ]
          refine wpAnyH_take (i := 5) (v := .bool false) rfl (by kernel_rfl) (by kernel_rfl) (by kernel_rfl) (fun _ _ _ h => h) (yb (b := 0 == 2) (by rfl) (fun _ _ => rfl) rfl) hHeld ?_
          show wpAnyH _ _ _ _ _ _ _ (Act.put _ (some 114) _) _
          simp only [Act.put, List.setIfInBounds_toArray, List.set_cons_zero, List.set_cons_succ]
          refine wpAnyH_take (i := 6) (v := .bool false) rfl (by kernel_rfl) (by kernel_rfl) (by kernel_rfl) (fun _ _ _ h => h) (Or.inl ⟨by rfl, fun _ _ => rfl⟩) hHeld ?_
          show wpAnyH _ _ _ _ _ _ _ (Act.put _ (some 115) _) _
          simp only [Act.put, List.setIfInBounds_toArray, List.set_cons_zero, List.set_cons_succ]
          refine wpAnyH_take (i := 7) (v := undef) rfl (by kernel_rfl) (by kernel_rfl) (by kernel_rfl) (fun _ _ _ h => h) (Or.inr ⟨by rfl, rfl⟩) hHeld ?_
          show wpAnyH _ _ _ _ _ _ _ (Act.put _ (some 116) _) _
          simp only [Act.put, List.setIfInBounds_toArray, List.set_cons_zero, List.set_cons_succ]
          refine wpAnyH_take (i := 8) (v := undef) rfl (by kernel_rfl) (by kernel_rfl) (by kernel_rfl) (fun _ _ _ h => h) (Or.inr ⟨by rfl, rfl⟩) hHeld ?_
          show wpAnyH _ _ _ _ _ _ _ (Act.put _ (some 117) _) _
          simp only [Act.put, List.setIfInBounds_toArray, List.set_cons_zero, List.set_cons_succ]
          refine wpAnyH_take (i := 9) (v := undef) rfl (by kernel_rfl) (by kernel_rfl) (by kernel_rfl) (fun _ _ _ h => h) (Or.inr ⟨by rfl, rfl⟩) hHeld ?_
          show wpAnyH _ _ _ _ _ _ _ (Act.put _ (some 118) _) _
          simp only [Act.put, List.setIfInBounds_toArray, List.set_cons_zero, List.set_cons_succ]
          refine wpAnyH_take (i := 10) (v := undef) rfl (by kernel_rfl) (by kernel_rfl) (by kernel_rfl) (fun _ _ _ h => h) (Or.inr ⟨by rfl, rfl⟩) hHeld ?_
          show wpAnyH _ _ _ _ _ _ _ (Act.put _ (some 119) _) _
          simp only [Act.put, List.setIfInBounds_toArray, List.set_cons_zero, List.set_cons_succ]
          refine wpAnyH_take (i := 11) (v := undef) rfl (by kernel_rfl) (by kernel_rfl) (by kernel_rfl) (fun _ _ _ h => h) (Or.inr ⟨by rfl, rfl⟩) hHeld ?_
          show wpAnyH _ _ _ _ _ _ _ (Act.put _ (some 120) _) _
          simp only [Act.put, List.setIfInBounds_toArray, List.set_cons_zero, List.set_cons_succ]
          refine wpAnyH_take (i := 12) (v := .bool false) rfl (by kernel_rfl) (by kernel_rfl) (by kernel_rfl) (fun _ _ _ h => h) (Or.inl ⟨by rfl, fun _ _ => rfl⟩) hHeld ?_
          show wpAnyH _ _ _ _ _ _ _ (Act.put _ (some 121) _) _
          simp only [Act.put, List.setIfInBounds_toArray, List.set_cons_zero, List.set_cons_succ]
          refine wpAnyH_take (i := 13) (v := .bool false) rfl (by kernel_rfl) (by kernel_rfl) (by kernel_rfl) (fun _ _ _ h => h) (Or.inl ⟨by rfl, fun _ _ => rfl⟩) hHeld ?_
          show wpAnyH _ _ _ _ _ _ _ (Act.put _ (some 122) _) _
          simp only [Act.put, List.setIfInBounds_toArray, List.set_cons_zero, List.set_cons_succ]
          refine wpAnyH_take (i := 14) (v := .bool false) rfl (by kernel_rfl) (by kernel_rfl) (by kernel_rfl) (fun _ _ _ h => h) (Or.inl ⟨by rfl, fun _ _ => rfl⟩) hHeld ?_
          show wpAnyH _ _ _ _ _ _ _ (Act.put _ (some 123) _) _
          simp only [Act.put, List.setIfInBounds_toArray, List.set_cons_zero, List.set_cons_succ]
          refine wpAnyH_take (i := 15) (v := .int .i64 0) rfl (by kernel_rfl) (by kernel_rfl) (by kernel_rfl) (fun _ _ _ h => h) (Or.inl ⟨by rfl, fun _ _ => rfl⟩) hHeld ?_
          show wpAnyH _ _ _ _ _ _ _ (Act.put _ (some 124) _) _
          simp only [Act.put, List.setIfInBounds_toArray, List.set_cons_zero, List.set_cons_succ]
          refine wpAnyH_take (i := 16) (v := .bool true) rfl (by kernel_rfl) (by kernel_rfl) (by kernel_rfl) (fun _ _ _ h => h) (yb (b := 0 == 0) (by rfl) (fun _ _ => rfl) rfl) hHeld ?_
          show wpAnyH _ _ _ _ _ _ _ (Act.put _ (some 125) _) _
          simp only [Act.put, List.setIfInBounds_toArray, List.set_cons_zero, List.set_cons_succ]
          refine wpAnyH_take (i := 17) (v := .bool true) rfl (by kernel_rfl) (by kernel_rfl) (by kernel_rfl) (fun _ _ _ h => h) (Or.inl ⟨by rfl, fun _ _ => rfl⟩) hHeld ?_
          show wpAnyH _ _ _ _ _ _ _ (Act.put _ (some 126) _) _
          simp only [Act.put, List.setIfInBounds_toArray, List.set_cons_zero, List.set_cons_succ]
          refine wpAnyH_take (i := 18) (v := .int .i64 (i : Int)) rfl (by kernel_rfl) (by kernel_rfl) (by kernel_rfl) (fun _ _ _ h => h) (Or.inl ⟨by rfl, fun _ _ => rfl⟩) hHeld ?_
          show wpAnyH _ _ _ _ _ _ _ (Act.put _ (some 127) _) _
          simp only [Act.put, List.setIfInBounds_toArray, List.set_cons_zero, List.set_cons_succ]
          refine wpAnyH_take (i := 19) (v := .pointer (some ⟨b16, i * 29, none⟩)) rfl (by kernel_rfl) (by kernel_rfl) (by kernel_rfl) (fun _ _ _ h => h) (Or.inl ⟨by rfl, fun wh hS => by go_simp⟩) hHeld ?_
          show wpAnyH _ _ _ _ _ _ _ (Act.put _ (some 128) _) _
          simp only [Act.put, List.setIfInBounds_toArray, List.set_cons_zero, List.set_cons_succ]
          refine wpAnyH_take (i := 20) (v := .pointer (some ⟨b16, i * 29 + 1, none⟩)) rfl (by kernel_rfl) (by kernel_rfl) (by kernel_rfl) (fun _ _ _ h => h) (Or.inl ⟨by rfl, fun _ _ => rfl⟩) hHeld ?_
          show wpAnyH _ _ _ _ _ _ _ (Act.put _ (some 129) _) _
          simp only [Act.put, List.setIfInBounds_toArray, List.set_cons_zero, List.set_cons_succ]
          refine wpAnyH_take (i := 21) (v := .int .i64 ((aT i).f 1)) rfl (by kernel_rfl) (by kernel_rfl) (by kernel_rfl) (fun _ _ _ h => h) (yieldsIf_cell (by rfl) rfl rfl (fun wh hS => hS.2.2.1.int i 1 hi8 (by decide) (by decide)) isInt3) hHeld ?_
          show wpAnyH _ _ _ _ _ _ _ (Act.put _ (some 130) _) _
          simp only [Act.put, List.setIfInBounds_toArray, List.set_cons_zero, List.set_cons_succ]
          refine wpAnyH_take (i := 22) (v := .pointer (some ⟨b14, 1, none⟩)) rfl (by kernel_rfl) (by kernel_rfl) (by kernel_rfl) (fun _ _ _ h => h) (Or.inl ⟨by rfl, fun _ _ => rfl⟩) hHeld ?_
          show wpAnyH _ _ _ _ _ _ _ (Act.put _ (some 131) _) _
          simp only [Act.put, List.setIfInBounds_toArray, List.set_cons_zero, List.set_cons_succ]
          refine wpAnyH_take (i := 23) (v := .int .i64 ((t i).f 1)) rfl (by kernel_rfl) (by kernel_rfl) (by kernel_rfl) (fun _ _ _ h => h) (yieldsIf_cell (by rfl) rfl rfl (fun wh hS => hS.2.1.int 1 (by decide) (by decide)) isInt3) hHeld ?_
          show wpAnyH _ _ _ _ _ _ _ (Act.put _ (some 132) _) _
          simp only [Act.put, List.setIfInBounds_toArray, List.set_cons_zero, List.set_cons_succ]
          refine wpAnyH_take (i := 24) (v := .bool false) rfl (by kernel_rfl) (by kernel_rfl) (by kernel_rfl) (fun _ _ _ h => h) (yb (b := ((aT i).f 1) != ((t i).f 1)) (by rfl) (fun _ _ => rfl) hpar) hHeld ?_
          show wpAnyH _ _ _ _ _ _ _ (Act.put _ (some 133) _) _
          simp only [Act.put, List.setIfInBounds_toArray, List.set_cons_zero, List.set_cons_succ]
          refine wpAnyH_take (i := 25) (v := .bool false) rfl (by kernel_rfl) (by kernel_rfl) (by kernel_rfl) (fun _ _ _ h => h) (Or.inl ⟨by rfl, fun _ _ => rfl⟩) hHeld ?_
          show wpAnyH _ _ _ _ _ _ _ (Act.put _ (some 134) _) _
          simp only [Act.put, List.setIfInBounds_toArray, List.set_cons_zero, List.set_cons_succ]
          refine wpAnyH_take (i := 26) (v := .bool false) rfl (by kernel_rfl) (by kernel_rfl) (by kernel_rfl) (fun _ _ _ h => h) (Or.inl ⟨by rfl, fun _ _ => rfl⟩) hHeld ?_
          show wpAnyH _ _ _ _ _ _ _ (Act.put _ (some 135) _) _
          simp only [Act.put, List.setIfInBounds_toArray, List.set_cons_zero, List.set_cons_succ]
          refine wpAnyH_done (by kernel_rfl) ?_ _
          obtain ⟨_, _, _, hwn⟩ := hHeld
          have HWk := hidI hwn
          clear hwn hneq1 hpar hqe
          go_wp2
          generalize w9.drew = wk at *
          cases hix : ((i : Int) == index)
          · have HNE : Hid ((i : Int) ≠ index) := by have : ((i : Int) == index) = false := hix; exact hidI (by simpa using this)
            rw [rounds_succ]
            have hTk := hT.below HWk.out hTl
            have hpk := hp0.below HWk.out hl14
            have hMk : M ≤ wk.heap.size := by rw [HMM.out]; exact HWk.out.size
            go_wp2_with (first
              | ((with_reducible refine g_load 29 ?_ rfl); refine st_loadT (f := three aT bT cT) (k := 1) (by rfl) rfl rfl hTk (by decide) ?_)
              | ((with_reducible refine g_alloc 29 ?_ rfl); refine st_alloc29 (by rfl) rfl ?_; have hz := Blk.new wk tz; have hp1 := hpk.alloc (.cells (tcs tz) 29); have HW1 := hidI (HWk.out.alloc hMk (.cells (tcs tz) 29)); clear hTk hpk HWk)
              | ((with_reducible refine g_store 29 ?_ rfl); refine st_store29 (x := .tmp 16) (by rfl) rfl rfl rfl hz ?_; intro w2 hx2 hu2; have hp2 := hu2.pblk hp1 (by omega); have HW2 := hidI (HW1.out.trans (hu2.below hMk)); have hs2 := hu2.size; rw [World.size_alloc] at hs2; have hM2 : M ≤ w2.heap.size := (by omega); have HS2 := hidI hs2; clear hs2 hu2 hz hp1 HW1)
              | ((with_reducible refine g_load 28 ?_ rfl); refine st_load28 (k := i) (by rfl) rfl rfl hx2 hi8 ?_)
              | ((with_reducible refine g_alloc 28 ?_ rfl); refine st_alloc28 (by rfl) rfl ?_; have hqz := PBlk.new w2 zp; have hp3 := hp2.alloc (.cells (pcs zp) 28); have hx3 := hx2.alloc (.cells (pcs zp) 28); have HW3 := hidI (HW2.out.alloc hM2 (.cells (pcs zp) 28)); clear hp2 hx2 HW2)
              | ((with_reducible refine g_store 28 ?_ rfl); refine st_pstore28 (by rfl) rfl rfl rfl hqz ?_; intro w4 hqa hu4; have hb17 : wk.heap.size < w2.heap.size := (by have := HS2.out; omega); have hp14 := hu4.pblk hp3 (by omega); have hx16 := hu4.blk hx3 (by omega); have HWx := hidI (HW3.out.trans (hu4.below (by omega))); clear hqz hu4 hp3 hx3 HW3 HS2))
            generalize wk.heap.size = b16 at *
            generalize w2.heap.size = b17 at *
            have hqa : PBlk w4.drew b17 (bT i) := hqa
            refine wp_region_held_drew (S := fun wh => PBlk wh b14 (t i) ∧ Blk wh b16 bT ∧ Below M W0 wh) (by kernel_rfl) (⟨hp14.drew, hx16.drew, HWx.out.drew⟩) (fun hHeld => ?_)
            show wpAnyH _ _ _ _ _ (15 + 1) #[false, false, false, false, false, false, false, false, false, false, false, false, false, false, false, false] _ _
            refine wpAnyH_take (i := 0) (v := .pointer (some ⟨b14, 2, none⟩)) rfl (by kernel_rfl) (by kernel_rfl) (by kernel_rfl) (fun _ _ _ h => h) (Or.inl ⟨by rfl, fun _ _ => rfl⟩) hHeld ?_
            show wpAnyH _ _ _ _ _ _ _ (Act.put _ (some 97) _) _
            simp only [Act.put, List.setIfInBounds_toArray, List.set_cons_zero, List.set_cons_succ]
            refine wpAnyH_take (i := 1) (v := .int .i64 ((t i).f 2)) rfl (by kernel_rfl) (by kernel_rfl) (by kernel_rfl) (fun _ _ _ h => h) (yieldsIf_cell (by rfl) rfl rfl (fun wh hS => hS.1.int 2 (by decide) (by decide)) isInt3) hHeld ?_
            show wpAnyH _ _ _ _ _ _ _ (Act.put _ (some 98) _) _
            simp only [Act.put, List.setIfInBounds_toArray, List.set_cons_zero, List.set_cons_succ]
            refine wpAnyH_take (i := 2) (v := .pointer (some ⟨b14, 25, none⟩)) rfl (by kernel_rfl) (by kernel_rfl) (by kernel_rfl) (fun _ _ _ h => h) (Or.inl ⟨by rfl, fun _ _ => rfl⟩) hHeld ?_
            show wpAnyH _ _ _ _ _ _ _ (Act.put _ (some 99) _) _
            simp only [Act.put, List.setIfInBounds_toArray, List.set_cons_zero, List.set_cons_succ]
            refine wpAnyH_take (i := 3) (v := .int .i64 ((t i).f 25)) rfl (by kernel_rfl) (by kernel_rfl) (by kernel_rfl) (fun _ _ _ h => h) (yieldsIf_cell (by rfl) rfl rfl (fun wh hS => hS.1.int 25 (by decide) (by decide)) isInt3) hHeld ?_
            show wpAnyH _ _ _ _ _ _ _ (Act.put _ (some 100) _) _
            simp only [Act.put, List.setIfInBounds_toArray, List.set_cons_zero, List.set_cons_succ]
            refine wpAnyH_take (i := 4) (v := .pointer (some ⟨b14, 26, none⟩)) rfl (by kernel_rfl) (by kernel_rfl) (by kernel_rfl) (fun _ _ _ h => h) (Or.inl ⟨by rfl, fun _ _ => rfl⟩) hHeld ?_
            show wpAnyH _ _ _ _ _ _ _ (Act.put _ (some 101) _) _
            simp only [Act.put, List.setIfInBounds_toArray, List.set_cons_zero, List.set_cons_succ]
            refine wpAnyH_take (i := 5) (v := .int .i64 ((t i).f 26)) rfl (by kernel_rfl) (by kernel_rfl) (by kernel_rfl) (fun _ _ _ h => h) (yieldsIf_cell (by rfl) rfl rfl (fun wh hS => hS.1.int 26 (by decide) (by decide)) isInt3) hHeld ?_
            show wpAnyH _ _ _ _ _ _ _ (Act.put _ (some 102) _) _
            simp only [Act.put, List.setIfInBounds_toArray, List.set_cons_zero, List.set_cons_succ]
            refine wpAnyH_take (i := 6) (v := .pointer (some ⟨b14, 1, none⟩)) rfl (by kernel_rfl) (by kernel_rfl) (by kernel_rfl) (fun _ _ _ h => h) (Or.inl ⟨by rfl, fun _ _ => rfl⟩) hHeld ?_
            show wpAnyH _ _ _ _ _ _ _ (Act.put _ (some 103) _) _
            simp only [Act.put, List.setIfInBounds_toArray, List.set_cons_zero, List.set_cons_succ]
            refine wpAnyH_take (i := 7) (v := .int .i64 ((t i).f 1)) rfl (by kernel_rfl) (by kernel_rfl) (by kernel_rfl) (fun _ _ _ h => h) (yieldsIf_cell (by rfl) rfl rfl (fun wh hS => hS.1.int 1 (by decide) (by decide)) isInt3) hHeld ?_
            show wpAnyH _ _ _ _ _ _ _ (Act.put _ (some 104) _) _
            simp only [Act.put, List.setIfInBounds_toArray, List.set_cons_zero, List.set_cons_succ]
            refine wpAnyH_take (i := 8) (v := .pointer (some ⟨b17, 2, none⟩)) rfl (by kernel_rfl) (by kernel_rfl) (by kernel_rfl) (fun _ _ _ h => h) (Or.inl ⟨by rfl, fun _ _ => rfl⟩) hHeld ?_
            show wpAnyH _ _ _ _ _ _ _ (Act.put _ (some 105) _) _
            simp only [Act.put, List.setIfInBounds_toArray, List.set_cons_zero, List.set_cons_succ]
            refine wpAnyH_all (rs := [9]) (by kernel_rfl) (by simp) (fun i hi' => ?_)
            obtain rfl : i = 9 := by simpa using hi'
            clear hi'
            refine draw_pfield _ (.tmp 105) (.tmp 98) b17 2 ((t i).f 2) (bT i) rfl (by rfl) rfl rfl rfl hqa (by decide) (by decide) (fun w9 hqb hu9 => ?_)
            have hHeld := And.intro (hu9.pblk hHeld.1 (by omega)) (And.intro (hu9.blk hHeld.2.1 (by omega)) (hHeld.2.2.trans (hu9.below (by omega))))
            refine ⟨hHeld, ?_⟩
            clear hu9 hqa
            refine wpAnyH_take (i := 10) (v := .pointer (some ⟨b17, 25, none⟩)) rfl (by kernel_rfl) (by kernel_rfl) (by kernel_rfl) (fun _ _ _ h => h) (Or.inl ⟨by rfl, fun _ _ => rfl⟩) hHeld ?_
            show wpAnyH _ _ _ _ _ _ _ (Act.put _ (some 106) _) _
            simp only [Act.put, List.setIfInBounds_toArray, List.set_cons_zero, List.set_cons_succ]
            refine wpAnyH_all (rs := [11]) (by kernel_rfl) (by simp) (fun i hi' => ?_)
            obtain rfl : i = 11 := by simpa using hi'
            clear hi'
            refine draw_pfield _ (.tmp 106) (.tmp 100) b17 25 ((t i).f 25) (setf (bT i) 2 ((t i).f 2)) rfl (by rfl) rfl rfl rfl hqb (by decide) (by decide) (fun w9 hqc hu9 => ?_)
            have hHeld := And.intro (hu9.pblk hHeld.1 (by omega)) (And.intro (hu9.blk hHeld.2.1 (by omega)) (hHeld.2.2.trans (hu9.below (by omega))))
            refine ⟨hHeld, ?_⟩
            clear hu9 hqb
            refine wpAnyH_take (i := 12) (v := .pointer (some ⟨b17, 26, none⟩)) rfl (by kernel_rfl) (by kernel_rfl) (by kernel_rfl) (fun _ _ _ h => h) (Or.inl ⟨by rfl, fun _ _ => rfl⟩) hHeld ?_
            show wpAnyH _ _ _ _ _ _ _ (Act.put _ (some 107) _) _
            simp only [Act.put, List.setIfInBounds_toArray, List.set_cons_zero, List.set_cons_succ]
            refine wpAnyH_all (rs := [13]) (by kernel_rfl) (by simp) (fun i hi' => ?_)
            obtain rfl : i = 13 := by simpa using hi'
            clear hi'
            refine draw_pfield _ (.tmp 107) (.tmp 102) b17 26 ((t i).f 26) (setf (setf (bT i) 2 ((t i).f 2)) 25 ((t i).f 25)) rfl (by rfl) rfl rfl rfl hqc (by decide) (by decide) (fun w9 hqd hu9 => ?_)
            have hHeld := And.intro (hu9.pblk hHeld.1 (by omega)) (And.intro (hu9.blk hHeld.2.1 (by omega)) (hHeld.2.2.trans (hu9.below (by omega))))
            refine ⟨hHeld, ?_⟩
            clear hu9 hqc
            refine wpAnyH_take (i := 14) (v := .pointer (some ⟨b17, 1, none⟩)) rfl (by kernel_rfl) (by kernel_rfl) (by kernel_rfl) (fun _ _ _ h => h) (Or.inl ⟨by rfl, fun _ _ => rfl⟩) hHeld ?_
            show wpAnyH _ _ _ _ _ _ _ (Act.put _ (some 108) _) _
            simp only [Act.put, List.setIfInBounds_toArray, List.set_cons_zero, List.set_cons_succ]
            refine wpAnyH_all (rs := [15]) (by kernel_rfl) (by simp) (fun i hi' => ?_)
            obtain rfl : i = 15 := by simpa using hi'
            clear hi'
            refine draw_pfield _ (.tmp 108) (.tmp 104) b17 1 ((t i).f 1) (setf (setf (setf (bT i) 2 ((t i).f 2)) 25 ((t i).f 25)) 26 ((t i).f 26)) rfl (by rfl) rfl rfl rfl hqd (by decide) (by decide) (fun w9 hqe hu9 => ?_)
            have hHeld := And.intro (hu9.pblk hHeld.1 (by omega)) (And.intro (hu9.blk hHeld.2.1 (by omega)) (hHeld.2.2.trans (hu9.below (by omega))))
            refine ⟨hHeld, ?_⟩
            clear hu9 hqd
            refine wpAnyH_done (by kernel_rfl) ?_ _
            clear hp14 hx16 HWx
            go_wp2
            have hneq1 : (!eqP (setf (setf (setf (setf (bT i) 2 ((t i).f 2)) 25 ((t i).f 25)) 26 ((t i).f 26)) 1 ((t i).f 1)) (t i)) = false := eqP_no (keep_back (HBK.out i hi8 HNE.out HL3.out))
            refine wp_region_held_drew (S := fun wh => PBlk wh b17 (setf (setf (setf (setf (bT i) 2 ((t i).f 2)) 25 ((t i).f 25)) 26 ((t i).f 26)) 1 ((t i).f 1)) ∧ PBlk wh b14 (t i) ∧ Blk wh b16 bT ∧ Below M W0 wh) (by kernel_rfl) (⟨hqe.drew, hHeld.1.drew, hHeld.2.1.drew, hHeld.2.2.drew⟩) (fun hHeld => ?_)
            show wpAnyH _ _ _ _ _ (26 + 1) #[false, false, false, false, false, false, false, false, false, false, false, false, false, false, false, false, false, false, false, false, false, false, false, false, false, false, false] _ _
            refine wpAnyH_take (i := 0) (v := .agg (pcs (setf (setf (setf (setf (bT i) 2 ((t i).f 2)) 25 ((t i).f 25)) 26 ((t i).f 26)) 1 ((t i).f 1)))) rfl (by kernel_rfl) (by kernel_rfl) (by kernel_rfl) (fun _ _ _ h => h) (yieldsIf_row (by rfl) rfl rfl (fun wh hS => hS.1.range) Try.underlying28 rfl (info28l _)) hHeld ?_
            show wpAnyH _ _ _ _ _ _ _ (Act.put _ (some 109) _) _
            simp only [Act.put, List.setIfInBounds_toArray, List.set_cons_zero, List.set_cons_succ]
            refine wpAnyH_take (i := 1) (v := .agg (pcs (t i))) rfl (by kernel_rfl) (by kernel_rfl) (by kernel_rfl) (fun _ _ _ h => h) (yieldsIf_row (by rfl) rfl rfl (fun wh hS => hS.2.1.range) Try.underlying28 rfl (info28l _)) hHeld ?_
            show wpAnyH _ _ _ _ _ _ _ (Act.put _ (some 110) _) _
            simp only [Act.put, List.setIfInBounds_toArray, List.set_cons_zero, List.set_cons_succ]
            refine wpAnyH_take (i := 2) (v := .bool false) rfl (by kernel_rfl) (by kernel_rfl) (by kernel_rfl) (fun _ _ _ h => h) (yieldsIf_neq28 (by rfl) rfl rfl rfl hneq1) hHeld ?_
            show wpAnyH _ _ _ _ _ _ _ (Act.put _ (some 111) _) _
            simp only [Act.put, List.setIfInBounds_toArray, List.set_cons_zero, List.set_cons_succ]
            refine wpAnyH_take (i := 3) (v := .bool false) rfl (by kernel_rfl) (by kernel_rfl) (by kernel_rfl) (fun _ _ _ h => h) (Or.inl ⟨by rfl, fun _ _ => rfl⟩) hHeld ?_
            show wpAnyH _ _ _ _ _ _ _ (Act.put _ (some 112) _) _
            simp only [Act.put, List.setIfInBounds_toArray, List.set_cons_zero, List.set_cons_succ]
            refine wpAnyH_take (i := 4) (v := .int .i64 1) rfl (by kernel_rfl) (by kernel_rfl) (by kernel_rfl) (fun _ _ _ h => h) (Or.inl ⟨by rfl, fun _ _ => rfl⟩) hHeld ?_
            show wpAnyH _ _ _ _ _ _ _ (Act.put _ (some 113) _) _
            simp only [Act.put, List.setIfInBounds_toArray, List.set_cons_zero, List.set_cons_succ]
            refine wpAnyH_take (i := 5) (v := .bool false) rfl (by kernel_rfl) (by kernel_rfl) (by kernel_rfl) (fun _ _ _ h => h) (yb (b := 1 == 2) (by rfl) (fun _ _ => rfl) rfl) hHeld ?_
            show wpAnyH _ _ _ _ _ _ _ (Act.put _ (some 114) _) _
            simp only [Act.put, List.setIfInBounds_toArray, List.set_cons_zero, List.set_cons_succ]
            refine wpAnyH_take (i := 6) (v := .bool false) rfl (by kernel_rfl) (by kernel_rfl) (by kernel_rfl) (fun _ _ _ h => h) (Or.inl ⟨by rfl, fun _ _ => rfl⟩) hHeld ?_
            show wpAnyH _ _ _ _ _ _ _ (Act.put _ (some 115) _) _
            simp only [Act.put, List.setIfInBounds_toArray, List.set_cons_zero, List.set_cons_succ]
            refine wpAnyH_take (i := 7) (v := undef) rfl (by kernel_rfl) (by kernel_rfl) (by kernel_rfl) (fun _ _ _ h => h) (Or.inr ⟨by rfl, rfl⟩) hHeld ?_
            show wpAnyH _ _ _ _ _ _ _ (Act.put _ (some 116) _) _
            simp only [Act.put, List.setIfInBounds_toArray, List.set_cons_zero, List.set_cons_succ]
            refine wpAnyH_take (i := 8) (v := undef) rfl (by kernel_rfl) (by kernel_rfl) (by kernel_rfl) (fun _ _ _ h => h) (Or.inr ⟨by rfl, rfl⟩) hHeld ?_
            show wpAnyH _ _ _ _ _ _ _ (Act.put _ (some 117) _) _
            simp only [Act.put, List.setIfInBounds_toArray, List.set_cons_zero, List.set_cons_succ]
            refine wpAnyH_take (i := 9) (v := undef) rfl (by kernel_rfl) (by kernel_rfl) (by kernel_rfl) (fun _ _ _ h => h) (Or.inr ⟨by rfl, rfl⟩) hHeld ?_
            show wpAnyH _ _ _ _ _ _ _ (Act.put _ (some 118) _) _
            simp only [Act.put, List.setIfInBounds_toArray, List.set_cons_zero, List.set_cons_succ]
            refine wpAnyH_take (i := 10) (v := undef) rfl (by kernel_rfl) (by kernel_rfl) (by kernel_rfl) (fun _ _ _ h => h) (Or.inr ⟨by rfl, rfl⟩) hHeld ?_
            show wpAnyH _ _ _ _ _ _ _ (Act.put _ (some 119) _) _
            simp only [Act.put, List.setIfInBounds_toArray, List.set_cons_zero, List.set_cons_succ]
            refine wpAnyH_take (i := 11) (v := undef) rfl (by kernel_rfl) (by kernel_rfl) (by kernel_rfl) (fun _ _ _ h => h) (Or.inr ⟨by rfl, rfl⟩) hHeld ?_
            show wpAnyH _ _ _ _ _ _ _ (Act.put _ (some 120) _) _
            simp only [Act.put, List.setIfInBounds_toArray, List.set_cons_zero, List.set_cons_succ]
            refine wpAnyH_take (i := 12) (v := .bool false) rfl (by kernel_rfl) (by kernel_rfl) (by kernel_rfl) (fun _ _ _ h => h) (Or.inl ⟨by rfl, fun _ _ => rfl⟩) hHeld ?_
            show wpAnyH _ _ _ _ _ _ _ (Act.put _ (some 121) _) _
            simp only [Act.put, List.setIfInBounds_toArray, List.set_cons_zero, List.set_cons_succ]
            refine wpAnyH_take (i := 13) (v := .bool false) rfl (by kernel_rfl) (by kernel_rfl) (by kernel_rfl) (fun _ _ _ h => h) (Or.inl ⟨by rfl, fun _ _ => rfl⟩) hHeld ?_
            show wpAnyH _ _ _ _ _ _ _ (Act.put _ (some 122) _) _
            simp only [Act.put, List.setIfInBounds_toArray, List.set_cons_zero, List.set_cons_succ]
            refine wpAnyH_take (i := 14) (v := .bool false) rfl (by kernel_rfl) (by kernel_rfl) (by kernel_rfl) (fun _ _ _ h => h) (Or.inl ⟨by rfl, fun _ _ => rfl⟩) hHeld ?_
            show wpAnyH _ _ _ _ _ _ _ (Act.put _ (some 123) _) _
            simp only [Act.put, List.setIfInBounds_toArray, List.set_cons_zero, List.set_cons_succ]
            refine wpAnyH_take (i := 15) (v := .int .i64 1) rfl (by kernel_rfl) (by kernel_rfl) (by kernel_rfl) (fun _ _ _ h => h) (Or.inl ⟨by rfl, fun _ _ => rfl⟩) hHeld ?_
            show wpAnyH _ _ _ _ _ _ _ (Act.put _ (some 124) _) _
            simp only [Act.put, List.setIfInBounds_toArray, List.set_cons_zero, List.set_cons_succ]
            refine wpAnyH_take (i := 16) (v := .bool false) rfl (by kernel_rfl) (by kernel_rfl) (by kernel_rfl) (fun _ _ _ h => h) (yb (b := 1 == 0) (by rfl) (fun _ _ => rfl) rfl) hHeld ?_
            show wpAnyH _ _ _ _ _ _ _ (Act.put _ (some 125) _) _
            simp only [Act.put, List.setIfInBounds_toArray, List.set_cons_zero, List.set_cons_succ]
            refine wpAnyH_take (i := 17) (v := .bool false) rfl (by kernel_rfl) (by kernel_rfl) (by kernel_rfl) (fun _ _ _ h => h) (Or.inl ⟨by rfl, fun _ _ => rfl⟩) hHeld ?_
            show wpAnyH _ _ _ _ _ _ _ (Act.put _ (some 126) _) _
            simp only [Act.put, List.setIfInBounds_toArray, List.set_cons_zero, List.set_cons_succ]
            refine wpAnyH_take (i := 18) (v := undef) rfl (by kernel_rfl) (by kernel_rfl) (by kernel_rfl) (fun _ _ _ h => h) (Or.inr ⟨by rfl, rfl⟩) hHeld ?_
            show wpAnyH _ _ _ _ _ _ _ (Act.put _ (some 127) _) _
            simp only [Act.put, List.setIfInBounds_toArray, List.set_cons_zero, List.set_cons_succ]
            refine wpAnyH_take (i := 19) (v := undef) rfl (by kernel_rfl) (by kernel_rfl) (by kernel_rfl) (fun _ _ _ h => h) (Or.inr ⟨by rfl, rfl⟩) hHeld ?_
            show wpAnyH _ _ _ _ _ _ _ (Act.put _ (some 128) _) _
            simp only [Act.put, List.setIfInBounds_toArray, List.set_cons_zero, List.set_cons_succ]
            refine wpAnyH_take (i := 20) (v := undef) rfl (by kernel_rfl) (by kernel_rfl) (by kernel_rfl) (fun _ _ _ h => h) (Or.inr ⟨by rfl, rfl⟩) hHeld ?_
            show wpAnyH _ _ _ _ _ _ _ (Act.put _ (some 129) _) _
            simp only [Act.put, List.setIfInBounds_toArray, List.set_cons_zero, List.set_cons_succ]
            refine wpAnyH_take (i := 21) (v := undef) rfl (by kernel_rfl) (by kernel_rfl) (by kernel_rfl) (fun _ _ _ h => h) (Or.inr ⟨by rfl, rfl⟩) hHeld ?_
            show wpAnyH _ _ _ _ _ _ _ (Act.put _ (some 130) _) _
            simp only [Act.put, List.setIfInBounds_toArray, List.set_cons_zero, List.set_cons_succ]
            refine wpAnyH_take (i := 22) (v := undef) rfl (by kernel_rfl) (by kernel_rfl) (by kernel_rfl) (fun _ _ _ h => h) (Or.inr ⟨by rfl, rfl⟩) hHeld ?_
            show wpAnyH _ _ _ _ _ _ _ (Act.put _ (some 131) _) _
            simp only [Act.put, List.setIfInBounds_toArray, List.set_cons_zero, List.set_cons_succ]
            refine wpAnyH_take (i := 23) (v := undef) rfl (by kernel_rfl) (by kernel_rfl) (by kernel_rfl) (fun _ _ _ h => h) (Or.inr ⟨by rfl, rfl⟩) hHeld ?_
            show wpAnyH _ _ _ _ _ _ _ (Act.put _ (some 132) _) _
            simp only [Act.put, List.setIfInBounds_toArray, List.set_cons_zero, List.set_cons_succ]
            refine wpAnyH_take (i := 24) (v := undef) rfl (by kernel_rfl) (by kernel_rfl) (by kernel_rfl) (fun _ _ _ h => h) (Or.inr ⟨by rfl, rfl⟩) hHeld ?_
            show wpAnyH _ _ _ _ _ _ _ (Act.put _ (some 133) _) _
            simp only [Act.put, List.setIfInBounds_toArray, List.set_cons_zero, List.set_cons_succ]
            refine wpAnyH_take (i := 25) (v := .bool false) rfl (by kernel_rfl) (by kernel_rfl) (by kernel_rfl) (fun _ _ _ h => h) (Or.inl ⟨by rfl, fun _ _ => rfl⟩) hHeld ?_
            show wpAnyH _ _ _ _ _ _ _ (Act.put _ (some 134) _) _
            simp only [Act.put, List.setIfInBounds_toArray, List.set_cons_zero, List.set_cons_succ]
            refine wpAnyH_take (i := 26) (v := .bool false) rfl (by kernel_rfl) (by kernel_rfl) (by kernel_rfl) (fun _ _ _ h => h) (Or.inl ⟨by rfl, fun _ _ => rfl⟩) hHeld ?_
            show wpAnyH _ _ _ _ _ _ _ (Act.put _ (some 135) _) _
            simp only [Act.put, List.setIfInBounds_toArray, List.set_cons_zero, List.set_cons_succ]
            refine wpAnyH_done (by kernel_rfl) ?_ _
            obtain ⟨_, _, _, hwn⟩ := hHeld
            have HWk := hidI hwn
            clear hwn hneq1 hqe
            go_wp2
            generalize w9.drew = wk at *
            rw [rounds_succ]
            have hTk := hT.below HWk.out hTl
            have hMk : M ≤ wk.heap.size := by rw [HMM.out]; exact HWk.out.size
            go_wp2_with (first
              | ((with_reducible refine g_load 29 ?_ rfl); refine st_loadT (f := three aT bT cT) (k := 2) (by rfl) rfl rfl hTk (by decide) ?_)
              | ((with_reducible refine g_alloc 29 ?_ rfl); refine st_alloc29 (by rfl) rfl ?_; have hz := Blk.new wk tz; have HW1 := hidI (HWk.out.alloc hMk (.cells (tcs tz) 29)); clear hTk HWk)
              | ((with_reducible refine g_store 29 ?_ rfl); refine st_store29 (x := .tmp 16) (by rfl) rfl rfl rfl hz ?_; intro w2 hx2 hu2; have HWk := hidI (HW1.out.trans (hu2.below hMk)); clear hu2 hz HW1 hx2))
            clear hMk
            generalize w2 = wk at *
            rw [rounds_succ]
            go_wp2
            go_roundw
            case measure => simp [intOf]; omega
            case rel => exact ⟨i + 1, by omega, by go_num, HZ.out.trans (HWk.out.mono hM1)⟩
          · rw [rounds_succ]
            have hTk := hT.below HWk.out hTl
            have hMk : M ≤ wk.heap.size := by rw [HMM.out]; exact HWk.out.size
            go_wp2_with (first
              | ((with_reducible refine g_load 29 ?_ rfl); refine st_loadT (f := three aT bT cT) (k := 1) (by rfl) rfl rfl hTk (by decide) ?_)
              | ((with_reducible refine g_alloc 29 ?_ rfl); refine st_alloc29 (by rfl) rfl ?_; have hz := Blk.new wk tz; have HW1 := hidI (HWk.out.alloc hMk (.cells (tcs tz) 29)); clear hTk HWk)
              | ((with_reducible refine g_store 29 ?_ rfl); refine st_store29 (x := .tmp 16) (by rfl) rfl rfl rfl hz ?_; intro w2 hx2 hu2; have HWk := hidI (HW1.out.trans (hu2.below hMk)); clear hu2 hz HW1 hx2))
            clear hMk
            generalize w2 = wk at *
            rw [rounds_succ]
            have hTk := hT.below HWk.out hTl
            have hMk : M ≤ wk.heap.size := by rw [HMM.out]; exact HWk.out.size
            go_wp2_with (first
              | ((with_reducible refine g_load 29 ?_ rfl); refine st_loadT (f := three aT bT cT) (k := 2) (by rfl) rfl rfl hTk (by decide) ?_)
              | ((with_reducible refine g_alloc 29 ?_ rfl); refine st_alloc29 (by rfl) rfl ?_; have hz := Blk.new wk tz; have HW1 := hidI (HWk.out.alloc hMk (.cells (tcs tz) 29)); clear hTk HWk)
              | ((with_reducible refine g_store 29 ?_ rfl); refine st_store29 (x := .tmp 16) (by rfl) rfl rfl rfl hz ?_; intro w2 hx2 hu2; have HWk := hidI (HW1.out.trans (hu2.below hMk)); clear hu2 hz HW1 hx2))
            clear hMk
            generalize w2 = wk at *
            rw [rounds_succ]
            go_wp2
            go_roundw
            case measure => simp [intOf]; omega
            case rel => exact ⟨i + 1, by omega, by go_num, HZ.out.trans (HWk.out.mono hM1)⟩
      · obtain rfl : i = 8 := by omega
        rw [show ((8 : Nat) : Int) = 8 from rfl]
        have HBE := hidI (HBL.out.trans (HZ.out.mono HBL.out.size))
        go_wp2_with (first
          | (go_at_call 13; refine (alive_v _).mono ?_; rintro e w3 ⟨rfl, hb⟩; have HB2 := hidI (HBE.out.trans (hb.mono HBE.out.size)); clear HBE hb))
        go_ret
        exact ⟨rfl, HB2.out⟩
end Go.Proofs.Ytnnknhcdnklalaa.A
