-- Written by a program of this session (mp.py) over the kit's print.py, with proofs by hand for what the print does not take.
import Derived.Test.YtiodpkkigjfkgaaDoorAx0
import Derived.Test.YtiodpkkigjfkgaaDoorAx9
import Derived.Test.YtiodpkkigjfkgaaDoorAx10
import Derived.Test.YtiodpkkigjfkgaaDoorAx11
import Derived.Test.YtiodpkkigjfkgaaDoorAx20
namespace Go.Proofs.YtiodpkkigjfkgaaDoor.A
open Go.RowKit Go.Proofs.YtiodpkkigjfkgaaDoorW.PrintWords Go.Proofs.YtiodpkkigjfkgaaDoorW.PrintLast Go.Proofs.YtiodpkkigjfkgaaDoorW.PrintMore
attribute [local go_sem] max2_int min2_int max_two min_two max_three min_three max_four min_four   -- for this text's walks alone
set_option linter.unusedVariables false
set_option linter.unusedSimpArgs false

/-! ### emulatorlaw01_WordTurns: function 9 -/
mutual
def emulatorlaw01_WordTurns.j0 : Nat → Int → Int → Int → Int → Int → Int → Int → Bool → Option (Bool)
  | 0, _, _, _, _, _, _, _, _ => none
  | k + 1, x1, x7, x8, x9, x286000, x286001, x286002, x286003 => if x7 = (Go.bits .and .i64 x286000 x9) then (emulatorlaw01_WordTurns.j1 k x1 ((Go.bits .and .i64 x8 1) != (Go.bits .and .i64 x286002 1)) x286000 x286001 x286002 x286003) else (emulatorlaw01_WordTurns.j1 k x1 true x286000 x286001 x286002 x286003)
def emulatorlaw01_WordTurns.j1 : Nat → Int → Bool → Int → Int → Int → Bool → Option (Bool)
  | 0, _, _, _, _, _, _ => none
  | k + 1, x1, x48, x286000, x286001, x286002, x286003 => if x48 = true then (some false) else ((word_Shift.f k x286000 (wrap64 (Int.tmod x1 16))).bind fun bt290 => ((word_Shift.f k x286000 (wrap64 (-(wrap64 (Int.tmod x1 16))))).bind fun bt292 => (if 0 ≤ (wrap64 (Int.tmod x1 16)) then (if bt290.1 = (Go.bits .and .i64 (shl .i64 x286000 (wrap64 (Int.tmod x1 16))) 65535) then ((emulatorlaw01_signed.f (Go.bits .and .i64 x286000 65535) false).bind fun t294 => (if bt292.1 = (Go.bits .and .i64 (shr .i64 t294 (wrap64 (Int.tmod x1 16))) 65535) then ((emulatorlaw01_alive.f k).bind fun t295 => (some t295)) else (some false))) else (some false)) else (none))))
end
def emulatorlaw01_WordTurns.f (k : Nat) (a0_0 : Int) (a0_1 : Int) (a0_2 : Int) (a0_3 : Bool) (a1 : Int) : Option (Bool) := (word_Rotate.f a0_0 a0_2 true a0_3).bind fun bt286 => ((word_Rotate.f bt286.1 bt286.2 false a0_3).bind fun bt288 => (if a0_3 = true then (emulatorlaw01_WordTurns.j0 k a1 bt288.1 bt288.2 255 a0_0 a0_1 a0_2 a0_3) else (emulatorlaw01_WordTurns.j0 k a1 bt288.1 bt288.2 65535 a0_0 a0_1 a0_2 a0_3)))
theorem emulatorlaw01_WordTurns.mono_l : ∀ k, (∀ y0 y1 y2 y3 y4 y5 y6 y7, LeO (emulatorlaw01_WordTurns.j0 k y0 y1 y2 y3 y4 y5 y6 y7) (emulatorlaw01_WordTurns.j0 (k + 1) y0 y1 y2 y3 y4 y5 y6 y7)) ∧ (∀ y0 y1 y2 y3 y4 y5, LeO (emulatorlaw01_WordTurns.j1 k y0 y1 y2 y3 y4 y5) (emulatorlaw01_WordTurns.j1 (k + 1) y0 y1 y2 y3 y4 y5))
  | 0 => ⟨fun _ _ _ _ _ _ _ _ r h => by simp [emulatorlaw01_WordTurns.j0] at h, fun _ _ _ _ _ _ r h => by simp [emulatorlaw01_WordTurns.j1] at h⟩
  | k + 1 => by
    obtain ⟨ih0, ih1⟩ := emulatorlaw01_WordTurns.mono_l k
    refine ⟨?_, ?_⟩
    · intro y0 y1 y2 y3 y4 y5 y6 y7
      unfold emulatorlaw01_WordTurns.j0
      repeat' first
      | (with_reducible exact ih0 _ _ _ _ _ _ _ _)
      | (with_reducible exact ih1 _ _ _ _ _ _)
      | (with_reducible exact emulatorlaw01_alive.mono _)
      | (with_reducible exact word_Shift.mono _ _ _)
      | (with_reducible exact LeO.refl _)
      | (with_reducible exact LeO.none _)
      | (with_reducible refine LeO.ite ?_ ?_)
      | (with_reducible refine LeO.bind ?_ (fun _ => ?_))
      | exact ih0 _ _ _ _ _ _ _ _
      | exact ih1 _ _ _ _ _ _
      | exact emulatorlaw01_alive.mono _
      | exact word_Shift.mono _ _ _
      | exact LeO.none _
      | refine LeO.ite ?_ ?_
      | refine LeO.bind ?_ (fun _ => ?_)
    · intro y0 y1 y2 y3 y4 y5
      unfold emulatorlaw01_WordTurns.j1
      repeat' first
      | (with_reducible exact ih0 _ _ _ _ _ _ _ _)
      | (with_reducible exact ih1 _ _ _ _ _ _)
      | (with_reducible exact emulatorlaw01_alive.mono _)
      | (with_reducible exact word_Shift.mono _ _ _)
      | (with_reducible exact LeO.refl _)
      | (with_reducible exact LeO.none _)
      | (with_reducible refine LeO.ite ?_ ?_)
      | (with_reducible refine LeO.bind ?_ (fun _ => ?_))
      | exact ih0 _ _ _ _ _ _ _ _
      | exact ih1 _ _ _ _ _ _
      | exact emulatorlaw01_alive.mono _
      | exact word_Shift.mono _ _ _
      | exact LeO.none _
      | refine LeO.ite ?_ ?_
      | refine LeO.bind ?_ (fun _ => ?_)
theorem emulatorlaw01_WordTurns.mono : ∀ a0 a1 a2 a3 a4 k, LeO (emulatorlaw01_WordTurns.f k a0 a1 a2 a3 a4) (emulatorlaw01_WordTurns.f (k + 1) a0 a1 a2 a3 a4) := by
  intro a0 a1 a2 a3 a4 k
  obtain ⟨ih0, ih1⟩ := emulatorlaw01_WordTurns.mono_l k
  unfold emulatorlaw01_WordTurns.f
  repeat' first
      | (with_reducible exact ih0 _ _ _ _ _ _ _ _)
      | (with_reducible exact ih1 _ _ _ _ _ _)
      | (with_reducible exact emulatorlaw01_alive.mono _)
      | (with_reducible exact word_Shift.mono _ _ _)
      | (with_reducible exact LeO.refl _)
      | (with_reducible exact LeO.none _)
      | (with_reducible refine LeO.ite ?_ ?_)
      | (with_reducible refine LeO.bind ?_ (fun _ => ?_))
      | exact ih0 _ _ _ _ _ _ _ _
      | exact ih1 _ _ _ _ _ _
      | exact emulatorlaw01_alive.mono _
      | exact word_Shift.mono _ _ _
      | exact LeO.none _
      | refine LeO.ite ?_ ?_
      | refine LeO.bind ?_ (fun _ => ?_)
set_option maxHeartbeats 8000000 in
set_option maxRecDepth 100000 in
theorem emulatorlaw01_WordTurns.calls (k : Nat) (a0_0 : Int) (a0_1 : Int) (a0_2 : Int) (a0_3 : Bool) (a1 : Int) (r : Bool) (w : World) (hS : Sz w) (h : emulatorlaw01_WordTurns.f k a0_0 a0_1 a0_2 a0_3 a1 = some r) (hr0 : r = true) :
    Calls Tryd.prog 9 #[.agg #[.int .i64 a0_0, .int .i64 a0_1, .int .i64 a0_2, .bool a0_3], .int .u8 a1] w fun e w' => e = .returned (.bool r) ∧ Below w.heap.size w w' := by
  have hu23 := Tryd.underlying23
  have hr_ := Aside0.mk hr0
  clear hr0
  have HB := Aside0.mk (Below.refl w.heap.size w)
  have H : ((word_Rotate.f a0_0 a0_2 true a0_3).bind fun bt286 => ((word_Rotate.f bt286.1 bt286.2 false a0_3).bind fun bt288 => (if a0_3 = true then (emulatorlaw01_WordTurns.j0 k a1 bt288.1 bt288.2 255 a0_0 a0_1 a0_2 a0_3) else (emulatorlaw01_WordTurns.j0 k a1 bt288.1 bt288.2 65535 a0_0 a0_1 a0_2 a0_3)))) = some r := h
  clear h
  replace H := Option.bind_eq_some_iff.mp H
  obtain ⟨⟨t286, t287⟩, A30, H⟩ := H
  replace H : ((word_Rotate.f t286 t287 false a0_3).bind fun bt288 => (if a0_3 = true then (emulatorlaw01_WordTurns.j0 k a1 bt288.1 bt288.2 255 a0_0 a0_1 a0_2 a0_3) else (emulatorlaw01_WordTurns.j0 k a1 bt288.1 bt288.2 65535 a0_0 a0_1 a0_2 a0_3))) = some r := H
  have A3 := Aside0.mk A30
  clear A30
  replace H := Option.bind_eq_some_iff.mp H
  obtain ⟨⟨t288, t289⟩, A40, H⟩ := H
  replace H : (if a0_3 = true then (emulatorlaw01_WordTurns.j0 k a1 t288 t289 255 a0_0 a0_1 a0_2 a0_3) else (emulatorlaw01_WordTurns.j0 k a1 t288 t289 65535 a0_0 a0_1 a0_2 a0_3)) = some r := H
  have A4 := Aside0.mk A40
  clear A40
  have HC5 := Aside0.mk H
  clear H
  go_enter Tryd.func9, Tryd.ntmps9
  go_upto_if 34 with (first | ((with_reducible refine gate_dst (N := 2) rfl ?_); refine box_event ?hg (N := 2) ?hd (cs := #[.int .i64 a0_0, .int .i64 a0_1, .int .i64 a0_2, .bool a0_3]) (t := 23) ?hr ?_; (case hd => rfl); (case hg => rfl); (case hr => first | (go_simp; done) | (go_simp; rfl)); intro gb285 hg w6 hbox hb; have n0_ := Aside0.mk (below_step (by repeat (first | (with_reducible first | exact HB.out | apply below_alloc | apply pw_below_drewN | apply below_drew1) | exact HB.out)) hb); have n1_ := Aside0.mk (hbox); have n2_ := Aside0.mk ((by rw [hg]; exact (below_size (by repeat (first | (with_reducible first | exact HB.out | apply below_alloc | apply pw_below_drewN | apply below_drew1) | exact HB.out))) : w.heap.size ≤ gb285)); have n3_ := Aside0.mk ((by rw [hg]; exact (below_size (by repeat (first | (with_reducible first | exact HB.out | apply below_alloc | apply pw_below_drewN | apply below_drew1) | exact HB.out))) : w.heap.size ≤ gb285)); clear HB; have HB := n0_; have BK285 := n1_; have GW285 := n2_; have GE285 := n3_; clear n0_ n1_ n2_ n3_; clear hb hbox hg; have hcz7_0 : w6.cell? ⟨gb285, 0, none⟩ = some (.int .i64 a0_0) := (blk_cell BK285.out 0).trans rfl; have hcz7_1 : w6.cell? ⟨gb285, 1, none⟩ = some (.int .i64 a0_1) := (blk_cell BK285.out 1).trans rfl; have hcz7_2 : w6.cell? ⟨gb285, 2, none⟩ = some (.int .i64 a0_2) := (blk_cell BK285.out 2).trans rfl; have hcz7_3 : w6.cell? ⟨gb285, 3, none⟩ = some (.bool a0_3) := (blk_cell BK285.out 3).trans rfl; have hfz7_0 := blk_frozen BK285.out 0; have hfz7_1 := blk_frozen BK285.out 1; have hfz7_2 := blk_frozen BK285.out 2; have hfz7_3 := blk_frozen BK285.out 3) | ((with_reducible refine gate_callee (f := 22) rfl ?_); refine goesL_ (some 22) rfl rfl Tryd.func22 (by kernel_rfl) rfl #[.int .i64 a0_0, .int .i64 a0_2, .bool true, .bool a0_3] rfl (by (try simp only [List.map_toArray, List.map_cons, List.map_nil]); first | done | rfl | (simp only [List.length_drop, List.length_take]; rfl)) ?_; (with_reducible refine (word_Rotate.calls a0_0 a0_2 true a0_3 t286 t287 _ (hS.go (by repeat (first | (with_reducible first | exact HB.out | apply below_alloc | apply pw_below_drewN | apply below_drew1 | refine below_set ?_ GE285.out) | exact HB.out))) A3.out).mono ?_); rintro e w8 ⟨rfl, hb⟩; refine ⟨_, rfl, ?_⟩; have n0_ := Aside0.mk (blk_below (g := gb285) (o := .cells #[.int .i64 a0_0, .int .i64 a0_1, .int .i64 a0_2, .bool a0_3] 23 (0, 0)) (by (with_reducible repeat (first | refine blk_drewN ?_ _ | refine blk_drew ?_ | refine blk_alloc ?_ _)); exact BK285.out) hb); have n1_ := Aside0.mk (below_step (by repeat (first | (with_reducible first | exact HB.out | apply below_alloc | apply pw_below_drewN | apply below_drew1 | refine below_set ?_ GE285.out) | exact HB.out)) hb); clear BK285; clear HB; have BK285 := n0_; have HB := n1_; clear n0_ n1_; (try clear hb); (try clear hb2); (try clear hk); (try clear hi); have hcz9_0 : w8.cell? ⟨gb285, 0, none⟩ = some (.int .i64 a0_0) := (blk_cell BK285.out 0).trans rfl; have hcz9_1 : w8.cell? ⟨gb285, 1, none⟩ = some (.int .i64 a0_1) := (blk_cell BK285.out 1).trans rfl; have hcz9_2 : w8.cell? ⟨gb285, 2, none⟩ = some (.int .i64 a0_2) := (blk_cell BK285.out 2).trans rfl; have hcz9_3 : w8.cell? ⟨gb285, 3, none⟩ = some (.bool a0_3) := (blk_cell BK285.out 3).trans rfl; have hfz9_0 := blk_frozen BK285.out 0; have hfz9_1 := blk_frozen BK285.out 1; have hfz9_2 := blk_frozen BK285.out 2; have hfz9_3 := blk_frozen BK285.out 3) | ((with_reducible refine gate_callee (f := 22) rfl ?_); refine goesL_ (some 30) rfl rfl Tryd.func22 (by kernel_rfl) rfl #[.int .i64 t286, .int .i64 t287, .bool false, .bool a0_3] rfl (by (try simp only [List.map_toArray, List.map_cons, List.map_nil]); first | done | rfl | (simp only [List.length_drop, List.length_take]; rfl)) ?_; (with_reducible refine (word_Rotate.calls t286 t287 false a0_3 t288 t289 _ (hS.go (by repeat (first | (with_reducible first | exact HB.out | apply below_alloc | apply pw_below_drewN | apply below_drew1 | refine below_set ?_ GE285.out) | exact HB.out))) A4.out).mono ?_); rintro e w10 ⟨rfl, hb⟩; refine ⟨_, rfl, ?_⟩; have n0_ := Aside0.mk (blk_below (g := gb285) (o := .cells #[.int .i64 a0_0, .int .i64 a0_1, .int .i64 a0_2, .bool a0_3] 23 (0, 0)) (by (with_reducible repeat (first | refine blk_drewN ?_ _ | refine blk_drew ?_ | refine blk_alloc ?_ _)); exact BK285.out) hb); have n1_ := Aside0.mk (below_step (by repeat (first | (with_reducible first | exact HB.out | apply below_alloc | apply pw_below_drewN | apply below_drew1 | refine below_set ?_ GE285.out) | exact HB.out)) hb); clear BK285; clear HB; have BK285 := n0_; have HB := n1_; clear n0_ n1_; (try clear hb); (try clear hb2); (try clear hk); (try clear hi); have hcz11_0 : w10.cell? ⟨gb285, 0, none⟩ = some (.int .i64 a0_0) := (blk_cell BK285.out 0).trans rfl; have hcz11_1 : w10.cell? ⟨gb285, 1, none⟩ = some (.int .i64 a0_1) := (blk_cell BK285.out 1).trans rfl; have hcz11_2 : w10.cell? ⟨gb285, 2, none⟩ = some (.int .i64 a0_2) := (blk_cell BK285.out 2).trans rfl; have hcz11_3 : w10.cell? ⟨gb285, 3, none⟩ = some (.bool a0_3) := (blk_cell BK285.out 3).trans rfl; have hfz11_0 := blk_frozen BK285.out 0; have hfz11_1 := blk_frozen BK285.out 1; have hfz11_2 := blk_frozen BK285.out 2; have hfz11_3 := blk_frozen BK285.out 3))
  (try simp only [Act.put, List.setIfInBounds_toArray, List.set_cons_zero, List.set_cons_succ])
  go_cut [9] (fun v9 wc => ∃ (kq : Nat) (x9_4 : Int), v9 = .int .i64 x9_4 ∧ Aside0 (emulatorlaw01_WordTurns.j0 kq a1 t288 t289 x9_4 a0_0 a0_1 a0_2 a0_3 = some r) ∧ Aside0 (kq ≤ k) ∧ Aside0 (wc.heap[gb285]? = some (.cells #[.int .i64 a0_0, .int .i64 a0_1, .int .i64 a0_2, .bool a0_3] 23 (0, 0))) ∧ Aside0 (Below w.heap.size w wc))
  case first =>
    have H := HC5.out
    clear HC5
    by_cases c12 : a0_3 = true
    · subst c12
      have H1 : (emulatorlaw01_WordTurns.j0 k a1 t288 t289 255 a0_0 a0_1 a0_2 true) = some r := by rw [if_pos rfl] at H; exact H
      clear H
      have H := H1
      clear H1
      have H' := Aside0.mk H
      clear H
      go_wp2
      go_meet
      case rel => exact ⟨_, (255), (by first | rfl | (simp; done) | (simp [*]; done)), H', ⟨by first | omega | exact Nat.le_refl _⟩, ⟨by (with_reducible repeat (first | refine blk_drewN ?_ _ | refine blk_drew ?_ | refine blk_alloc ?_ _)); exact BK285.out⟩, ⟨by repeat (first | (with_reducible first | exact HB.out | apply below_alloc | apply pw_below_drewN | apply below_drew1 | refine below_set ?_ GE285.out) | exact HB.out)⟩⟩
    · replace c12 := Bool.eq_false_iff.mpr c12
      subst c12
      have H1 : (emulatorlaw01_WordTurns.j0 k a1 t288 t289 65535 a0_0 a0_1 a0_2 false) = some r := by rw [if_neg (show ¬ (false = true) by decide)] at H; exact H
      clear H
      have H := H1
      clear H1
      have H' := Aside0.mk H
      clear H
      go_wp2
      go_meet
      case rel => exact ⟨_, (65535), (by first | rfl | (simp; done) | (simp [*]; done)), H', ⟨by first | omega | exact Nat.le_refl _⟩, ⟨by (with_reducible repeat (first | refine blk_drewN ?_ _ | refine blk_drew ?_ | refine blk_alloc ?_ _)); exact BK285.out⟩, ⟨by repeat (first | (with_reducible first | exact HB.out | apply below_alloc | apply pw_below_drewN | apply below_drew1 | refine below_set ?_ GE285.out) | exact HB.out)⟩⟩
  case rest =>
    clear HC5
    try clear c1
    try clear c2
    try clear p2
    try clear c9
    try clear c12
    try clear hcz11_0
    try clear hcz11_1
    try clear hcz11_2
    try clear hcz11_3
    try clear hcz7_0
    try clear hcz7_1
    try clear hcz7_2
    try clear hcz7_3
    try clear hcz9_0
    try clear hcz9_1
    try clear hcz9_2
    try clear hcz9_3
    try clear hfz11_0
    try clear hfz11_1
    try clear hfz11_2
    try clear hfz11_3
    try clear hfz7_0
    try clear hfz7_1
    try clear hfz7_2
    try clear hfz7_3
    try clear hfz9_0
    try clear hfz9_1
    try clear hfz9_2
    try clear hfz9_3
    obtain ⟨kq, x9_4, rfl, HA, HJ4, BK285, HB⟩ := hcut
    cases kq with
    | zero => exact absurd HA.out (by simp [emulatorlaw01_WordTurns.j0])
    | succ kj4 =>
      have H := HA.out
      clear HA
      simp only [emulatorlaw01_WordTurns.j0] at H
      have HC13 := Aside0.mk H
      clear H
      go_upto_region 6 with (fail)
      go_cut [48] (fun v48 wc => ∃ (kq : Nat) (x48_12 : Bool), v48 = .bool x48_12 ∧ Aside0 (emulatorlaw01_WordTurns.j1 kq a1 x48_12 a0_0 a0_1 a0_2 a0_3 = some r) ∧ Aside0 (kq ≤ kj4) ∧ Aside0 (wc.heap[gb285]? = some (.cells #[.int .i64 a0_0, .int .i64 a0_1, .int .i64 a0_2, .bool a0_3] 23 (0, 0))) ∧ Aside0 (Below w.heap.size w wc))
      case first =>
        have H := HC13.out
        clear HC13
        by_cases c14 : t288 = (Go.bits .and .i64 a0_0 x9_4)
        · rw [if_pos c14] at H
          have c14b0 : (t288 == (Go.bits .and .i64 a0_0 x9_4)) = true := beq_iff_eq.mpr c14
          have c14b1 : (t288 != (Go.bits .and .i64 a0_0 x9_4)) = false := bne_eq_false_iff_eq.mpr c14
          clear c14
          (first | rw [c14b0] | (simp only [i64_w, i32_w]; rw [c14b0]) | skip)
          have H' := Aside0.mk H
          clear H
          have hcz15_0 : wc.cell? ⟨gb285, 0, none⟩ = some (.int .i64 a0_0) := (blk_cell BK285.out 0).trans rfl
          have hcz15_1 : wc.cell? ⟨gb285, 1, none⟩ = some (.int .i64 a0_1) := (blk_cell BK285.out 1).trans rfl
          have hcz15_2 : wc.cell? ⟨gb285, 2, none⟩ = some (.int .i64 a0_2) := (blk_cell BK285.out 2).trans rfl
          have hcz15_3 : wc.cell? ⟨gb285, 3, none⟩ = some (.bool a0_3) := (blk_cell BK285.out 3).trans rfl
          have hfz15_0 := blk_frozen BK285.out 0
          have hfz15_1 := blk_frozen BK285.out 1
          have hfz15_2 := blk_frozen BK285.out 2
          have hfz15_3 := blk_frozen BK285.out 3
          go_wp2
          go_meet
          case rel => exact ⟨_, (((Go.bits .and .i64 t289 1) != (Go.bits .and .i64 a0_2 1))), (by first | rfl | (simp; done) | (simp [*]; done)), H', ⟨by have := HJ4.out; first | omega | exact Nat.le_refl _⟩, ⟨by (with_reducible repeat (first | refine blk_drewN ?_ _ | refine blk_drew ?_ | refine blk_alloc ?_ _)); exact BK285.out⟩, ⟨by repeat (first | (with_reducible first | exact HB.out | apply below_alloc | apply pw_below_drewN | apply below_drew1 | refine below_set ?_ GE285.out) | exact HB.out)⟩⟩
        · rw [if_neg c14] at H
          have c14b0 : (t288 == (Go.bits .and .i64 a0_0 x9_4)) = false := beq_eq_false_iff_ne.mpr c14
          have c14b1 : (t288 != (Go.bits .and .i64 a0_0 x9_4)) = true := bne_iff_ne.mpr c14
          (first | rw [c14b0] | (simp only [i64_w, i32_w]; rw [c14b0]) | skip)
          have H' := Aside0.mk H
          clear H
          have hcz16_0 : wc.cell? ⟨gb285, 0, none⟩ = some (.int .i64 a0_0) := (blk_cell BK285.out 0).trans rfl
          have hcz16_1 : wc.cell? ⟨gb285, 1, none⟩ = some (.int .i64 a0_1) := (blk_cell BK285.out 1).trans rfl
          have hcz16_2 : wc.cell? ⟨gb285, 2, none⟩ = some (.int .i64 a0_2) := (blk_cell BK285.out 2).trans rfl
          have hcz16_3 : wc.cell? ⟨gb285, 3, none⟩ = some (.bool a0_3) := (blk_cell BK285.out 3).trans rfl
          have hfz16_0 := blk_frozen BK285.out 0
          have hfz16_1 := blk_frozen BK285.out 1
          have hfz16_2 := blk_frozen BK285.out 2
          have hfz16_3 := blk_frozen BK285.out 3
          go_wp2
          go_meet
          case rel => exact ⟨_, (true), (by first | rfl | (simp; done) | (simp [*]; done)), H', ⟨by have := HJ4.out; first | omega | exact Nat.le_refl _⟩, ⟨by (with_reducible repeat (first | refine blk_drewN ?_ _ | refine blk_drew ?_ | refine blk_alloc ?_ _)); exact BK285.out⟩, ⟨by repeat (first | (with_reducible first | exact HB.out | apply below_alloc | apply pw_below_drewN | apply below_drew1 | refine below_set ?_ GE285.out) | exact HB.out)⟩⟩
      case rest =>
        clear HC13
        try clear c1
        try clear c2
        try clear p2
        try clear c9
        try clear c12
        try clear c14
        try clear c14b0
        try clear c14b1
        try clear hcz11_0
        try clear hcz11_1
        try clear hcz11_2
        try clear hcz11_3
        try clear hcz15_0
        try clear hcz15_1
        try clear hcz15_2
        try clear hcz15_3
        try clear hcz16_0
        try clear hcz16_1
        try clear hcz16_2
        try clear hcz16_3
        try clear hcz7_0
        try clear hcz7_1
        try clear hcz7_2
        try clear hcz7_3
        try clear hcz9_0
        try clear hcz9_1
        try clear hcz9_2
        try clear hcz9_3
        try clear hfz11_0
        try clear hfz11_1
        try clear hfz11_2
        try clear hfz11_3
        try clear hfz15_0
        try clear hfz15_1
        try clear hfz15_2
        try clear hfz15_3
        try clear hfz16_0
        try clear hfz16_1
        try clear hfz16_2
        try clear hfz16_3
        try clear hfz7_0
        try clear hfz7_1
        try clear hfz7_2
        try clear hfz7_3
        try clear hfz9_0
        try clear hfz9_1
        try clear hfz9_2
        try clear hfz9_3
        try clear p2
        obtain ⟨kq, x48_12, rfl, HA, HJ12, BK285, HB⟩ := hcut
        cases kq with
        | zero => exact absurd HA.out (by simp [emulatorlaw01_WordTurns.j1])
        | succ kj12 =>
          have H := HA.out
          clear HA
          simp only [emulatorlaw01_WordTurns.j1] at H
          by_cases c17 : x48_12 = true
          · subst c17
            have H1 : (some false) = some r := by rw [if_pos rfl] at H; exact H
            clear H
            have H := H1
            clear H1
            exact absurd (H.trans (congrArg some hr_.out)) (by decide)
          · replace c17 := Bool.eq_false_iff.mpr c17
            subst c17
            have H1 : ((word_Shift.f kj12 a0_0 (wrap64 (Int.tmod a1 16))).bind fun bt290 => ((word_Shift.f kj12 a0_0 (wrap64 (-(wrap64 (Int.tmod a1 16))))).bind fun bt292 => (if 0 ≤ (wrap64 (Int.tmod a1 16)) then (if bt290.1 = (Go.bits .and .i64 (shl .i64 a0_0 (wrap64 (Int.tmod a1 16))) 65535) then ((emulatorlaw01_signed.f (Go.bits .and .i64 a0_0 65535) false).bind fun t294 => (if bt292.1 = (Go.bits .and .i64 (shr .i64 t294 (wrap64 (Int.tmod a1 16))) 65535) then ((emulatorlaw01_alive.f kj12).bind fun t295 => (some t295)) else (some false))) else (some false)) else (none)))) = some r := by rw [if_neg (show ¬ (false = true) by decide)] at H; exact H
            clear H
            have H := H1
            clear H1
            replace H := Option.bind_eq_some_iff.mp H
            obtain ⟨⟨t290, t291⟩, A180, H⟩ := H
            replace H : ((word_Shift.f kj12 a0_0 (wrap64 (-(wrap64 (Int.tmod a1 16))))).bind fun bt292 => (if 0 ≤ (wrap64 (Int.tmod a1 16)) then (if t290 = (Go.bits .and .i64 (shl .i64 a0_0 (wrap64 (Int.tmod a1 16))) 65535) then ((emulatorlaw01_signed.f (Go.bits .and .i64 a0_0 65535) false).bind fun t294 => (if bt292.1 = (Go.bits .and .i64 (shr .i64 t294 (wrap64 (Int.tmod a1 16))) 65535) then ((emulatorlaw01_alive.f kj12).bind fun t295 => (some t295)) else (some false))) else (some false)) else (none))) = some r := H
            have A18 := Aside0.mk A180
            clear A180
            replace H := Option.bind_eq_some_iff.mp H
            obtain ⟨⟨t292, t293⟩, A190, H⟩ := H
            replace H : (if 0 ≤ (wrap64 (Int.tmod a1 16)) then (if t290 = (Go.bits .and .i64 (shl .i64 a0_0 (wrap64 (Int.tmod a1 16))) 65535) then ((emulatorlaw01_signed.f (Go.bits .and .i64 a0_0 65535) false).bind fun t294 => (if t292 = (Go.bits .and .i64 (shr .i64 t294 (wrap64 (Int.tmod a1 16))) 65535) then ((emulatorlaw01_alive.f kj12).bind fun t295 => (some t295)) else (some false))) else (some false)) else (none)) = some r := H
            have A19 := Aside0.mk A190
            clear A190
            obtain ⟨ji20, hji20⟩ : ∃ j_ : Int, (wrap64 (Int.tmod a1 16)) = j_ := ⟨_, rfl⟩
            replace H : (if 0 ≤ (ji20) then (if t290 = (Go.bits .and .i64 (shl .i64 a0_0 (ji20)) 65535) then ((emulatorlaw01_signed.f (Go.bits .and .i64 a0_0 65535) false).bind fun t294 => (if t292 = (Go.bits .and .i64 (shr .i64 t294 (ji20)) 65535) then ((emulatorlaw01_alive.f kj12).bind fun t295 => (some t295)) else (some false))) else (some false)) else (none)) = some r := by first | (rw [hji20] at H; exact H) | (simp only [hji20] at H ⊢; exact H)
            (try rw [hji20] at A18)
            (try rw [hji20] at A19)
            have hji20w : (IntKind.i64.wrap (Int.tmod a1 16)) = ji20 := (i64_w _).trans hji20
            by_cases c21 : 0 ≤ (ji20)
            · rw [if_pos c21] at H
              have c21b0 := eq_true c21
              have c21b1 : decide (0 ≤ (ji20)) = true := decide_eq_true c21
              clear c21
              obtain ⟨ji22, hji22⟩ : ∃ j_ : Int, (shl .i64 a0_0 (ji20)) = j_ := ⟨_, rfl⟩
              replace H : (if t290 = (Go.bits .and .i64 (ji22) 65535) then ((emulatorlaw01_signed.f (Go.bits .and .i64 a0_0 65535) false).bind fun t294 => (if t292 = (Go.bits .and .i64 (shr .i64 t294 (ji20)) 65535) then ((emulatorlaw01_alive.f kj12).bind fun t295 => (some t295)) else (some false))) else (some false)) = some r := by first | (rw [hji22] at H; exact H) | (simp only [hji22] at H ⊢; exact H)
              (try rw [hji22] at A18)
              (try rw [hji22] at A19)
              have hji22_ : (IntKind.i64.wrap (a0_0 * 2 ^ min (ji20).toNat 64)) = ji22 := hji22
              have hji22z : (ji20) ≤ 64 → (IntKind.i64.wrap (a0_0 * 2 ^ (ji20).toNat)) = ji22 := shl_small hji22
              have hji22y : (wrap64 (a0_0 * 2 ^ min (ji20).toNat 64)) = ji22 := (i64_w _).symm.trans hji22_
              have hji22x : (ji20) ≤ 64 → (wrap64 (a0_0 * 2 ^ (ji20).toNat)) = ji22 := fun h_ => (i64_w _).symm.trans (hji22z h_)
              by_cases c23 : t290 = (Go.bits .and .i64 (ji22) 65535)
              · rw [if_pos c23] at H
                have c23b0 : (t290 == (Go.bits .and .i64 (ji22) 65535)) = true := beq_iff_eq.mpr c23
                have c23b1 : (t290 != (Go.bits .and .i64 (ji22) 65535)) = false := bne_eq_false_iff_eq.mpr c23
                clear c23
                replace H := Option.bind_eq_some_iff.mp H
                obtain ⟨t294, A240, H⟩ := H
                replace H : (if t292 = (Go.bits .and .i64 (shr .i64 t294 (ji20)) 65535) then ((emulatorlaw01_alive.f kj12).bind fun t295 => (some t295)) else (some false)) = some r := H
                have A24 := Aside0.mk A240
                clear A240
                have c25b0 := eq_true (of_decide_eq_true (by first | (with_reducible assumption) | assumption) : 0 ≤ (ji20))
                obtain ⟨ji26, hji26⟩ : ∃ j_ : Int, (shr .i64 t294 (ji20)) = j_ := ⟨_, rfl⟩
                replace H : (if t292 = (Go.bits .and .i64 (ji26) 65535) then ((emulatorlaw01_alive.f kj12).bind fun t295 => (some t295)) else (some false)) = some r := by first | (rw [hji26] at H; exact H) | (simp only [hji26] at H ⊢; exact H)
                (try rw [hji26] at A18)
                (try rw [hji26] at A19)
                (try rw [hji26] at A24)
                have hji26_ : (t294 / 2 ^ min (ji20).toNat 64) = ji26 := hji26
                have hji26z : (ji20) ≤ 64 → (t294 / 2 ^ (ji20).toNat) = ji26 := shr_small hji26
                by_cases c27 : t292 = (Go.bits .and .i64 (ji26) 65535)
                · rw [if_pos c27] at H
                  have c27b0 : (t292 == (Go.bits .and .i64 (ji26) 65535)) = true := beq_iff_eq.mpr c27
                  have c27b1 : (t292 != (Go.bits .and .i64 (ji26) 65535)) = false := bne_eq_false_iff_eq.mpr c27
                  clear c27
                  replace H := Option.bind_eq_some_iff.mp H
                  obtain ⟨t295, A280, H⟩ := H
                  replace H : (some t295) = some r := H
                  have A28 := Aside0.mk A280
                  clear A280
                  obtain rfl := Option.some.inj H
                  have hcz29_0 : wc.cell? ⟨gb285, 0, none⟩ = some (.int .i64 a0_0) := (blk_cell BK285.out 0).trans rfl
                  have hcz29_1 : wc.cell? ⟨gb285, 1, none⟩ = some (.int .i64 a0_1) := (blk_cell BK285.out 1).trans rfl
                  have hcz29_2 : wc.cell? ⟨gb285, 2, none⟩ = some (.int .i64 a0_2) := (blk_cell BK285.out 2).trans rfl
                  have hcz29_3 : wc.cell? ⟨gb285, 3, none⟩ = some (.bool a0_3) := (blk_cell BK285.out 3).trans rfl
                  have hfz29_0 := blk_frozen BK285.out 0
                  have hfz29_1 := blk_frozen BK285.out 1
                  have hfz29_2 := blk_frozen BK285.out 2
                  have hfz29_3 := blk_frozen BK285.out 3
                  go_wp2_with (first | ((with_reducible refine gate_callee (f := 20) rfl ?_); refine goesL_ (some 56) rfl rfl Tryd.func20 (by kernel_rfl) rfl #[.int .i64 a0_0, .int .i64 ji20] rfl (by (try simp only [List.map_toArray, List.map_cons, List.map_nil]); first | done | (simp only [hji20]; rfl) | rfl | (simp only [List.length_drop, List.length_take]; rfl)) ?_; (with_reducible refine (word_Shift.calls kj12 a0_0 ji20 t290 t291 _ (hS.go (by repeat (first | (with_reducible first | exact HB.out | apply below_alloc | apply pw_below_drewN | apply below_drew1 | refine below_set ?_ GE285.out) | exact HB.out))) A18.out).mono ?_); rintro e w30 ⟨rfl, hb⟩; refine ⟨_, rfl, ?_⟩; have n0_ := Aside0.mk (blk_below (g := gb285) (o := .cells #[.int .i64 a0_0, .int .i64 a0_1, .int .i64 a0_2, .bool a0_3] 23 (0, 0)) (by (with_reducible repeat (first | refine blk_drewN ?_ _ | refine blk_drew ?_ | refine blk_alloc ?_ _)); exact BK285.out) hb); have n1_ := Aside0.mk (below_step (by repeat (first | (with_reducible first | exact HB.out | apply below_alloc | apply pw_below_drewN | apply below_drew1 | refine below_set ?_ GE285.out) | exact HB.out)) hb); clear BK285; clear HB; have BK285 := n0_; have HB := n1_; clear n0_ n1_; (try clear hb); (try clear hb2); (try clear hk); (try clear hi); have hcz31_0 : w30.cell? ⟨gb285, 0, none⟩ = some (.int .i64 a0_0) := (blk_cell BK285.out 0).trans rfl; have hcz31_1 : w30.cell? ⟨gb285, 1, none⟩ = some (.int .i64 a0_1) := (blk_cell BK285.out 1).trans rfl; have hcz31_2 : w30.cell? ⟨gb285, 2, none⟩ = some (.int .i64 a0_2) := (blk_cell BK285.out 2).trans rfl; have hcz31_3 : w30.cell? ⟨gb285, 3, none⟩ = some (.bool a0_3) := (blk_cell BK285.out 3).trans rfl; have hfz31_0 := blk_frozen BK285.out 0; have hfz31_1 := blk_frozen BK285.out 1; have hfz31_2 := blk_frozen BK285.out 2; have hfz31_3 := blk_frozen BK285.out 3) | ((with_reducible refine gate_callee (f := 20) rfl ?_); refine goesL_ (some 64) rfl rfl Tryd.func20 (by kernel_rfl) rfl #[.int .i64 a0_0, .int .i64 (wrap64 (-(ji20)))] rfl (by (try simp only [List.map_toArray, List.map_cons, List.map_nil]); first | done | (simp only [hji20]; rfl) | rfl | (simp only [List.length_drop, List.length_take]; rfl)) ?_; (with_reducible refine (word_Shift.calls kj12 a0_0 (wrap64 (-(ji20))) t292 t293 _ (hS.go (by repeat (first | (with_reducible first | exact HB.out | apply below_alloc | apply pw_below_drewN | apply below_drew1 | refine below_set ?_ GE285.out) | exact HB.out))) A19.out).mono ?_); rintro e w32 ⟨rfl, hb⟩; refine ⟨_, rfl, ?_⟩; have n0_ := Aside0.mk (blk_below (g := gb285) (o := .cells #[.int .i64 a0_0, .int .i64 a0_1, .int .i64 a0_2, .bool a0_3] 23 (0, 0)) (by (with_reducible repeat (first | refine blk_drewN ?_ _ | refine blk_drew ?_ | refine blk_alloc ?_ _)); exact BK285.out) hb); have n1_ := Aside0.mk (below_step (by repeat (first | (with_reducible first | exact HB.out | apply below_alloc | apply pw_below_drewN | apply below_drew1 | refine below_set ?_ GE285.out) | exact HB.out)) hb); clear BK285; clear HB; have BK285 := n0_; have HB := n1_; clear n0_ n1_; (try clear hb); (try clear hb2); (try clear hk); (try clear hi); have hcz33_0 : w32.cell? ⟨gb285, 0, none⟩ = some (.int .i64 a0_0) := (blk_cell BK285.out 0).trans rfl; have hcz33_1 : w32.cell? ⟨gb285, 1, none⟩ = some (.int .i64 a0_1) := (blk_cell BK285.out 1).trans rfl; have hcz33_2 : w32.cell? ⟨gb285, 2, none⟩ = some (.int .i64 a0_2) := (blk_cell BK285.out 2).trans rfl; have hcz33_3 : w32.cell? ⟨gb285, 3, none⟩ = some (.bool a0_3) := (blk_cell BK285.out 3).trans rfl; have hfz33_0 := blk_frozen BK285.out 0; have hfz33_1 := blk_frozen BK285.out 1; have hfz33_2 := blk_frozen BK285.out 2; have hfz33_3 := blk_frozen BK285.out 3) | (go_at_call 24; (with_reducible refine (emulatorlaw01_signed.calls (Go.bits .and .i64 a0_0 65535) false t294 _ A24.out).mono ?_); rintro e w' ⟨rfl, ⟨nd, rfl⟩⟩) | (go_at_call 15; (with_reducible refine (emulatorlaw01_alive.calls kj12  t295 _ (hS.go (by repeat (first | (with_reducible first | exact HB.out | apply below_alloc | apply pw_below_drewN | apply below_drew1 | refine below_set ?_ GE285.out) | exact HB.out))) A28.out).mono ?_); rintro e w34 ⟨rfl, hb⟩; have n0_ := Aside0.mk (blk_below (g := gb285) (o := .cells #[.int .i64 a0_0, .int .i64 a0_1, .int .i64 a0_2, .bool a0_3] 23 (0, 0)) (by (with_reducible repeat (first | refine blk_drewN ?_ _ | refine blk_drew ?_ | refine blk_alloc ?_ _)); exact BK285.out) hb); have n1_ := Aside0.mk (below_step (by repeat (first | (with_reducible first | exact HB.out | apply below_alloc | apply pw_below_drewN | apply below_drew1 | refine below_set ?_ GE285.out) | exact HB.out)) hb); clear BK285; clear HB; have BK285 := n0_; have HB := n1_; clear n0_ n1_; (try clear hb); (try clear hb2); (try clear hk); (try clear hi)))
                  go_ret
                  exact ⟨by first | rfl | (simp [errW_none, errW_some] <;> rfl) | (simp only [← hji20, ← hji22, ← hji26]; first | rfl | (simp [errW_none, errW_some] <;> rfl)) | (simp [*, errW_none, errW_some] <;> rfl), by repeat (first | (with_reducible first | exact HB.out | apply below_alloc | apply pw_below_drewN | apply below_drew1 | refine below_set ?_ GE285.out) | exact HB.out)⟩
                · rw [if_neg c27] at H
                  exact absurd (H.trans (congrArg some hr_.out)) (by decide)
              · rw [if_neg c23] at H
                exact absurd (H.trans (congrArg some hr_.out)) (by decide)
            · rw [if_neg c21] at H
              exact absurd H (by simp)

end Go.Proofs.YtiodpkkigjfkgaaDoor.A
