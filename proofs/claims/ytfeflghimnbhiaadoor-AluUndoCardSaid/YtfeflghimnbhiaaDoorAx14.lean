-- Written by a program of this session (mp.py) over the kit's print.py, with proofs by hand for what the print does not take.
import Derived.Test.YtfeflghimnbhiaaDoorAx0
import Derived.Test.YtfeflghimnbhiaaDoorAx4
import Derived.Test.YtfeflghimnbhiaaDoorAx5
import Derived.Test.YtfeflghimnbhiaaDoorAx7
import Derived.Test.YtfeflghimnbhiaaDoorAx13
namespace Go.Proofs.YtfeflghimnbhiaaDoor.A
open Go.RowKit Go.Proofs.YtfeflghimnbhiaaDoorW.PrintWords Go.Proofs.YtfeflghimnbhiaaDoorW.PrintLast Go.Proofs.YtfeflghimnbhiaaDoorW.PrintMore
attribute [local go_sem] max2_int min2_int max_two min_two max_three min_three max_four min_four   -- for this text's walks alone
set_option linter.unusedVariables false
set_option linter.unusedSimpArgs false

/-! ### emulatorlaw10_AluDoubles: function 3 -/
def emulatorlaw10_AluDoubles.f (k : Nat) (a0_0 : Int) (a0_1 : Bool) (a0_2 : Int) (a0_3 : Int) (a0_4 : Int) (a0_5 : Int) : Option (Bool) := (alu_Double.f a0_0 a0_1 a0_2 a0_3 a0_5).bind fun bt258 => ((emulatorref10_Double.f k a0_0 a0_1 a0_2 a0_3 a0_5).bind fun bt261 => (if bt258.1 = bt261.1 then (if bt258.2.1 = bt261.2.1 then (if (bt258.2.2 == bt261.2.2) = true then ((emulatorlaw10_alive.f k).bind fun t264 => (some t264)) else (some false)) else (some false)) else (some false)))
theorem emulatorlaw10_AluDoubles.mono : ∀ a0 a1 a2 a3 a4 a5 k, LeO (emulatorlaw10_AluDoubles.f k a0 a1 a2 a3 a4 a5) (emulatorlaw10_AluDoubles.f (k + 1) a0 a1 a2 a3 a4 a5) := by
  intro a0 a1 a2 a3 a4 a5 k
  unfold emulatorlaw10_AluDoubles.f
  repeat' first
      | (with_reducible exact emulatorlaw10_alive.mono _)
      | (with_reducible exact emulatorref10_Double.mono _ _ _ _ _ _)
      | (with_reducible exact LeO.refl _)
      | (with_reducible exact LeO.none _)
      | (with_reducible refine LeO.ite ?_ ?_)
      | (with_reducible refine LeO.bind ?_ (fun _ => ?_))
      | exact emulatorlaw10_alive.mono _
      | exact emulatorref10_Double.mono _ _ _ _ _ _
      | exact LeO.none _
      | refine LeO.ite ?_ ?_
      | refine LeO.bind ?_ (fun _ => ?_)
set_option maxHeartbeats 8000000 in
set_option maxRecDepth 100000 in
theorem emulatorlaw10_AluDoubles.calls (k : Nat) (a0_0 : Int) (a0_1 : Bool) (a0_2 : Int) (a0_3 : Int) (a0_4 : Int) (a0_5 : Int) (r : Bool) (w : World) (hS : Sz w) (h : emulatorlaw10_AluDoubles.f k a0_0 a0_1 a0_2 a0_3 a0_4 a0_5 = some r) (hr0 : r = true) :
    Calls Tryd.prog 3 #[.agg #[.int .i64 a0_0, .bool a0_1, .int .i64 a0_2, .int .i64 a0_3, .int .i64 a0_4, .int .i64 a0_5]] w fun e w' => e = .returned (.bool r) ∧ Below w.heap.size w w' := by
  have hu23 := Tryd.underlying23
  have hr_ := Aside0.mk hr0
  clear hr0
  have HB := Aside0.mk (Below.refl w.heap.size w)
  have H : ((alu_Double.f a0_0 a0_1 a0_2 a0_3 a0_5).bind fun bt258 => ((emulatorref10_Double.f k a0_0 a0_1 a0_2 a0_3 a0_5).bind fun bt261 => (if bt258.1 = bt261.1 then (if bt258.2.1 = bt261.2.1 then (if (bt258.2.2 == bt261.2.2) = true then ((emulatorlaw10_alive.f k).bind fun t264 => (some t264)) else (some false)) else (some false)) else (some false)))) = some r := h
  clear h
  replace H := Option.bind_eq_some_iff.mp H
  obtain ⟨⟨t258, t259, t260⟩, A20, H⟩ := H
  replace H : ((emulatorref10_Double.f k a0_0 a0_1 a0_2 a0_3 a0_5).bind fun bt261 => (if t258 = bt261.1 then (if t259 = bt261.2.1 then (if (t260 == bt261.2.2) = true then ((emulatorlaw10_alive.f k).bind fun t264 => (some t264)) else (some false)) else (some false)) else (some false))) = some r := H
  have A2 := Aside0.mk A20
  clear A20
  replace H := Option.bind_eq_some_iff.mp H
  obtain ⟨⟨t261, t262, t263⟩, A30, H⟩ := H
  replace H : (if t258 = t261 then (if t259 = t262 then (if (t260 == t263) = true then ((emulatorlaw10_alive.f k).bind fun t264 => (some t264)) else (some false)) else (some false)) else (some false)) = some r := H
  have A3 := Aside0.mk A30
  clear A30
  by_cases c4 : t258 = t261
  · rw [if_pos c4] at H
    have c4b0 : (t258 == t261) = true := beq_iff_eq.mpr c4
    have c4b1 : (t258 != t261) = false := bne_eq_false_iff_eq.mpr c4
    clear c4
    by_cases c5 : t259 = t262
    · rw [if_pos c5] at H
      have c5b0 : (t259 == t262) = true := beq_iff_eq.mpr c5
      have c5b1 : (t259 != t262) = false := bne_eq_false_iff_eq.mpr c5
      clear c5
      by_cases c6 : (t260 == t263) = true
      · rw [if_pos c6] at H
        have c6b0 : (t260 == t263) = true := c6
        (try (have c6b1 : decide (t260 = t263) = true := by simpa using c6))
        (try (have c6b2 : (t260 == t263) = true := by simpa using c6))
        clear c6
        replace H := Option.bind_eq_some_iff.mp H
        obtain ⟨t264, A70, H⟩ := H
        replace H : (some t264) = some r := H
        have A7 := Aside0.mk A70
        clear A70
        obtain rfl := Option.some.inj H
        go_enter Tryd.func3, Tryd.ntmps3
        go_wp2_with (first | ((with_reducible refine gate_dst (N := 1) rfl ?_); refine box_event ?hg (N := 1) ?hd (cs := #[.int .i64 a0_0, .bool a0_1, .int .i64 a0_2, .int .i64 a0_3, .int .i64 a0_4, .int .i64 a0_5]) (t := 23) ?hr ?_; (case hd => rfl); (case hg => rfl); (case hr => first | (go_simp; done) | (go_simp; rfl)); intro gb257 hg w8 hbox hb; have n0_ := Aside0.mk (below_step (by repeat (first | (with_reducible first | exact HB.out | apply below_alloc | apply pw_below_drewN | apply below_drew1) | exact HB.out)) hb); have n1_ := Aside0.mk (hbox); have n2_ := Aside0.mk ((by rw [hg]; exact (below_size (by repeat (first | (with_reducible first | exact HB.out | apply below_alloc | apply pw_below_drewN | apply below_drew1) | exact HB.out))) : w.heap.size ≤ gb257)); have n3_ := Aside0.mk ((by rw [hg]; exact (below_size (by repeat (first | (with_reducible first | exact HB.out | apply below_alloc | apply pw_below_drewN | apply below_drew1) | exact HB.out))) : w.heap.size ≤ gb257)); clear HB; have HB := n0_; have BK257 := n1_; have GW257 := n2_; have GE257 := n3_; clear n0_ n1_ n2_ n3_; clear hb hbox hg; have hcz9_0 : w8.cell? ⟨gb257, 0, none⟩ = some (.int .i64 a0_0) := (blk_cell BK257.out 0).trans rfl; have hcz9_1 : w8.cell? ⟨gb257, 1, none⟩ = some (.bool a0_1) := (blk_cell BK257.out 1).trans rfl; have hcz9_2 : w8.cell? ⟨gb257, 2, none⟩ = some (.int .i64 a0_2) := (blk_cell BK257.out 2).trans rfl; have hcz9_3 : w8.cell? ⟨gb257, 3, none⟩ = some (.int .i64 a0_3) := (blk_cell BK257.out 3).trans rfl; have hcz9_4 : w8.cell? ⟨gb257, 4, none⟩ = some (.int .i64 a0_4) := (blk_cell BK257.out 4).trans rfl; have hcz9_5 : w8.cell? ⟨gb257, 5, none⟩ = some (.int .i64 a0_5) := (blk_cell BK257.out 5).trans rfl; have hfz9_0 := blk_frozen BK257.out 0; have hfz9_1 := blk_frozen BK257.out 1; have hfz9_2 := blk_frozen BK257.out 2; have hfz9_3 := blk_frozen BK257.out 3; have hfz9_4 := blk_frozen BK257.out 4; have hfz9_5 := blk_frozen BK257.out 5) | ((with_reducible refine gate_callee (f := 10) rfl ?_); refine goesL_ (some 20) rfl rfl Tryd.func10 (by kernel_rfl) rfl #[.int .i64 a0_0, .bool a0_1, .int .i64 a0_2, .int .i64 a0_3, .int .i64 a0_5] rfl (by (try simp only [List.map_toArray, List.map_cons, List.map_nil]); first | done | rfl | (simp only [List.length_drop, List.length_take]; rfl)) ?_; (with_reducible refine (alu_Double.calls a0_0 a0_1 a0_2 a0_3 a0_5 t258 t259 t260 _ (hS.go (by repeat (first | (with_reducible first | exact HB.out | apply below_alloc | apply pw_below_drewN | apply below_drew1 | refine below_set ?_ GE257.out) | exact HB.out))) A2.out).mono ?_); rintro e w10 ⟨rfl, hb⟩; refine ⟨_, rfl, ?_⟩; have n0_ := Aside0.mk (blk_below (g := gb257) (o := .cells #[.int .i64 a0_0, .bool a0_1, .int .i64 a0_2, .int .i64 a0_3, .int .i64 a0_4, .int .i64 a0_5] 23 (0, 0)) (by (with_reducible repeat (first | refine blk_drewN ?_ _ | refine blk_drew ?_ | refine blk_alloc ?_ _)); exact BK257.out) hb); have n1_ := Aside0.mk (below_step (by repeat (first | (with_reducible first | exact HB.out | apply below_alloc | apply pw_below_drewN | apply below_drew1 | refine below_set ?_ GE257.out) | exact HB.out)) hb); clear BK257; clear HB; have BK257 := n0_; have HB := n1_; clear n0_ n1_; (try clear hb); (try clear hb2); (try clear hk); (try clear hi); have hcz11_0 : w10.cell? ⟨gb257, 0, none⟩ = some (.int .i64 a0_0) := (blk_cell BK257.out 0).trans rfl; have hcz11_1 : w10.cell? ⟨gb257, 1, none⟩ = some (.bool a0_1) := (blk_cell BK257.out 1).trans rfl; have hcz11_2 : w10.cell? ⟨gb257, 2, none⟩ = some (.int .i64 a0_2) := (blk_cell BK257.out 2).trans rfl; have hcz11_3 : w10.cell? ⟨gb257, 3, none⟩ = some (.int .i64 a0_3) := (blk_cell BK257.out 3).trans rfl; have hcz11_4 : w10.cell? ⟨gb257, 4, none⟩ = some (.int .i64 a0_4) := (blk_cell BK257.out 4).trans rfl; have hcz11_5 : w10.cell? ⟨gb257, 5, none⟩ = some (.int .i64 a0_5) := (blk_cell BK257.out 5).trans rfl; have hfz11_0 := blk_frozen BK257.out 0; have hfz11_1 := blk_frozen BK257.out 1; have hfz11_2 := blk_frozen BK257.out 2; have hfz11_3 := blk_frozen BK257.out 3; have hfz11_4 := blk_frozen BK257.out 4; have hfz11_5 := blk_frozen BK257.out 5) | ((with_reducible refine gate_callee (f := 11) rfl ?_); refine goesL_ (some 35) rfl rfl Tryd.func11 (by kernel_rfl) rfl #[.int .i64 a0_0, .bool a0_1, .int .i64 a0_2, .int .i64 a0_3, .int .i64 a0_5] rfl (by (try simp only [List.map_toArray, List.map_cons, List.map_nil]); first | done | rfl | (simp only [List.length_drop, List.length_take]; rfl)) ?_; (with_reducible refine (emulatorref10_Double.calls k a0_0 a0_1 a0_2 a0_3 a0_5 t261 t262 t263 _ A3.out).mono ?_); rintro e w' ⟨rfl, ⟨nd, rfl⟩⟩; refine ⟨_, rfl, ?_⟩) | (go_at_call 12; (with_reducible refine (emulatorlaw10_alive.calls k  t264 _ (hS.go (by repeat (first | (with_reducible first | exact HB.out | apply below_alloc | apply pw_below_drewN | apply below_drew1 | refine below_set ?_ GE257.out) | exact HB.out))) A7.out).mono ?_); rintro e w12 ⟨rfl, hb⟩; have n0_ := Aside0.mk (blk_below (g := gb257) (o := .cells #[.int .i64 a0_0, .bool a0_1, .int .i64 a0_2, .int .i64 a0_3, .int .i64 a0_4, .int .i64 a0_5] 23 (0, 0)) (by (with_reducible repeat (first | refine blk_drewN ?_ _ | refine blk_drew ?_ | refine blk_alloc ?_ _)); exact BK257.out) hb); have n1_ := Aside0.mk (below_step (by repeat (first | (with_reducible first | exact HB.out | apply below_alloc | apply pw_below_drewN | apply below_drew1 | refine below_set ?_ GE257.out) | exact HB.out)) hb); clear BK257; clear HB; have BK257 := n0_; have HB := n1_; clear n0_ n1_; (try clear hb); (try clear hb2); (try clear hk); (try clear hi)))
        go_ret
        exact ⟨by first | rfl | (simp [errW_none, errW_some] <;> rfl) | (simp [*, errW_none, errW_some] <;> rfl), by repeat (first | (with_reducible first | exact HB.out | apply below_alloc | apply pw_below_drewN | apply below_drew1 | refine below_set ?_ GE257.out) | exact HB.out)⟩
      · rw [if_neg c6] at H
        exact absurd (H.trans (congrArg some hr_.out)) (by decide)
    · rw [if_neg c5] at H
      exact absurd (H.trans (congrArg some hr_.out)) (by decide)
  · rw [if_neg c4] at H
    exact absurd (H.trans (congrArg some hr_.out)) (by decide)

/-! ### emulatorref01_Rotate: function 33 -/
def emulatorref01_Rotate.j0 : Nat → Bool → Int → Int → Option (Int × Int)
  | 0, _, _, _ => none
  | k + 1, x3, x11, x12 => (emulatorref01_Flags.f x11 x3).bind fun t267 => ((emulatorref01_sign.f x11 x3).bind fun t268 => (if t268 = x12 then (some (x11, wrap64 (t267 + x12))) else (some (x11, wrap64 ((wrap64 (t267 + x12)) + 2)))))
def emulatorref01_Rotate.f (k : Nat) (a0 : Int) (a1 : Int) (a2 : Bool) (a3 : Bool) : Option (Int × Int) := (emulatorref01_mask.f a3).bind fun t265 => (if a2 = true then ((emulatorref01_sign.f (Go.bits .and .i64 a0 t265) a3).bind fun t266 => (emulatorref01_Rotate.j0 k a3 (Go.bits .and .i64 (wrap64 ((wrap64 (2 * (Go.bits .and .i64 a0 t265))) + (Go.bits .and .i64 a1 1))) t265) t266)) else (emulatorref01_Rotate.j0 k a3 (wrap64 ((wrap64 (Int.tdiv (Go.bits .and .i64 a0 t265) 2)) + (wrap64 ((wrap64 ((wrap64 (Int.tdiv t265 2)) + 1)) * (Go.bits .and .i64 a1 1))))) (Go.bits .and .i64 (Go.bits .and .i64 a0 t265) 1)))
theorem emulatorref01_Rotate.mono_l : ∀ k, (∀ y0 y1 y2, LeO (emulatorref01_Rotate.j0 k y0 y1 y2) (emulatorref01_Rotate.j0 (k + 1) y0 y1 y2))
  | 0 => fun _ _ _ r h => by simp [emulatorref01_Rotate.j0] at h
  | k + 1 => by
    have ih0 := emulatorref01_Rotate.mono_l k
    · intro y0 y1 y2
      unfold emulatorref01_Rotate.j0
      repeat' first
      | (with_reducible exact ih0 _ _ _)
      | (with_reducible exact LeO.refl _)
      | (with_reducible exact LeO.none _)
      | (with_reducible refine LeO.ite ?_ ?_)
      | (with_reducible refine LeO.bind ?_ (fun _ => ?_))
      | exact ih0 _ _ _
      | exact LeO.none _
      | refine LeO.ite ?_ ?_
      | refine LeO.bind ?_ (fun _ => ?_)
theorem emulatorref01_Rotate.mono : ∀ a0 a1 a2 a3 k, LeO (emulatorref01_Rotate.f k a0 a1 a2 a3) (emulatorref01_Rotate.f (k + 1) a0 a1 a2 a3) := by
  intro a0 a1 a2 a3 k
  have ih0 := emulatorref01_Rotate.mono_l k
  unfold emulatorref01_Rotate.f
  repeat' first
      | (with_reducible exact ih0 _ _ _)
      | (with_reducible exact LeO.refl _)
      | (with_reducible exact LeO.none _)
      | (with_reducible refine LeO.ite ?_ ?_)
      | (with_reducible refine LeO.bind ?_ (fun _ => ?_))
      | exact ih0 _ _ _
      | exact LeO.none _
      | refine LeO.ite ?_ ?_
      | refine LeO.bind ?_ (fun _ => ?_)
set_option maxHeartbeats 8000000 in
set_option maxRecDepth 100000 in
theorem emulatorref01_Rotate.calls (k : Nat) (a0 : Int) (a1 : Int) (a2 : Bool) (a3 : Bool) (r1 : Int) (r2 : Int) (w : World) (h : emulatorref01_Rotate.f k a0 a1 a2 a3 = some (r1, r2)) :
    Calls Tryd.prog 33 #[.int .i64 a0, .int .i64 a1, .bool a2, .bool a3] w fun e w' => e = .returned (.tuple #[.int .i64 r1, .int .i64 r2]) ∧ Drawn0 w w' := by
  have H : ((emulatorref01_mask.f a3).bind fun t265 => (if a2 = true then ((emulatorref01_sign.f (Go.bits .and .i64 a0 t265) a3).bind fun t266 => (emulatorref01_Rotate.j0 k a3 (Go.bits .and .i64 (wrap64 ((wrap64 (2 * (Go.bits .and .i64 a0 t265))) + (Go.bits .and .i64 a1 1))) t265) t266)) else (emulatorref01_Rotate.j0 k a3 (wrap64 ((wrap64 (Int.tdiv (Go.bits .and .i64 a0 t265) 2)) + (wrap64 ((wrap64 ((wrap64 (Int.tdiv t265 2)) + 1)) * (Go.bits .and .i64 a1 1))))) (Go.bits .and .i64 (Go.bits .and .i64 a0 t265) 1)))) = some (r1, r2) := h
  clear h
  replace H := Option.bind_eq_some_iff.mp H
  obtain ⟨t265, A50, H⟩ := H
  replace H : (if a2 = true then ((emulatorref01_sign.f (Go.bits .and .i64 a0 t265) a3).bind fun t266 => (emulatorref01_Rotate.j0 k a3 (Go.bits .and .i64 (wrap64 ((wrap64 (2 * (Go.bits .and .i64 a0 t265))) + (Go.bits .and .i64 a1 1))) t265) t266)) else (emulatorref01_Rotate.j0 k a3 (wrap64 ((wrap64 (Int.tdiv (Go.bits .and .i64 a0 t265) 2)) + (wrap64 ((wrap64 ((wrap64 (Int.tdiv t265 2)) + 1)) * (Go.bits .and .i64 a1 1))))) (Go.bits .and .i64 (Go.bits .and .i64 a0 t265) 1))) = some (r1, r2) := H
  have A5 := Aside0.mk A50
  clear A50
  have HC6 := Aside0.mk H
  clear H
  go_enter Tryd.func33, Tryd.ntmps33
  go_upto_if 19 with (first | ((with_reducible refine gate_callee (f := 43) rfl ?_); refine goesL_ (some 15) rfl rfl Tryd.func43 (by kernel_rfl) rfl #[.bool a3] rfl (by (try simp only [List.map_toArray, List.map_cons, List.map_nil]); first | done | rfl | (simp only [List.length_drop, List.length_take]; rfl)) ?_; (with_reducible refine (emulatorref01_mask.calls a3 t265 _ A5.out).mono ?_); rintro e w' ⟨rfl, ⟨nd, rfl⟩⟩; refine ⟨_, rfl, ?_⟩))
  (try simp only [Act.put, List.setIfInBounds_toArray, List.set_cons_zero, List.set_cons_succ])
  go_cut [11, 12] (fun v11 v12 wc => ∃ (kq : Nat) (x11_5 : Int) (x12_5 : Int), v11 = .int .i64 x11_5 ∧ v12 = .int .i64 x12_5 ∧ Aside0 (emulatorref01_Rotate.j0 kq a3 x11_5 x12_5 = some (r1, r2)) ∧ Aside0 (kq ≤ k) ∧ Drawn0 w wc)
  case first =>
    have H := HC6.out
    clear HC6
    by_cases c7 : a2 = true
    · subst c7
      have H1 : ((emulatorref01_sign.f (Go.bits .and .i64 a0 t265) a3).bind fun t266 => (emulatorref01_Rotate.j0 k a3 (Go.bits .and .i64 (wrap64 ((wrap64 (2 * (Go.bits .and .i64 a0 t265))) + (Go.bits .and .i64 a1 1))) t265) t266)) = some (r1, r2) := by rw [if_pos rfl] at H; exact H
      clear H
      have H := H1
      clear H1
      replace H := Option.bind_eq_some_iff.mp H
      obtain ⟨t266, A80, H⟩ := H
      replace H : (emulatorref01_Rotate.j0 k a3 (Go.bits .and .i64 (wrap64 ((wrap64 (2 * (Go.bits .and .i64 a0 t265))) + (Go.bits .and .i64 a1 1))) t265) t266) = some (r1, r2) := H
      have A8 := Aside0.mk A80
      clear A80
      have H' := Aside0.mk H
      clear H
      go_wp2_with (first | ((with_reducible refine gate_callee (f := 44) rfl ?_); refine goesL_ (some 22) rfl rfl Tryd.func44 (by kernel_rfl) rfl #[.int .i64 (Go.bits .and .i64 a0 t265), .bool a3] rfl (by (try simp only [List.map_toArray, List.map_cons, List.map_nil]); first | done | rfl | (simp only [List.length_drop, List.length_take]; rfl)) ?_; (with_reducible refine (emulatorref01_sign.calls (Go.bits .and .i64 a0 t265) a3 t266 _ A8.out).mono ?_); rintro e w' ⟨rfl, ⟨nd, rfl⟩⟩; refine ⟨_, rfl, ?_⟩))
      go_meet
      case rel => exact ⟨_, (Go.bits .and .i64 (wrap64 ((wrap64 (2 * (Go.bits .and .i64 a0 t265))) + (Go.bits .and .i64 a1 1))) t265), (t266), (by first | rfl | (simp; done) | (simp [*]; done)), (by first | rfl | (simp; done) | (simp [*]; done)), H', ⟨by first | omega | exact Nat.le_refl _⟩, by repeat (first | exact Drawn0.refl _ | apply Drawn0.step)⟩
    · replace c7 := Bool.eq_false_iff.mpr c7
      subst c7
      have H1 : (emulatorref01_Rotate.j0 k a3 (wrap64 ((wrap64 (Int.tdiv (Go.bits .and .i64 a0 t265) 2)) + (wrap64 ((wrap64 ((wrap64 (Int.tdiv t265 2)) + 1)) * (Go.bits .and .i64 a1 1))))) (Go.bits .and .i64 (Go.bits .and .i64 a0 t265) 1)) = some (r1, r2) := by rw [if_neg (show ¬ (false = true) by decide)] at H; exact H
      clear H
      have H := H1
      clear H1
      have H' := Aside0.mk H
      clear H
      go_wp2
      go_meet
      case rel => exact ⟨_, (wrap64 ((wrap64 (Int.tdiv (Go.bits .and .i64 a0 t265) 2)) + (wrap64 ((wrap64 ((wrap64 (Int.tdiv t265 2)) + 1)) * (Go.bits .and .i64 a1 1))))), (Go.bits .and .i64 (Go.bits .and .i64 a0 t265) 1), (by first | rfl | (simp; done) | (simp [*]; done)), (by first | rfl | (simp; done) | (simp [*]; done)), H', ⟨by first | omega | exact Nat.le_refl _⟩, by repeat (first | exact Drawn0.refl _ | apply Drawn0.step)⟩
  case rest =>
    clear HC6
    try clear p2
    try clear c3
    try clear c4
    try clear p6
    try clear c7
    obtain ⟨kq, x11_5, x12_5, rfl, rfl, HA, HJ5, ⟨mc5, rfl⟩⟩ := hcut
    cases kq with
    | zero => exact absurd HA.out (by simp [emulatorref01_Rotate.j0])
    | succ kj5 =>
      have H := HA.out
      clear HA
      simp only [emulatorref01_Rotate.j0] at H
      replace H := Option.bind_eq_some_iff.mp H
      obtain ⟨t267, A90, H⟩ := H
      replace H : ((emulatorref01_sign.f x11_5 a3).bind fun t268 => (if t268 = x12_5 then (some (x11_5, wrap64 (t267 + x12_5))) else (some (x11_5, wrap64 ((wrap64 (t267 + x12_5)) + 2))))) = some (r1, r2) := H
      have A9 := Aside0.mk A90
      clear A90
      replace H := Option.bind_eq_some_iff.mp H
      obtain ⟨t268, A100, H⟩ := H
      replace H : (if t268 = x12_5 then (some (x11_5, wrap64 (t267 + x12_5))) else (some (x11_5, wrap64 ((wrap64 (t267 + x12_5)) + 2)))) = some (r1, r2) := H
      have A10 := Aside0.mk A100
      clear A100
      by_cases c11 : t268 = x12_5
      · rw [if_pos c11] at H
        have c11b0 : (t268 == x12_5) = true := beq_iff_eq.mpr c11
        have c11b1 : (t268 != x12_5) = false := bne_eq_false_iff_eq.mpr c11
        clear c11
        simp only [Option.some.injEq, Prod.mk.injEq] at H
        obtain ⟨rfl, rfl⟩ := H
        go_wp2_with (first | ((with_reducible refine gate_callee (f := 25) rfl ?_); refine goesL_ (some 43) rfl rfl Tryd.func25 (by kernel_rfl) rfl #[.int .i64 x11_5, .bool a3] rfl (by (try simp only [List.map_toArray, List.map_cons, List.map_nil]); first | done | rfl | (simp only [List.length_drop, List.length_take]; rfl)) ?_; (with_reducible refine (emulatorref01_Flags.calls x11_5 a3 t267 _ A9.out).mono ?_); rintro e w' ⟨rfl, ⟨nd, rfl⟩⟩; refine ⟨_, rfl, ?_⟩) | ((with_reducible refine gate_callee (f := 44) rfl ?_); refine goesL_ (some 48) rfl rfl Tryd.func44 (by kernel_rfl) rfl #[.int .i64 x11_5, .bool a3] rfl (by (try simp only [List.map_toArray, List.map_cons, List.map_nil]); first | done | rfl | (simp only [List.length_drop, List.length_take]; rfl)) ?_; (with_reducible refine (emulatorref01_sign.calls x11_5 a3 t268 _ A10.out).mono ?_); rintro e w' ⟨rfl, ⟨nd, rfl⟩⟩; refine ⟨_, rfl, ?_⟩))
        go_ret2
        exact ⟨by first | rfl | (simp; done) | (simp [*]; done), by repeat (first | exact Drawn0.refl _ | apply Drawn0.step)⟩
      · rw [if_neg c11] at H
        have c11b0 : (t268 == x12_5) = false := beq_eq_false_iff_ne.mpr c11
        have c11b1 : (t268 != x12_5) = true := bne_iff_ne.mpr c11
        simp only [Option.some.injEq, Prod.mk.injEq] at H
        obtain ⟨rfl, rfl⟩ := H
        go_wp2_with (first | ((with_reducible refine gate_callee (f := 25) rfl ?_); refine goesL_ (some 43) rfl rfl Tryd.func25 (by kernel_rfl) rfl #[.int .i64 x11_5, .bool a3] rfl (by (try simp only [List.map_toArray, List.map_cons, List.map_nil]); first | done | rfl | (simp only [List.length_drop, List.length_take]; rfl)) ?_; (with_reducible refine (emulatorref01_Flags.calls x11_5 a3 t267 _ A9.out).mono ?_); rintro e w' ⟨rfl, ⟨nd, rfl⟩⟩; refine ⟨_, rfl, ?_⟩) | ((with_reducible refine gate_callee (f := 44) rfl ?_); refine goesL_ (some 48) rfl rfl Tryd.func44 (by kernel_rfl) rfl #[.int .i64 x11_5, .bool a3] rfl (by (try simp only [List.map_toArray, List.map_cons, List.map_nil]); first | done | rfl | (simp only [List.length_drop, List.length_take]; rfl)) ?_; (with_reducible refine (emulatorref01_sign.calls x11_5 a3 t268 _ A10.out).mono ?_); rintro e w' ⟨rfl, ⟨nd, rfl⟩⟩; refine ⟨_, rfl, ?_⟩))
        go_ret2
        exact ⟨by first | rfl | (simp; done) | (simp [*]; done), by repeat (first | exact Drawn0.refl _ | apply Drawn0.step)⟩

/-! ### emulatorref10_moved: function 34 -/
def emulatorref10_moved.f (a0 : Int) (a1 : Int) (a2 : Bool) : Option (Int) := (emulatorref01_Flags.f a0 a2).bind fun t269 => (if (Go.bits .and .i64 ((wrap64 (t269 + a1)) / 8) 1) = a1 then (some (wrap64 (t269 + a1))) else (some (wrap64 ((wrap64 (t269 + a1)) + 2))))
set_option maxHeartbeats 8000000 in
set_option maxRecDepth 100000 in
theorem emulatorref10_moved.calls (a0 : Int) (a1 : Int) (a2 : Bool) (r : Int) (w : World) (h : emulatorref10_moved.f a0 a1 a2 = some r) :
    Calls Tryd.prog 34 #[.int .i64 a0, .int .i64 a1, .bool a2] w fun e w' => e = .returned (.int .i64 r) ∧ Drawn0 w w' := by
  have H : ((emulatorref01_Flags.f a0 a2).bind fun t269 => (if (Go.bits .and .i64 ((wrap64 (t269 + a1)) / 8) 1) = a1 then (some (wrap64 (t269 + a1))) else (some (wrap64 ((wrap64 (t269 + a1)) + 2))))) = some r := h
  clear h
  replace H := Option.bind_eq_some_iff.mp H
  obtain ⟨t269, A40, H⟩ := H
  replace H : (if (Go.bits .and .i64 ((wrap64 (t269 + a1)) / 8) 1) = a1 then (some (wrap64 (t269 + a1))) else (some (wrap64 ((wrap64 (t269 + a1)) + 2)))) = some r := H
  have A4 := Aside0.mk A40
  clear A40
  by_cases c5 : (Go.bits .and .i64 ((wrap64 (t269 + a1)) / 8) 1) = a1
  · rw [if_pos c5] at H
    have c5b0 : ((Go.bits .and .i64 ((wrap64 (t269 + a1)) / 8) 1) == a1) = true := beq_iff_eq.mpr c5
    have c5b1 : ((Go.bits .and .i64 ((wrap64 (t269 + a1)) / 8) 1) != a1) = false := bne_eq_false_iff_eq.mpr c5
    clear c5
    obtain rfl := Option.some.inj H
    go_enter Tryd.func34, Tryd.ntmps34
    go_wp2_with (first | ((with_reducible refine gate_callee (f := 25) rfl ?_); refine goesL_ (some 10) rfl rfl Tryd.func25 (by kernel_rfl) rfl #[.int .i64 a0, .bool a2] rfl (by (try simp only [List.map_toArray, List.map_cons, List.map_nil]); first | done | rfl | (simp only [List.length_drop, List.length_take]; rfl)) ?_; (with_reducible refine (emulatorref01_Flags.calls a0 a2 t269 _ A4.out).mono ?_); rintro e w' ⟨rfl, ⟨nd, rfl⟩⟩; refine ⟨_, rfl, ?_⟩))
    go_ret
    exact ⟨by first | rfl | (simp; done) | (simp [*]; done), by repeat (first | exact Drawn0.refl _ | apply Drawn0.step)⟩
  · rw [if_neg c5] at H
    have c5b0 : ((Go.bits .and .i64 ((wrap64 (t269 + a1)) / 8) 1) == a1) = false := beq_eq_false_iff_ne.mpr c5
    have c5b1 : ((Go.bits .and .i64 ((wrap64 (t269 + a1)) / 8) 1) != a1) = true := bne_iff_ne.mpr c5
    obtain rfl := Option.some.inj H
    go_enter Tryd.func34, Tryd.ntmps34
    go_wp2_with (first | ((with_reducible refine gate_callee (f := 25) rfl ?_); refine goesL_ (some 10) rfl rfl Tryd.func25 (by kernel_rfl) rfl #[.int .i64 a0, .bool a2] rfl (by (try simp only [List.map_toArray, List.map_cons, List.map_nil]); first | done | rfl | (simp only [List.length_drop, List.length_take]; rfl)) ?_; (with_reducible refine (emulatorref01_Flags.calls a0 a2 t269 _ A4.out).mono ?_); rintro e w' ⟨rfl, ⟨nd, rfl⟩⟩; refine ⟨_, rfl, ?_⟩))
    go_ret
    exact ⟨by first | rfl | (simp; done) | (simp [*]; done), by repeat (first | exact Drawn0.refl _ | apply Drawn0.step)⟩

end Go.Proofs.YtfeflghimnbhiaaDoor.A
