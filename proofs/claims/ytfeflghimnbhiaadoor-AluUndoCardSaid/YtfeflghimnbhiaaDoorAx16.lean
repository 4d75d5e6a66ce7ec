-- Written by a program of this session (mp.py) over the kit's print.py, with proofs by hand for what the print does not take.
import Derived.Test.YtfeflghimnbhiaaDoorAx0
import Derived.Test.YtfeflghimnbhiaaDoorAx9
import Derived.Test.YtfeflghimnbhiaaDoorAx13
import Derived.Test.YtfeflghimnbhiaaDoorAx15
namespace Go.Proofs.YtfeflghimnbhiaaDoor.A
open Go.RowKit Go.Proofs.YtfeflghimnbhiaaDoorW.PrintWords Go.Proofs.YtfeflghimnbhiaaDoorW.PrintLast Go.Proofs.YtfeflghimnbhiaaDoorW.PrintMore
attribute [local go_sem] max2_int min2_int max_two min_two max_three min_three max_four min_four   -- for this text's walks alone
set_option linter.unusedVariables false
set_option linter.unusedSimpArgs false

/-! ### emulatorlaw10_AluSingles: function 4 -/
def emulatorlaw10_AluSingles.f (k : Nat) (a0_0 : Int) (a0_1 : Bool) (a0_2 : Int) (a0_3 : Int) (a0_4 : Int) (a0_5 : Int) : Option (Bool) := (alu_Single.f k a0_0 a0_1 a0_2 a0_5).bind fun bt294 => ((emulatorref10_Single.f k a0_0 a0_1 a0_2 a0_5).bind fun bt297 => (if bt294.1 = bt297.1 then (if bt294.2.1 = bt297.2.1 then (if (bt294.2.2 == bt297.2.2) = true then ((emulatorlaw10_alive.f k).bind fun t300 => (some t300)) else (some false)) else (some false)) else (some false)))
theorem emulatorlaw10_AluSingles.mono : ∀ a0 a1 a2 a3 a4 a5 k, LeO (emulatorlaw10_AluSingles.f k a0 a1 a2 a3 a4 a5) (emulatorlaw10_AluSingles.f (k + 1) a0 a1 a2 a3 a4 a5) := by
  intro a0 a1 a2 a3 a4 a5 k
  unfold emulatorlaw10_AluSingles.f
  repeat' first
      | (with_reducible exact alu_Single.mono _ _ _ _ _)
      | (with_reducible exact emulatorlaw10_alive.mono _)
      | (with_reducible exact emulatorref10_Single.mono _ _ _ _ _)
      | (with_reducible exact LeO.refl _)
      | (with_reducible exact LeO.none _)
      | (with_reducible refine LeO.ite ?_ ?_)
      | (with_reducible refine LeO.bind ?_ (fun _ => ?_))
      | exact alu_Single.mono _ _ _ _ _
      | exact emulatorlaw10_alive.mono _
      | exact emulatorref10_Single.mono _ _ _ _ _
      | exact LeO.none _
      | refine LeO.ite ?_ ?_
      | refine LeO.bind ?_ (fun _ => ?_)
set_option maxHeartbeats 8000000 in
set_option maxRecDepth 100000 in
theorem emulatorlaw10_AluSingles.calls (k : Nat) (a0_0 : Int) (a0_1 : Bool) (a0_2 : Int) (a0_3 : Int) (a0_4 : Int) (a0_5 : Int) (r : Bool) (w : World) (hS : Sz w) (h : emulatorlaw10_AluSingles.f k a0_0 a0_1 a0_2 a0_3 a0_4 a0_5 = some r) (hr0 : r = true) :
    Calls Tryd.prog 4 #[.agg #[.int .i64 a0_0, .bool a0_1, .int .i64 a0_2, .int .i64 a0_3, .int .i64 a0_4, .int .i64 a0_5]] w fun e w' => e = .returned (.bool r) ∧ Below w.heap.size w w' := by
  have hu23 := Tryd.underlying23
  have hr_ := Aside0.mk hr0
  clear hr0
  have HB := Aside0.mk (Below.refl w.heap.size w)
  have H : ((alu_Single.f k a0_0 a0_1 a0_2 a0_5).bind fun bt294 => ((emulatorref10_Single.f k a0_0 a0_1 a0_2 a0_5).bind fun bt297 => (if bt294.1 = bt297.1 then (if bt294.2.1 = bt297.2.1 then (if (bt294.2.2 == bt297.2.2) = true then ((emulatorlaw10_alive.f k).bind fun t300 => (some t300)) else (some false)) else (some false)) else (some false)))) = some r := h
  clear h
  replace H := Option.bind_eq_some_iff.mp H
  obtain ⟨⟨t294, t295, t296⟩, A20, H⟩ := H
  replace H : ((emulatorref10_Single.f k a0_0 a0_1 a0_2 a0_5).bind fun bt297 => (if t294 = bt297.1 then (if t295 = bt297.2.1 then (if (t296 == bt297.2.2) = true then ((emulatorlaw10_alive.f k).bind fun t300 => (some t300)) else (some false)) else (some false)) else (some false))) = some r := H
  have A2 := Aside0.mk A20
  clear A20
  replace H := Option.bind_eq_some_iff.mp H
  obtain ⟨⟨t297, t298, t299⟩, A30, H⟩ := H
  replace H : (if t294 = t297 then (if t295 = t298 then (if (t296 == t299) = true then ((emulatorlaw10_alive.f k).bind fun t300 => (some t300)) else (some false)) else (some false)) else (some false)) = some r := H
  have A3 := Aside0.mk A30
  clear A30
  by_cases c4 : t294 = t297
  · rw [if_pos c4] at H
    have c4b0 : (t294 == t297) = true := beq_iff_eq.mpr c4
    have c4b1 : (t294 != t297) = false := bne_eq_false_iff_eq.mpr c4
    clear c4
    by_cases c5 : t295 = t298
    · rw [if_pos c5] at H
      have c5b0 : (t295 == t298) = true := beq_iff_eq.mpr c5
      have c5b1 : (t295 != t298) = false := bne_eq_false_iff_eq.mpr c5
      clear c5
      by_cases c6 : (t296 == t299) = true
      · rw [if_pos c6] at H
        have c6b0 : (t296 == t299) = true := c6
        (try (have c6b1 : decide (t296 = t299) = true := by simpa using c6))
        (try (have c6b2 : (t296 == t299) = true := by simpa using c6))
        clear c6
        replace H := Option.bind_eq_some_iff.mp H
        obtain ⟨t300, A70, H⟩ := H
        replace H : (some t300) = some r := H
        have A7 := Aside0.mk A70
        clear A70
        obtain rfl := Option.some.inj H
        go_enter Tryd.func4, Tryd.ntmps4
        go_wp2_with (first | ((with_reducible refine gate_dst (N := 1) rfl ?_); refine box_event ?hg (N := 1) ?hd (cs := #[.int .i64 a0_0, .bool a0_1, .int .i64 a0_2, .int .i64 a0_3, .int .i64 a0_4, .int .i64 a0_5]) (t := 23) ?hr ?_; (case hd => rfl); (case hg => rfl); (case hr => first | (go_simp; done) | (go_simp; rfl)); intro gb293 hg w8 hbox hb; have n0_ := Aside0.mk (below_step (by repeat (first | (with_reducible first | exact HB.out | apply below_alloc | apply pw_below_drewN | apply below_drew1) | exact HB.out)) hb); have n1_ := Aside0.mk (hbox); have n2_ := Aside0.mk ((by rw [hg]; exact (below_size (by repeat (first | (with_reducible first | exact HB.out | apply below_alloc | apply pw_below_drewN | apply below_drew1) | exact HB.out))) : w.heap.size ≤ gb293)); have n3_ := Aside0.mk ((by rw [hg]; exact (below_size (by repeat (first | (with_reducible first | exact HB.out | apply below_alloc | apply pw_below_drewN | apply below_drew1) | exact HB.out))) : w.heap.size ≤ gb293)); clear HB; have HB := n0_; have BK293 := n1_; have GW293 := n2_; have GE293 := n3_; clear n0_ n1_ n2_ n3_; clear hb hbox hg; have hcz9_0 : w8.cell? ⟨gb293, 0, none⟩ = some (.int .i64 a0_0) := (blk_cell BK293.out 0).trans rfl; have hcz9_1 : w8.cell? ⟨gb293, 1, none⟩ = some (.bool a0_1) := (blk_cell BK293.out 1).trans rfl; have hcz9_2 : w8.cell? ⟨gb293, 2, none⟩ = some (.int .i64 a0_2) := (blk_cell BK293.out 2).trans rfl; have hcz9_3 : w8.cell? ⟨gb293, 3, none⟩ = some (.int .i64 a0_3) := (blk_cell BK293.out 3).trans rfl; have hcz9_4 : w8.cell? ⟨gb293, 4, none⟩ = some (.int .i64 a0_4) := (blk_cell BK293.out 4).trans rfl; have hcz9_5 : w8.cell? ⟨gb293, 5, none⟩ = some (.int .i64 a0_5) := (blk_cell BK293.out 5).trans rfl; have hfz9_0 := blk_frozen BK293.out 0; have hfz9_1 := blk_frozen BK293.out 1; have hfz9_2 := blk_frozen BK293.out 2; have hfz9_3 := blk_frozen BK293.out 3; have hfz9_4 := blk_frozen BK293.out 4; have hfz9_5 := blk_frozen BK293.out 5) | ((with_reducible refine gate_callee (f := 13) rfl ?_); refine goesL_ (some 18) rfl rfl Tryd.func13 (by kernel_rfl) rfl #[.int .i64 a0_0, .bool a0_1, .int .i64 a0_2, .int .i64 a0_5] rfl (by (try simp only [List.map_toArray, List.map_cons, List.map_nil]); first | done | rfl | (simp only [List.length_drop, List.length_take]; rfl)) ?_; (with_reducible refine (alu_Single.calls k a0_0 a0_1 a0_2 a0_5 t294 t295 t296 _ (hS.go (by repeat (first | (with_reducible first | exact HB.out | apply below_alloc | apply pw_below_drewN | apply below_drew1 | refine below_set ?_ GE293.out) | exact HB.out))) A2.out).mono ?_); rintro e w10 ⟨rfl, hb⟩; refine ⟨_, rfl, ?_⟩; have n0_ := Aside0.mk (blk_below (g := gb293) (o := .cells #[.int .i64 a0_0, .bool a0_1, .int .i64 a0_2, .int .i64 a0_3, .int .i64 a0_4, .int .i64 a0_5] 23 (0, 0)) (by (with_reducible repeat (first | refine blk_drewN ?_ _ | refine blk_drew ?_ | refine blk_alloc ?_ _)); exact BK293.out) hb); have n1_ := Aside0.mk (below_step (by repeat (first | (with_reducible first | exact HB.out | apply below_alloc | apply pw_below_drewN | apply below_drew1 | refine below_set ?_ GE293.out) | exact HB.out)) hb); clear BK293; clear HB; have BK293 := n0_; have HB := n1_; clear n0_ n1_; (try clear hb); (try clear hb2); (try clear hk); (try clear hi); have hcz11_0 : w10.cell? ⟨gb293, 0, none⟩ = some (.int .i64 a0_0) := (blk_cell BK293.out 0).trans rfl; have hcz11_1 : w10.cell? ⟨gb293, 1, none⟩ = some (.bool a0_1) := (blk_cell BK293.out 1).trans rfl; have hcz11_2 : w10.cell? ⟨gb293, 2, none⟩ = some (.int .i64 a0_2) := (blk_cell BK293.out 2).trans rfl; have hcz11_3 : w10.cell? ⟨gb293, 3, none⟩ = some (.int .i64 a0_3) := (blk_cell BK293.out 3).trans rfl; have hcz11_4 : w10.cell? ⟨gb293, 4, none⟩ = some (.int .i64 a0_4) := (blk_cell BK293.out 4).trans rfl; have hcz11_5 : w10.cell? ⟨gb293, 5, none⟩ = some (.int .i64 a0_5) := (blk_cell BK293.out 5).trans rfl; have hfz11_0 := blk_frozen BK293.out 0; have hfz11_1 := blk_frozen BK293.out 1; have hfz11_2 := blk_frozen BK293.out 2; have hfz11_3 := blk_frozen BK293.out 3; have hfz11_4 := blk_frozen BK293.out 4; have hfz11_5 := blk_frozen BK293.out 5) | ((with_reducible refine gate_callee (f := 14) rfl ?_); refine goesL_ (some 31) rfl rfl Tryd.func14 (by kernel_rfl) rfl #[.int .i64 a0_0, .bool a0_1, .int .i64 a0_2, .int .i64 a0_5] rfl (by (try simp only [List.map_toArray, List.map_cons, List.map_nil]); first | done | rfl | (simp only [List.length_drop, List.length_take]; rfl)) ?_; (with_reducible refine (emulatorref10_Single.calls k a0_0 a0_1 a0_2 a0_5 t297 t298 t299 _ A3.out).mono ?_); rintro e w' ⟨rfl, ⟨nd, rfl⟩⟩; refine ⟨_, rfl, ?_⟩) | (go_at_call 12; (with_reducible refine (emulatorlaw10_alive.calls k  t300 _ (hS.go (by repeat (first | (with_reducible first | exact HB.out | apply below_alloc | apply pw_below_drewN | apply below_drew1 | refine below_set ?_ GE293.out) | exact HB.out))) A7.out).mono ?_); rintro e w12 ⟨rfl, hb⟩; have n0_ := Aside0.mk (blk_below (g := gb293) (o := .cells #[.int .i64 a0_0, .bool a0_1, .int .i64 a0_2, .int .i64 a0_3, .int .i64 a0_4, .int .i64 a0_5] 23 (0, 0)) (by (with_reducible repeat (first | refine blk_drewN ?_ _ | refine blk_drew ?_ | refine blk_alloc ?_ _)); exact BK293.out) hb); have n1_ := Aside0.mk (below_step (by repeat (first | (with_reducible first | exact HB.out | apply below_alloc | apply pw_below_drewN | apply below_drew1 | refine below_set ?_ GE293.out) | exact HB.out)) hb); clear BK293; clear HB; have BK293 := n0_; have HB := n1_; clear n0_ n1_; (try clear hb); (try clear hb2); (try clear hk); (try clear hi)))
        go_ret
        exact ⟨by first | rfl | (simp [errW_none, errW_some] <;> rfl) | (simp [*, errW_none, errW_some] <;> rfl), by repeat (first | (with_reducible first | exact HB.out | apply below_alloc | apply pw_below_drewN | apply below_drew1 | refine below_set ?_ GE293.out) | exact HB.out)⟩
      · rw [if_neg c6] at H
        exact absurd (H.trans (congrArg some hr_.out)) (by decide)
    · rw [if_neg c5] at H
      exact absurd (H.trans (congrArg some hr_.out)) (by decide)
  · rw [if_neg c4] at H
    exact absurd (H.trans (congrArg some hr_.out)) (by decide)end Go.Proofs.YtfeflghimnbhiaaDoor.A
