-- Written by a program of this session (mp.py) over the kit's print.py, with proofs by hand for what the print does not take.
import Derived.Test.YtfeflghimnbhiaaDoorAx0
import Derived.Test.YtfeflghimnbhiaaDoorAx12
import Derived.Test.YtfeflghimnbhiaaDoorAx13
import Derived.Test.YtfeflghimnbhiaaDoorAx19
import Derived.Test.YtfeflghimnbhiaaDoorAx20
import Derived.Test.YtfeflghimnbhiaaDoorAx21
namespace Go.Proofs.YtfeflghimnbhiaaDoor.A
open Go.RowKit Go.Proofs.YtfeflghimnbhiaaDoorW.PrintWords Go.Proofs.YtfeflghimnbhiaaDoorW.PrintLast Go.Proofs.YtfeflghimnbhiaaDoorW.PrintMore
attribute [local go_sem] max2_int min2_int max_two min_two max_three min_three max_four min_four   -- for this text's walks alone
set_option linter.unusedVariables false
set_option linter.unusedSimpArgs false

/-! ### emulatorref10_Long: function 18 -/
def emulatorref10_Long.f (k : Nat) (a0 : Int) (a1 : Int) (a2 : Int) (a3 : Int) (a4 : Int) : Option (Int × Int × Int × Bool) := if a0 = 8 then ((emulatorref01_Mul.f k a1 a3).bind fun bt327 => (some (bt327.1, bt327.2.1, bt327.2.2, true))) else (if a0 = 9 then ((emulatorref01_Div.f k a1 a2 a3).bind fun bt330 => (if bt330.2.2.2 = true then (some (bt330.1, bt330.2.1, bt330.2.2.1, true)) else (some (Go.bits .and .i64 a1 65535, Go.bits .and .i64 a2 65535, bt330.2.2.1, false)))) else (if a0 = 10 then ((emulatorref01_Shift.f k a1 a3).bind fun bt334 => (some (bt334.1, Go.bits .and .i64 a2 65535, bt334.2, true))) else (some (0, 0, 0, false))))
theorem emulatorref10_Long.mono : ∀ a0 a1 a2 a3 a4 k, LeO (emulatorref10_Long.f k a0 a1 a2 a3 a4) (emulatorref10_Long.f (k + 1) a0 a1 a2 a3 a4) := by
  intro a0 a1 a2 a3 a4 k
  unfold emulatorref10_Long.f
  repeat' first
      | (with_reducible exact emulatorref01_Div.mono _ _ _ _)
      | (with_reducible exact emulatorref01_Mul.mono _ _ _)
      | (with_reducible exact emulatorref01_Shift.mono _ _ _)
      | (with_reducible exact LeO.refl _)
      | (with_reducible exact LeO.none _)
      | (with_reducible refine LeO.ite ?_ ?_)
      | (with_reducible refine LeO.bind ?_ (fun _ => ?_))
      | exact emulatorref01_Div.mono _ _ _ _
      | exact emulatorref01_Mul.mono _ _ _
      | exact emulatorref01_Shift.mono _ _ _
      | exact LeO.none _
      | refine LeO.ite ?_ ?_
      | refine LeO.bind ?_ (fun _ => ?_)
set_option maxHeartbeats 8000000 in
set_option maxRecDepth 100000 in
theorem emulatorref10_Long.calls (k : Nat) (a0 : Int) (a1 : Int) (a2 : Int) (a3 : Int) (a4 : Int) (r1 : Int) (r2 : Int) (r3 : Int) (r4 : Bool) (w : World) (h : emulatorref10_Long.f k a0 a1 a2 a3 a4 = some (r1, r2, r3, r4)) :
    Calls Tryd.prog 18 #[.int .i64 a0, .int .i64 a1, .int .i64 a2, .int .i64 a3, .int .i64 a4] w fun e w' => e = .returned (.tuple #[.int .i64 r1, .int .i64 r2, .int .i64 r3, .bool r4]) ∧ Drawn0 w w' := by
  have H : (if a0 = 8 then ((emulatorref01_Mul.f k a1 a3).bind fun bt327 => (some (bt327.1, bt327.2.1, bt327.2.2, true))) else (if a0 = 9 then ((emulatorref01_Div.f k a1 a2 a3).bind fun bt330 => (if bt330.2.2.2 = true then (some (bt330.1, bt330.2.1, bt330.2.2.1, true)) else (some (Go.bits .and .i64 a1 65535, Go.bits .and .i64 a2 65535, bt330.2.2.1, false)))) else (if a0 = 10 then ((emulatorref01_Shift.f k a1 a3).bind fun bt334 => (some (bt334.1, Go.bits .and .i64 a2 65535, bt334.2, true))) else (some (0, 0, 0, false))))) = some (r1, r2, r3, r4) := h
  clear h
  by_cases c6 : a0 = 8
  · rw [if_pos c6] at H
    have c6b0 : (a0 == 8) = true := beq_iff_eq.mpr c6
    have c6b1 : (a0 != 8) = false := bne_eq_false_iff_eq.mpr c6
    clear c6
    replace H := Option.bind_eq_some_iff.mp H
    obtain ⟨⟨t327, t328, t329⟩, A70, H⟩ := H
    replace H : (some (t327, t328, t329, true)) = some (r1, r2, r3, r4) := H
    have A7 := Aside0.mk A70
    clear A70
    simp only [Option.some.injEq, Prod.mk.injEq] at H
    obtain ⟨rfl, rfl, rfl, rfl⟩ := H
    go_enter Tryd.func18, Tryd.ntmps18
    go_wp2_with (first | ((with_reducible refine gate_callee (f := 38) rfl ?_); refine goesL_ (some 28) rfl rfl Tryd.func38 (by kernel_rfl) rfl #[.int .i64 a1, .int .i64 a3] rfl (by (try simp only [List.map_toArray, List.map_cons, List.map_nil]); first | done | rfl | (simp only [List.length_drop, List.length_take]; rfl)) ?_; (with_reducible refine (emulatorref01_Mul.calls k a1 a3 t327 t328 t329 _ A7.out).mono ?_); rintro e w' ⟨rfl, ⟨nd, rfl⟩⟩; refine ⟨_, rfl, ?_⟩))
    refine bodyPost_ret (results_list (rs := [.tmp 10, .tmp 11, .tmp 12, .tmp 13]) rfl (by simp) (.tmp (.tmp (.tmp (.tmp .nil))))) rfl ?_
    exact ⟨by first | rfl | (simp; done) | (simp [*]; done), by repeat (first | exact Drawn0.refl _ | apply Drawn0.step)⟩
  · rw [if_neg c6] at H
    have c6b0 : (a0 == 8) = false := beq_eq_false_iff_ne.mpr c6
    have c6b1 : (a0 != 8) = true := bne_iff_ne.mpr c6
    by_cases c8 : a0 = 9
    · rw [if_pos c8] at H
      have c8b0 : (a0 == 9) = true := beq_iff_eq.mpr c8
      have c8b1 : (a0 != 9) = false := bne_eq_false_iff_eq.mpr c8
      clear c8
      replace H := Option.bind_eq_some_iff.mp H
      obtain ⟨⟨t330, t331, t332, t333⟩, A90, H⟩ := H
      replace H : (if t333 = true then (some (t330, t331, t332, true)) else (some (Go.bits .and .i64 a1 65535, Go.bits .and .i64 a2 65535, t332, false))) = some (r1, r2, r3, r4) := H
      have A9 := Aside0.mk A90
      clear A90
      by_cases c10 : t333 = true
      · subst c10
        have H1 : (some (t330, t331, t332, true)) = some (r1, r2, r3, r4) := by rw [if_pos rfl] at H; exact H
        clear H
        have H := H1
        clear H1
        simp only [Option.some.injEq, Prod.mk.injEq] at H
        obtain ⟨rfl, rfl, rfl, rfl⟩ := H
        go_enter Tryd.func18, Tryd.ntmps18
        go_wp2_with (first | ((with_reducible refine gate_callee (f := 39) rfl ?_); refine goesL_ (some 41) rfl rfl Tryd.func39 (by kernel_rfl) rfl #[.int .i64 a1, .int .i64 a2, .int .i64 a3] rfl (by (try simp only [List.map_toArray, List.map_cons, List.map_nil]); first | done | rfl | (simp only [List.length_drop, List.length_take]; rfl)) ?_; (with_reducible refine (emulatorref01_Div.calls k a1 a2 a3 t330 t331 t332 true _ A9.out).mono ?_); rintro e w' ⟨rfl, ⟨nd, rfl⟩⟩; refine ⟨_, rfl, ?_⟩))
        refine bodyPost_ret (results_list (rs := [.tmp 10, .tmp 11, .tmp 12, .tmp 13]) rfl (by simp) (.tmp (.tmp (.tmp (.tmp .nil))))) rfl ?_
        exact ⟨by first | rfl | (simp; done) | (simp [*]; done), by repeat (first | exact Drawn0.refl _ | apply Drawn0.step)⟩
      · replace c10 := Bool.eq_false_iff.mpr c10
        subst c10
        have H1 : (some (Go.bits .and .i64 a1 65535, Go.bits .and .i64 a2 65535, t332, false)) = some (r1, r2, r3, r4) := by rw [if_neg (show ¬ (false = true) by decide)] at H; exact H
        clear H
        have H := H1
        clear H1
        simp only [Option.some.injEq, Prod.mk.injEq] at H
        obtain ⟨rfl, rfl, rfl, rfl⟩ := H
        go_enter Tryd.func18, Tryd.ntmps18
        go_wp2_with (first | ((with_reducible refine gate_callee (f := 39) rfl ?_); refine goesL_ (some 41) rfl rfl Tryd.func39 (by kernel_rfl) rfl #[.int .i64 a1, .int .i64 a2, .int .i64 a3] rfl (by (try simp only [List.map_toArray, List.map_cons, List.map_nil]); first | done | rfl | (simp only [List.length_drop, List.length_take]; rfl)) ?_; (with_reducible refine (emulatorref01_Div.calls k a1 a2 a3 t330 t331 t332 false _ A9.out).mono ?_); rintro e w' ⟨rfl, ⟨nd, rfl⟩⟩; refine ⟨_, rfl, ?_⟩))
        refine bodyPost_ret (results_list (rs := [.tmp 10, .tmp 11, .tmp 12, .tmp 13]) rfl (by simp) (.tmp (.tmp (.tmp (.tmp .nil))))) rfl ?_
        exact ⟨by first | rfl | (simp; done) | (simp [*]; done), by repeat (first | exact Drawn0.refl _ | apply Drawn0.step)⟩
    · rw [if_neg c8] at H
      have c8b0 : (a0 == 9) = false := beq_eq_false_iff_ne.mpr c8
      have c8b1 : (a0 != 9) = true := bne_iff_ne.mpr c8
      by_cases c11 : a0 = 10
      · rw [if_pos c11] at H
        have c11b0 : (a0 == 10) = true := beq_iff_eq.mpr c11
        have c11b1 : (a0 != 10) = false := bne_eq_false_iff_eq.mpr c11
        clear c11
        replace H := Option.bind_eq_some_iff.mp H
        obtain ⟨⟨t334, t335⟩, A120, H⟩ := H
        replace H : (some (t334, Go.bits .and .i64 a2 65535, t335, true)) = some (r1, r2, r3, r4) := H
        have A12 := Aside0.mk A120
        clear A120
        simp only [Option.some.injEq, Prod.mk.injEq] at H
        obtain ⟨rfl, rfl, rfl, rfl⟩ := H
        go_enter Tryd.func18, Tryd.ntmps18
        go_wp2_with (first | ((with_reducible refine gate_callee (f := 40) rfl ?_); refine goesL_ (some 61) rfl rfl Tryd.func40 (by kernel_rfl) rfl #[.int .i64 a1, .int .i64 a3] rfl (by (try simp only [List.map_toArray, List.map_cons, List.map_nil]); first | done | rfl | (simp only [List.length_drop, List.length_take]; rfl)) ?_; (with_reducible refine (emulatorref01_Shift.calls k a1 a3 t334 t335 _ A12.out).mono ?_); rintro e w' ⟨rfl, ⟨nd, rfl⟩⟩; refine ⟨_, rfl, ?_⟩))
        refine bodyPost_ret (results_list (rs := [.tmp 10, .tmp 11, .tmp 12, .tmp 13]) rfl (by simp) (.tmp (.tmp (.tmp (.tmp .nil))))) rfl ?_
        exact ⟨by first | rfl | (simp; done) | (simp [*]; done), by repeat (first | exact Drawn0.refl _ | apply Drawn0.step)⟩
      · rw [if_neg c11] at H
        have c11b0 : (a0 == 10) = false := beq_eq_false_iff_ne.mpr c11
        have c11b1 : (a0 != 10) = true := bne_iff_ne.mpr c11
        simp only [Option.some.injEq, Prod.mk.injEq] at H
        obtain ⟨rfl, rfl, rfl, rfl⟩ := H
        go_enter Tryd.func18, Tryd.ntmps18
        go_wp2
        refine bodyPost_ret (results_list (rs := [.tmp 10, .tmp 11, .tmp 12, .tmp 13]) rfl (by simp) (.tmp (.tmp (.tmp (.tmp .nil))))) rfl ?_
        exact ⟨by first | rfl | (simp; done) | (simp [*]; done), by repeat (first | exact Drawn0.refl _ | apply Drawn0.step)⟩

/-! ### emulatorlaw10_AluLongs: function 6 -/
def emulatorlaw10_AluLongs.f (k : Nat) (a0_0 : Int) (a0_1 : Bool) (a0_2 : Int) (a0_3 : Int) (a0_4 : Int) (a0_5 : Int) : Option (Bool) := (alu_Long.f k a0_0 a0_2 a0_3 a0_4 a0_5).bind fun bt337 => ((emulatorref10_Long.f k a0_0 a0_2 a0_3 a0_4 a0_5).bind fun bt341 => (if bt337.1 = bt341.1 then (if bt337.2.1 = bt341.2.1 then (if bt337.2.2.1 = bt341.2.2.1 then (if (bt337.2.2.2 == bt341.2.2.2) = true then ((emulatorlaw10_alive.f k).bind fun t345 => (some t345)) else (some false)) else (some false)) else (some false)) else (some false)))
theorem emulatorlaw10_AluLongs.mono : ∀ a0 a1 a2 a3 a4 a5 k, LeO (emulatorlaw10_AluLongs.f k a0 a1 a2 a3 a4 a5) (emulatorlaw10_AluLongs.f (k + 1) a0 a1 a2 a3 a4 a5) := by
  intro a0 a1 a2 a3 a4 a5 k
  unfold emulatorlaw10_AluLongs.f
  repeat' first
      | (with_reducible exact alu_Long.mono _ _ _ _ _ _)
      | (with_reducible exact emulatorlaw10_alive.mono _)
      | (with_reducible exact emulatorref10_Long.mono _ _ _ _ _ _)
      | (with_reducible exact LeO.refl _)
      | (with_reducible exact LeO.none _)
      | (with_reducible refine LeO.ite ?_ ?_)
      | (with_reducible refine LeO.bind ?_ (fun _ => ?_))
      | exact alu_Long.mono _ _ _ _ _ _
      | exact emulatorlaw10_alive.mono _
      | exact emulatorref10_Long.mono _ _ _ _ _ _
      | exact LeO.none _
      | refine LeO.ite ?_ ?_
      | refine LeO.bind ?_ (fun _ => ?_)
set_option maxHeartbeats 8000000 in
set_option maxRecDepth 100000 in
theorem emulatorlaw10_AluLongs.calls (k : Nat) (a0_0 : Int) (a0_1 : Bool) (a0_2 : Int) (a0_3 : Int) (a0_4 : Int) (a0_5 : Int) (r : Bool) (w : World) (hS : Sz w) (h : emulatorlaw10_AluLongs.f k a0_0 a0_1 a0_2 a0_3 a0_4 a0_5 = some r) (hr0 : r = true) :
    Calls Tryd.prog 6 #[.agg #[.int .i64 a0_0, .bool a0_1, .int .i64 a0_2, .int .i64 a0_3, .int .i64 a0_4, .int .i64 a0_5]] w fun e w' => e = .returned (.bool r) ∧ Below w.heap.size w w' := by
  have hu23 := Tryd.underlying23
  have hr_ := Aside0.mk hr0
  clear hr0
  have HB := Aside0.mk (Below.refl w.heap.size w)
  have H : ((alu_Long.f k a0_0 a0_2 a0_3 a0_4 a0_5).bind fun bt337 => ((emulatorref10_Long.f k a0_0 a0_2 a0_3 a0_4 a0_5).bind fun bt341 => (if bt337.1 = bt341.1 then (if bt337.2.1 = bt341.2.1 then (if bt337.2.2.1 = bt341.2.2.1 then (if (bt337.2.2.2 == bt341.2.2.2) = true then ((emulatorlaw10_alive.f k).bind fun t345 => (some t345)) else (some false)) else (some false)) else (some false)) else (some false)))) = some r := h
  clear h
  replace H := Option.bind_eq_some_iff.mp H
  obtain ⟨⟨t337, t338, t339, t340⟩, A20, H⟩ := H
  replace H : ((emulatorref10_Long.f k a0_0 a0_2 a0_3 a0_4 a0_5).bind fun bt341 => (if t337 = bt341.1 then (if t338 = bt341.2.1 then (if t339 = bt341.2.2.1 then (if (t340 == bt341.2.2.2) = true then ((emulatorlaw10_alive.f k).bind fun t345 => (some t345)) else (some false)) else (some false)) else (some false)) else (some false))) = some r := H
  have A2 := Aside0.mk A20
  clear A20
  replace H := Option.bind_eq_some_iff.mp H
  obtain ⟨⟨t341, t342, t343, t344⟩, A30, H⟩ := H
  replace H : (if t337 = t341 then (if t338 = t342 then (if t339 = t343 then (if (t340 == t344) = true then ((emulatorlaw10_alive.f k).bind fun t345 => (some t345)) else (some false)) else (some false)) else (some false)) else (some false)) = some r := H
  have A3 := Aside0.mk A30
  clear A30
  by_cases c4 : t337 = t341
  · rw [if_pos c4] at H
    have c4b0 : (t337 == t341) = true := beq_iff_eq.mpr c4
    have c4b1 : (t337 != t341) = false := bne_eq_false_iff_eq.mpr c4
    clear c4
    by_cases c5 : t338 = t342
    · rw [if_pos c5] at H
      have c5b0 : (t338 == t342) = true := beq_iff_eq.mpr c5
      have c5b1 : (t338 != t342) = false := bne_eq_false_iff_eq.mpr c5
      clear c5
      by_cases c6 : t339 = t343
      · rw [if_pos c6] at H
        have c6b0 : (t339 == t343) = true := beq_iff_eq.mpr c6
        have c6b1 : (t339 != t343) = false := bne_eq_false_iff_eq.mpr c6
        clear c6
        by_cases c7 : (t340 == t344) = true
        · rw [if_pos c7] at H
          have c7b0 : (t340 == t344) = true := c7
          (try (have c7b1 : decide (t340 = t344) = true := by simpa using c7))
          (try (have c7b2 : (t340 == t344) = true := by simpa using c7))
          clear c7
          replace H := Option.bind_eq_some_iff.mp H
          obtain ⟨t345, A80, H⟩ := H
          replace H : (some t345) = some r := H
          have A8 := Aside0.mk A80
          clear A80
          obtain rfl := Option.some.inj H
          go_enter Tryd.func6, Tryd.ntmps6
          go_wp2_with (first | ((with_reducible refine gate_dst (N := 1) rfl ?_); refine box_event ?hg (N := 1) ?hd (cs := #[.int .i64 a0_0, .bool a0_1, .int .i64 a0_2, .int .i64 a0_3, .int .i64 a0_4, .int .i64 a0_5]) (t := 23) ?hr ?_; (case hd => rfl); (case hg => rfl); (case hr => first | (go_simp; done) | (go_simp; rfl)); intro gb336 hg w9 hbox hb; have n0_ := Aside0.mk (below_step (by repeat (first | (with_reducible first | exact HB.out | apply below_alloc | apply pw_below_drewN | apply below_drew1) | exact HB.out)) hb); have n1_ := Aside0.mk (hbox); have n2_ := Aside0.mk ((by rw [hg]; exact (below_size (by repeat (first | (with_reducible first | exact HB.out | apply below_alloc | apply pw_below_drewN | apply below_drew1) | exact HB.out))) : w.heap.size ≤ gb336)); have n3_ := Aside0.mk ((by rw [hg]; exact (below_size (by repeat (first | (with_reducible first | exact HB.out | apply below_alloc | apply pw_below_drewN | apply below_drew1) | exact HB.out))) : w.heap.size ≤ gb336)); clear HB; have HB := n0_; have BK336 := n1_; have GW336 := n2_; have GE336 := n3_; clear n0_ n1_ n2_ n3_; clear hb hbox hg; have hcz10_0 : w9.cell? ⟨gb336, 0, none⟩ = some (.int .i64 a0_0) := (blk_cell BK336.out 0).trans rfl; have hcz10_1 : w9.cell? ⟨gb336, 1, none⟩ = some (.bool a0_1) := (blk_cell BK336.out 1).trans rfl; have hcz10_2 : w9.cell? ⟨gb336, 2, none⟩ = some (.int .i64 a0_2) := (blk_cell BK336.out 2).trans rfl; have hcz10_3 : w9.cell? ⟨gb336, 3, none⟩ = some (.int .i64 a0_3) := (blk_cell BK336.out 3).trans rfl; have hcz10_4 : w9.cell? ⟨gb336, 4, none⟩ = some (.int .i64 a0_4) := (blk_cell BK336.out 4).trans rfl; have hcz10_5 : w9.cell? ⟨gb336, 5, none⟩ = some (.int .i64 a0_5) := (blk_cell BK336.out 5).trans rfl; have hfz10_0 := blk_frozen BK336.out 0; have hfz10_1 := blk_frozen BK336.out 1; have hfz10_2 := blk_frozen BK336.out 2; have hfz10_3 := blk_frozen BK336.out 3; have hfz10_4 := blk_frozen BK336.out 4; have hfz10_5 := blk_frozen BK336.out 5) | ((with_reducible refine gate_callee (f := 17) rfl ?_); refine goesL_ (some 22) rfl rfl Tryd.func17 (by kernel_rfl) rfl #[.int .i64 a0_0, .int .i64 a0_2, .int .i64 a0_3, .int .i64 a0_4, .int .i64 a0_5] rfl (by (try simp only [List.map_toArray, List.map_cons, List.map_nil]); first | done | rfl | (simp only [List.length_drop, List.length_take]; rfl)) ?_; (with_reducible refine (alu_Long.calls k a0_0 a0_2 a0_3 a0_4 a0_5 t337 t338 t339 t340 _ (hS.go (by repeat (first | (with_reducible first | exact HB.out | apply below_alloc | apply pw_below_drewN | apply below_drew1 | refine below_set ?_ GE336.out) | exact HB.out))) A2.out).mono ?_); rintro e w11 ⟨rfl, hb⟩; refine ⟨_, rfl, ?_⟩; have n0_ := Aside0.mk (blk_below (g := gb336) (o := .cells #[.int .i64 a0_0, .bool a0_1, .int .i64 a0_2, .int .i64 a0_3, .int .i64 a0_4, .int .i64 a0_5] 23 (0, 0)) (by (with_reducible repeat (first | refine blk_drewN ?_ _ | refine blk_drew ?_ | refine blk_alloc ?_ _)); exact BK336.out) hb); have n1_ := Aside0.mk (below_step (by repeat (first | (with_reducible first | exact HB.out | apply below_alloc | apply pw_below_drewN | apply below_drew1 | refine below_set ?_ GE336.out) | exact HB.out)) hb); clear BK336; clear HB; have BK336 := n0_; have HB := n1_; clear n0_ n1_; (try clear hb); (try clear hb2); (try clear hk); (try clear hi); have hcz12_0 : w11.cell? ⟨gb336, 0, none⟩ = some (.int .i64 a0_0) := (blk_cell BK336.out 0).trans rfl; have hcz12_1 : w11.cell? ⟨gb336, 1, none⟩ = some (.bool a0_1) := (blk_cell BK336.out 1).trans rfl; have hcz12_2 : w11.cell? ⟨gb336, 2, none⟩ = some (.int .i64 a0_2) := (blk_cell BK336.out 2).trans rfl; have hcz12_3 : w11.cell? ⟨gb336, 3, none⟩ = some (.int .i64 a0_3) := (blk_cell BK336.out 3).trans rfl; have hcz12_4 : w11.cell? ⟨gb336, 4, none⟩ = some (.int .i64 a0_4) := (blk_cell BK336.out 4).trans rfl; have hcz12_5 : w11.cell? ⟨gb336, 5, none⟩ = some (.int .i64 a0_5) := (blk_cell BK336.out 5).trans rfl; have hfz12_0 := blk_frozen BK336.out 0; have hfz12_1 := blk_frozen BK336.out 1; have hfz12_2 := blk_frozen BK336.out 2; have hfz12_3 := blk_frozen BK336.out 3; have hfz12_4 := blk_frozen BK336.out 4; have hfz12_5 := blk_frozen BK336.out 5) | ((with_reducible refine gate_callee (f := 18) rfl ?_); refine goesL_ (some 38) rfl rfl Tryd.func18 (by kernel_rfl) rfl #[.int .i64 a0_0, .int .i64 a0_2, .int .i64 a0_3, .int .i64 a0_4, .int .i64 a0_5] rfl (by (try simp only [List.map_toArray, List.map_cons, List.map_nil]); first | done | rfl | (simp only [List.length_drop, List.length_take]; rfl)) ?_; (with_reducible refine (emulatorref10_Long.calls k a0_0 a0_2 a0_3 a0_4 a0_5 t341 t342 t343 t344 _ A3.out).mono ?_); rintro e w' ⟨rfl, ⟨nd, rfl⟩⟩; refine ⟨_, rfl, ?_⟩) | (go_at_call 12; (with_reducible refine (emulatorlaw10_alive.calls k  t345 _ (hS.go (by repeat (first | (with_reducible first | exact HB.out | apply below_alloc | apply pw_below_drewN | apply below_drew1 | refine below_set ?_ GE336.out) | exact HB.out))) A8.out).mono ?_); rintro e w13 ⟨rfl, hb⟩; have n0_ := Aside0.mk (blk_below (g := gb336) (o := .cells #[.int .i64 a0_0, .bool a0_1, .int .i64 a0_2, .int .i64 a0_3, .int .i64 a0_4, .int .i64 a0_5] 23 (0, 0)) (by (with_reducible repeat (first | refine blk_drewN ?_ _ | refine blk_drew ?_ | refine blk_alloc ?_ _)); exact BK336.out) hb); have n1_ := Aside0.mk (below_step (by repeat (first | (with_reducible first | exact HB.out | apply below_alloc | apply pw_below_drewN | apply below_drew1 | refine below_set ?_ GE336.out) | exact HB.out)) hb); clear BK336; clear HB; have BK336 := n0_; have HB := n1_; clear n0_ n1_; (try clear hb); (try clear hb2); (try clear hk); (try clear hi)))
          go_ret
          exact ⟨by first | rfl | (simp [errW_none, errW_some] <;> rfl) | (simp [*, errW_none, errW_some] <;> rfl), by repeat (first | (with_reducible first | exact HB.out | apply below_alloc | apply pw_below_drewN | apply below_drew1 | refine below_set ?_ GE336.out) | exact HB.out)⟩
        · rw [if_neg c7] at H
          exact absurd (H.trans (congrArg some hr_.out)) (by decide)
      · rw [if_neg c6] at H
        exact absurd (H.trans (congrArg some hr_.out)) (by decide)
    · rw [if_neg c5] at H
      exact absurd (H.trans (congrArg some hr_.out)) (by decide)
  · rw [if_neg c4] at H
    exact absurd (H.trans (congrArg some hr_.out)) (by decide)end Go.Proofs.YtfeflghimnbhiaaDoor.A
