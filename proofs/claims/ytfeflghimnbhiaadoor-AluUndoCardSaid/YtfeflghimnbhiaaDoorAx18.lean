-- Written by a program of this session (mp.py) over the kit's print.py, with proofs by hand for what the print does not take.
import Derived.Test.YtfeflghimnbhiaaDoorAx0
import Derived.Test.YtfeflghimnbhiaaDoorAx4
import Derived.Test.YtfeflghimnbhiaaDoorAx10
import Derived.Test.YtfeflghimnbhiaaDoorAx13
import Derived.Test.YtfeflghimnbhiaaDoorAx17
namespace Go.Proofs.YtfeflghimnbhiaaDoor.A
open Go.RowKit Go.Proofs.YtfeflghimnbhiaaDoorW.PrintWords Go.Proofs.YtfeflghimnbhiaaDoorW.PrintLast Go.Proofs.YtfeflghimnbhiaaDoorW.PrintMore
attribute [local go_sem] max2_int min2_int max_two min_two max_three min_three max_four min_four   -- for this text's walks alone
set_option linter.unusedVariables false
set_option linter.unusedSimpArgs false

/-! ### emulatorlaw10_AluBranches: function 5 -/
def emulatorlaw10_AluBranches.f (k : Nat) (a0 : Int) (a1 : Int) : Option (Bool) := (alu_Taken.f a0 a1).bind fun t301 => ((emulatorref10_Taken.f a0 a1).bind fun t302 => (if (t301 == t302) = true then ((emulatorlaw10_alive.f k).bind fun t303 => (some t303)) else (some false)))
theorem emulatorlaw10_AluBranches.mono : ∀ a0 a1 k, LeO (emulatorlaw10_AluBranches.f k a0 a1) (emulatorlaw10_AluBranches.f (k + 1) a0 a1) := by
  intro a0 a1 k
  unfold emulatorlaw10_AluBranches.f
  repeat' first
      | (with_reducible exact emulatorlaw10_alive.mono _)
      | (with_reducible exact LeO.refl _)
      | (with_reducible exact LeO.none _)
      | (with_reducible refine LeO.ite ?_ ?_)
      | (with_reducible refine LeO.bind ?_ (fun _ => ?_))
      | exact emulatorlaw10_alive.mono _
      | exact LeO.none _
      | refine LeO.ite ?_ ?_
      | refine LeO.bind ?_ (fun _ => ?_)
set_option maxHeartbeats 8000000 in
set_option maxRecDepth 100000 in
theorem emulatorlaw10_AluBranches.calls (k : Nat) (a0 : Int) (a1 : Int) (r : Bool) (w : World) (hS : Sz w) (h : emulatorlaw10_AluBranches.f k a0 a1 = some r) (hr0 : r = true) :
    Calls Tryd.prog 5 #[.int .i64 a0, .int .i64 a1] w fun e w' => e = .returned (.bool r) ∧ Below w.heap.size w w' := by
  have hr_ := Aside0.mk hr0
  clear hr0
  have HB := Aside0.mk (Below.refl w.heap.size w)
  have H : ((alu_Taken.f a0 a1).bind fun t301 => ((emulatorref10_Taken.f a0 a1).bind fun t302 => (if (t301 == t302) = true then ((emulatorlaw10_alive.f k).bind fun t303 => (some t303)) else (some false)))) = some r := h
  clear h
  replace H := Option.bind_eq_some_iff.mp H
  obtain ⟨t301, A30, H⟩ := H
  replace H : ((emulatorref10_Taken.f a0 a1).bind fun t302 => (if (t301 == t302) = true then ((emulatorlaw10_alive.f k).bind fun t303 => (some t303)) else (some false))) = some r := H
  have A3 := Aside0.mk A30
  clear A30
  replace H := Option.bind_eq_some_iff.mp H
  obtain ⟨t302, A40, H⟩ := H
  replace H : (if (t301 == t302) = true then ((emulatorlaw10_alive.f k).bind fun t303 => (some t303)) else (some false)) = some r := H
  have A4 := Aside0.mk A40
  clear A40
  by_cases c5 : (t301 == t302) = true
  · rw [if_pos c5] at H
    have c5b0 : (t301 == t302) = true := c5
    (try (have c5b1 : decide (t301 = t302) = true := by simpa using c5))
    (try (have c5b2 : (t301 == t302) = true := by simpa using c5))
    clear c5
    replace H := Option.bind_eq_some_iff.mp H
    obtain ⟨t303, A60, H⟩ := H
    replace H : (some t303) = some r := H
    have A6 := Aside0.mk A60
    clear A60
    obtain rfl := Option.some.inj H
    go_enter Tryd.func5, Tryd.ntmps5
    go_wp2_with (first | ((with_reducible refine gate_callee (f := 15) rfl ?_); refine goesL_ (some 7) rfl rfl Tryd.func15 (by kernel_rfl) rfl #[.int .i64 a0, .int .i64 a1] rfl (by (try simp only [List.map_toArray, List.map_cons, List.map_nil]); first | done | rfl | (simp only [List.length_drop, List.length_take]; rfl)) ?_; (with_reducible refine (alu_Taken.calls a0 a1 t301 _ A3.out).mono ?_); rintro e w' ⟨rfl, ⟨nd, rfl⟩⟩; refine ⟨_, rfl, ?_⟩) | ((with_reducible refine gate_callee (f := 16) rfl ?_); refine goesL_ (some 10) rfl rfl Tryd.func16 (by kernel_rfl) rfl #[.int .i64 a0, .int .i64 a1] rfl (by (try simp only [List.map_toArray, List.map_cons, List.map_nil]); first | done | rfl | (simp only [List.length_drop, List.length_take]; rfl)) ?_; (with_reducible refine (emulatorref10_Taken.calls a0 a1 t302 _ A4.out).mono ?_); rintro e w' ⟨rfl, ⟨nd, rfl⟩⟩; refine ⟨_, rfl, ?_⟩) | (go_at_call 12; (with_reducible refine (emulatorlaw10_alive.calls k  t303 _ (hS.go (by repeat (first | (with_reducible first | exact HB.out | apply below_alloc | apply pw_below_drewN | apply below_drew1) | exact HB.out))) A6.out).mono ?_); rintro e w7 ⟨rfl, hb⟩; have n0_ := Aside0.mk (below_step (by repeat (first | (with_reducible first | exact HB.out | apply below_alloc | apply pw_below_drewN | apply below_drew1) | exact HB.out)) hb); clear HB; have HB := n0_; clear n0_; (try clear hb); (try clear hb2); (try clear hk); (try clear hi)))
    go_ret
    exact ⟨by first | rfl | (simp [errW_none, errW_some] <;> rfl) | (simp [*, errW_none, errW_some] <;> rfl), by repeat (first | (with_reducible first | exact HB.out | apply below_alloc | apply pw_below_drewN | apply below_drew1) | exact HB.out)⟩
  · rw [if_neg c5] at H
    exact absurd (H.trans (congrArg some hr_.out)) (by decide)

/-! ### emulatorref01_value: function 49 -/
def emulatorref01_value.f (a0 : Int) (a1 : Bool) : Option (Int) := (emulatorref01_mask.f a1).bind fun t304 => ((emulatorref01_sign.f a0 a1).bind fun t305 => (if t305 = 1 then ((emulatorref01_mask.f a1).bind fun t306 => (some (wrap64 ((Go.bits .and .i64 a0 t304) - (wrap64 (t306 + 1)))))) else (some (Go.bits .and .i64 a0 t304))))
set_option maxHeartbeats 8000000 in
set_option maxRecDepth 100000 in
theorem emulatorref01_value.calls (a0 : Int) (a1 : Bool) (r : Int) (w : World) (h : emulatorref01_value.f a0 a1 = some r) :
    Calls Tryd.prog 49 #[.int .i64 a0, .bool a1] w fun e w' => e = .returned (.int .i64 r) ∧ Drawn0 w w' := by
  have H : ((emulatorref01_mask.f a1).bind fun t304 => ((emulatorref01_sign.f a0 a1).bind fun t305 => (if t305 = 1 then ((emulatorref01_mask.f a1).bind fun t306 => (some (wrap64 ((Go.bits .and .i64 a0 t304) - (wrap64 (t306 + 1)))))) else (some (Go.bits .and .i64 a0 t304))))) = some r := h
  clear h
  replace H := Option.bind_eq_some_iff.mp H
  obtain ⟨t304, A30, H⟩ := H
  replace H : ((emulatorref01_sign.f a0 a1).bind fun t305 => (if t305 = 1 then ((emulatorref01_mask.f a1).bind fun t306 => (some (wrap64 ((Go.bits .and .i64 a0 t304) - (wrap64 (t306 + 1)))))) else (some (Go.bits .and .i64 a0 t304)))) = some r := H
  have A3 := Aside0.mk A30
  clear A30
  replace H := Option.bind_eq_some_iff.mp H
  obtain ⟨t305, A40, H⟩ := H
  replace H : (if t305 = 1 then ((emulatorref01_mask.f a1).bind fun t306 => (some (wrap64 ((Go.bits .and .i64 a0 t304) - (wrap64 (t306 + 1)))))) else (some (Go.bits .and .i64 a0 t304))) = some r := H
  have A4 := Aside0.mk A40
  clear A40
  by_cases c5 : t305 = 1
  · rw [if_pos c5] at H
    have c5b0 : (t305 == 1) = true := beq_iff_eq.mpr c5
    have c5b1 : (t305 != 1) = false := bne_eq_false_iff_eq.mpr c5
    clear c5
    replace H := Option.bind_eq_some_iff.mp H
    obtain ⟨t306, A60, H⟩ := H
    replace H : (some (wrap64 ((Go.bits .and .i64 a0 t304) - (wrap64 (t306 + 1))))) = some r := H
    have A6 := Aside0.mk A60
    clear A60
    obtain rfl := Option.some.inj H
    go_enter Tryd.func49, Tryd.ntmps49
    go_wp2_with (first | ((with_reducible refine gate_callee (f := 43) rfl ?_); refine goesL_ (some 8) rfl rfl Tryd.func43 (by kernel_rfl) rfl #[.bool a1] rfl (by (try simp only [List.map_toArray, List.map_cons, List.map_nil]); first | done | rfl | (simp only [List.length_drop, List.length_take]; rfl)) ?_; (with_reducible refine (emulatorref01_mask.calls a1 t304 _ A3.out).mono ?_); rintro e w' ⟨rfl, ⟨nd, rfl⟩⟩; refine ⟨_, rfl, ?_⟩) | ((with_reducible refine gate_callee (f := 44) rfl ?_); refine goesL_ (some 12) rfl rfl Tryd.func44 (by kernel_rfl) rfl #[.int .i64 a0, .bool a1] rfl (by (try simp only [List.map_toArray, List.map_cons, List.map_nil]); first | done | rfl | (simp only [List.length_drop, List.length_take]; rfl)) ?_; (with_reducible refine (emulatorref01_sign.calls a0 a1 t305 _ A4.out).mono ?_); rintro e w' ⟨rfl, ⟨nd, rfl⟩⟩; refine ⟨_, rfl, ?_⟩) | ((with_reducible refine gate_callee (f := 43) rfl ?_); refine goesL_ (some 16) rfl rfl Tryd.func43 (by kernel_rfl) rfl #[.bool a1] rfl (by (try simp only [List.map_toArray, List.map_cons, List.map_nil]); first | done | rfl | (simp only [List.length_drop, List.length_take]; rfl)) ?_; (with_reducible refine (emulatorref01_mask.calls a1 t306 _ A6.out).mono ?_); rintro e w' ⟨rfl, ⟨nd, rfl⟩⟩; refine ⟨_, rfl, ?_⟩))
    go_ret
    exact ⟨by first | rfl | (simp; done) | (simp [*]; done), by repeat (first | exact Drawn0.refl _ | apply Drawn0.step)⟩
  · rw [if_neg c5] at H
    have c5b0 : (t305 == 1) = false := beq_eq_false_iff_ne.mpr c5
    have c5b1 : (t305 != 1) = true := bne_iff_ne.mpr c5
    obtain rfl := Option.some.inj H
    go_enter Tryd.func49, Tryd.ntmps49
    go_wp2_with (first | ((with_reducible refine gate_callee (f := 43) rfl ?_); refine goesL_ (some 8) rfl rfl Tryd.func43 (by kernel_rfl) rfl #[.bool a1] rfl (by (try simp only [List.map_toArray, List.map_cons, List.map_nil]); first | done | rfl | (simp only [List.length_drop, List.length_take]; rfl)) ?_; (with_reducible refine (emulatorref01_mask.calls a1 t304 _ A3.out).mono ?_); rintro e w' ⟨rfl, ⟨nd, rfl⟩⟩; refine ⟨_, rfl, ?_⟩) | ((with_reducible refine gate_callee (f := 44) rfl ?_); refine goesL_ (some 12) rfl rfl Tryd.func44 (by kernel_rfl) rfl #[.int .i64 a0, .bool a1] rfl (by (try simp only [List.map_toArray, List.map_cons, List.map_nil]); first | done | rfl | (simp only [List.length_drop, List.length_take]; rfl)) ?_; (with_reducible refine (emulatorref01_sign.calls a0 a1 t305 _ A4.out).mono ?_); rintro e w' ⟨rfl, ⟨nd, rfl⟩⟩; refine ⟨_, rfl, ?_⟩))
    go_ret
    exact ⟨by first | rfl | (simp; done) | (simp [*]; done), by repeat (first | exact Drawn0.refl _ | apply Drawn0.step)⟩

/-! ### emulatorref01_Signed: function 47 -/
def emulatorref01_Signed.f (a0 : Int) : Option (Int) := (emulatorref01_value.f a0 false).bind fun t307 => (some t307)
set_option maxHeartbeats 8000000 in
set_option maxRecDepth 100000 in
theorem emulatorref01_Signed.calls (a0 : Int) (r : Int) (w : World) (h : emulatorref01_Signed.f a0 = some r) :
    Calls Tryd.prog 47 #[.int .i64 a0] w fun e w' => e = .returned (.int .i64 r) ∧ Drawn0 w w' := by
  have H : ((emulatorref01_value.f a0 false).bind fun t307 => (some t307)) = some r := h
  clear h
  replace H := Option.bind_eq_some_iff.mp H
  obtain ⟨t307, A20, H⟩ := H
  replace H : (some t307) = some r := H
  have A2 := Aside0.mk A20
  clear A20
  obtain rfl := Option.some.inj H
  go_enter Tryd.func47, Tryd.ntmps47
  go_wp2_with (first | ((with_reducible refine gate_callee (f := 49) rfl ?_); refine goesL_ (some 4) rfl rfl Tryd.func49 (by kernel_rfl) rfl #[.int .i64 a0, .bool false] rfl (by (try simp only [List.map_toArray, List.map_cons, List.map_nil]); first | done | rfl | (simp only [List.length_drop, List.length_take]; rfl)) ?_; (with_reducible refine (emulatorref01_value.calls a0 false t307 _ A2.out).mono ?_); rintro e w' ⟨rfl, ⟨nd, rfl⟩⟩; refine ⟨_, rfl, ?_⟩))
  go_ret
  exact ⟨by first | rfl | (simp; done) | (simp [*]; done), by repeat (first | exact Drawn0.refl _ | apply Drawn0.step)⟩

/-! ### emulatorref01_Wrap: function 48 -/
def emulatorref01_Wrap.f (a0 : Int) : Option (Int) := some (Go.bits .and .i64 a0 65535)
set_option maxHeartbeats 8000000 in
set_option maxRecDepth 100000 in
theorem emulatorref01_Wrap.calls (a0 : Int) (r : Int) (w : World) (h : emulatorref01_Wrap.f a0 = some r) :
    Calls Tryd.prog 48 #[.int .i64 a0] w fun e w' => e = .returned (.int .i64 r) ∧ Drawn0 w w' := by
  have H : (some (Go.bits .and .i64 a0 65535)) = some r := h
  clear h
  obtain rfl := Option.some.inj H
  go_enter Tryd.func48, Tryd.ntmps48
  go_wp2
  go_ret
  exact ⟨by first | rfl | (simp; done) | (simp [*]; done), by repeat (first | exact Drawn0.refl _ | apply Drawn0.step)⟩

end Go.Proofs.YtfeflghimnbhiaaDoor.A
