-- Written by a program of this session (mp.py) over the kit's print.py, with proofs by hand for what the print does not take.
import Derived.Test.YtiodpkkigjfkgaaDoorAx0
namespace Go.Proofs.YtiodpkkigjfkgaaDoor.A
open Go.RowKit Go.Proofs.YtiodpkkigjfkgaaDoorW.PrintWords Go.Proofs.YtiodpkkigjfkgaaDoorW.PrintLast Go.Proofs.YtiodpkkigjfkgaaDoorW.PrintMore
attribute [local go_sem] max2_int min2_int max_two min_two max_three min_three max_four min_four   -- for this text's walks alone
set_option linter.unusedVariables false
set_option linter.unusedSimpArgs false

/-! ### emulatorref01_mask: function 35 -/
def emulatorref01_mask.f (a0 : Bool) : Option (Int) := if a0 = true then (some 255) else (some 65535)
set_option maxHeartbeats 8000000 in
set_option maxRecDepth 100000 in
theorem emulatorref01_mask.calls (a0 : Bool) (r : Int) (w : World) (h : emulatorref01_mask.f a0 = some r) :
    Calls Tryd.prog 35 #[.bool a0] w fun e w' => e = .returned (.int .i64 r) ∧ Drawn0 w w' := by
  have H : (if a0 = true then (some 255) else (some 65535)) = some r := h
  clear h
  by_cases c2 : a0 = true
  · subst c2
    have H1 : (some 255) = some r := by rw [if_pos rfl] at H; exact H
    clear H
    have H := H1
    clear H1
    obtain rfl := Option.some.inj H
    go_enter Tryd.func35, Tryd.ntmps35
    go_wp2
    go_ret
    exact ⟨by first | rfl | (simp; done) | (simp [*]; done), by repeat (first | exact Drawn0.refl _ | apply Drawn0.step)⟩
  · replace c2 := Bool.eq_false_iff.mpr c2
    subst c2
    have H1 : (some 65535) = some r := by rw [if_neg (show ¬ (false = true) by decide)] at H; exact H
    clear H
    have H := H1
    clear H1
    obtain rfl := Option.some.inj H
    go_enter Tryd.func35, Tryd.ntmps35
    go_wp2
    go_ret
    exact ⟨by first | rfl | (simp; done) | (simp [*]; done), by repeat (first | exact Drawn0.refl _ | apply Drawn0.step)⟩

/-! ### emulatorref01_sign: function 36 -/
def emulatorref01_sign.f (a0 : Int) (a1 : Bool) : Option (Int) := (emulatorref01_mask.f a1).bind fun t115 => ((emulatorref01_mask.f a1).bind fun t116 => (if (Go.bits .and .i64 a0 t115) > (wrap64 (Int.tdiv t116 2)) then (some 1) else (some 0)))
set_option maxHeartbeats 8000000 in
set_option maxRecDepth 100000 in
theorem emulatorref01_sign.calls (a0 : Int) (a1 : Bool) (r : Int) (w : World) (h : emulatorref01_sign.f a0 a1 = some r) :
    Calls Tryd.prog 36 #[.int .i64 a0, .bool a1] w fun e w' => e = .returned (.int .i64 r) ∧ Drawn0 w w' := by
  have H : ((emulatorref01_mask.f a1).bind fun t115 => ((emulatorref01_mask.f a1).bind fun t116 => (if (Go.bits .and .i64 a0 t115) > (wrap64 (Int.tdiv t116 2)) then (some 1) else (some 0)))) = some r := h
  clear h
  replace H := Option.bind_eq_some_iff.mp H
  obtain ⟨t115, A30, H⟩ := H
  replace H : ((emulatorref01_mask.f a1).bind fun t116 => (if (Go.bits .and .i64 a0 t115) > (wrap64 (Int.tdiv t116 2)) then (some 1) else (some 0))) = some r := H
  have A3 := Aside0.mk A30
  clear A30
  replace H := Option.bind_eq_some_iff.mp H
  obtain ⟨t116, A40, H⟩ := H
  replace H : (if (Go.bits .and .i64 a0 t115) > (wrap64 (Int.tdiv t116 2)) then (some 1) else (some 0)) = some r := H
  have A4 := Aside0.mk A40
  clear A40
  by_cases c5 : (Go.bits .and .i64 a0 t115) > (wrap64 (Int.tdiv t116 2))
  · rw [if_pos c5] at H
    have c5b0 : decide ((wrap64 (Int.tdiv t116 2)) < (Go.bits .and .i64 a0 t115)) = true := decide_eq_true c5
    clear c5
    obtain rfl := Option.some.inj H
    go_enter Tryd.func36, Tryd.ntmps36
    go_wp2_with (first | ((with_reducible refine gate_callee (f := 35) rfl ?_); refine goesL_ (some 7) rfl rfl Tryd.func35 (by kernel_rfl) rfl #[.bool a1] rfl (by (try simp only [List.map_toArray, List.map_cons, List.map_nil]); first | done | rfl | (simp only [List.length_drop, List.length_take]; rfl)) ?_; (with_reducible refine (emulatorref01_mask.calls a1 t115 _ A3.out).mono ?_); rintro e w' ⟨rfl, ⟨nd, rfl⟩⟩; refine ⟨_, rfl, ?_⟩) | ((with_reducible refine gate_callee (f := 35) rfl ?_); refine goesL_ (some 10) rfl rfl Tryd.func35 (by kernel_rfl) rfl #[.bool a1] rfl (by (try simp only [List.map_toArray, List.map_cons, List.map_nil]); first | done | rfl | (simp only [List.length_drop, List.length_take]; rfl)) ?_; (with_reducible refine (emulatorref01_mask.calls a1 t116 _ A4.out).mono ?_); rintro e w' ⟨rfl, ⟨nd, rfl⟩⟩; refine ⟨_, rfl, ?_⟩))
    go_ret
    exact ⟨by first | rfl | (simp; done) | (simp [*]; done), by repeat (first | exact Drawn0.refl _ | apply Drawn0.step)⟩
  · rw [if_neg c5] at H
    have c5b0 : decide ((wrap64 (Int.tdiv t116 2)) < (Go.bits .and .i64 a0 t115)) = false := decide_eq_false c5
    clear c5
    obtain rfl := Option.some.inj H
    go_enter Tryd.func36, Tryd.ntmps36
    go_wp2_with (first | ((with_reducible refine gate_callee (f := 35) rfl ?_); refine goesL_ (some 7) rfl rfl Tryd.func35 (by kernel_rfl) rfl #[.bool a1] rfl (by (try simp only [List.map_toArray, List.map_cons, List.map_nil]); first | done | rfl | (simp only [List.length_drop, List.length_take]; rfl)) ?_; (with_reducible refine (emulatorref01_mask.calls a1 t115 _ A3.out).mono ?_); rintro e w' ⟨rfl, ⟨nd, rfl⟩⟩; refine ⟨_, rfl, ?_⟩) | ((with_reducible refine gate_callee (f := 35) rfl ?_); refine goesL_ (some 10) rfl rfl Tryd.func35 (by kernel_rfl) rfl #[.bool a1] rfl (by (try simp only [List.map_toArray, List.map_cons, List.map_nil]); first | done | rfl | (simp only [List.length_drop, List.length_take]; rfl)) ?_; (with_reducible refine (emulatorref01_mask.calls a1 t116 _ A4.out).mono ?_); rintro e w' ⟨rfl, ⟨nd, rfl⟩⟩; refine ⟨_, rfl, ?_⟩))
    go_ret
    exact ⟨by first | rfl | (simp; done) | (simp [*]; done), by repeat (first | exact Drawn0.refl _ | apply Drawn0.step)⟩

/-! ### emulatorref01_Flags: function 32 -/
def emulatorref01_Flags.f (a0 : Int) (a1 : Bool) : Option (Int) := (emulatorref01_sign.f a0 a1).bind fun t117 => ((emulatorref01_mask.f a1).bind fun t118 => (if (Go.bits .and .i64 a0 t118) = 0 then (some (wrap64 ((wrap64 (8 * t117)) + 4))) else (some (wrap64 (8 * t117)))))
set_option maxHeartbeats 8000000 in
set_option maxRecDepth 100000 in
theorem emulatorref01_Flags.calls (a0 : Int) (a1 : Bool) (r : Int) (w : World) (h : emulatorref01_Flags.f a0 a1 = some r) :
    Calls Tryd.prog 32 #[.int .i64 a0, .bool a1] w fun e w' => e = .returned (.int .i64 r) ∧ Drawn0 w w' := by
  have H : ((emulatorref01_sign.f a0 a1).bind fun t117 => ((emulatorref01_mask.f a1).bind fun t118 => (if (Go.bits .and .i64 a0 t118) = 0 then (some (wrap64 ((wrap64 (8 * t117)) + 4))) else (some (wrap64 (8 * t117)))))) = some r := h
  clear h
  replace H := Option.bind_eq_some_iff.mp H
  obtain ⟨t117, A30, H⟩ := H
  replace H : ((emulatorref01_mask.f a1).bind fun t118 => (if (Go.bits .and .i64 a0 t118) = 0 then (some (wrap64 ((wrap64 (8 * t117)) + 4))) else (some (wrap64 (8 * t117))))) = some r := H
  have A3 := Aside0.mk A30
  clear A30
  replace H := Option.bind_eq_some_iff.mp H
  obtain ⟨t118, A40, H⟩ := H
  replace H : (if (Go.bits .and .i64 a0 t118) = 0 then (some (wrap64 ((wrap64 (8 * t117)) + 4))) else (some (wrap64 (8 * t117)))) = some r := H
  have A4 := Aside0.mk A40
  clear A40
  by_cases c5 : (Go.bits .and .i64 a0 t118) = 0
  · rw [if_pos c5] at H
    have c5b0 : ((Go.bits .and .i64 a0 t118) == 0) = true := beq_iff_eq.mpr c5
    have c5b1 : ((Go.bits .and .i64 a0 t118) != 0) = false := bne_eq_false_iff_eq.mpr c5
    clear c5
    obtain rfl := Option.some.inj H
    go_enter Tryd.func32, Tryd.ntmps32
    go_wp2_with (first | ((with_reducible refine gate_callee (f := 36) rfl ?_); refine goesL_ (some 8) rfl rfl Tryd.func36 (by kernel_rfl) rfl #[.int .i64 a0, .bool a1] rfl (by (try simp only [List.map_toArray, List.map_cons, List.map_nil]); first | done | rfl | (simp only [List.length_drop, List.length_take]; rfl)) ?_; (with_reducible refine (emulatorref01_sign.calls a0 a1 t117 _ A3.out).mono ?_); rintro e w' ⟨rfl, ⟨nd, rfl⟩⟩; refine ⟨_, rfl, ?_⟩) | ((with_reducible refine gate_callee (f := 35) rfl ?_); refine goesL_ (some 12) rfl rfl Tryd.func35 (by kernel_rfl) rfl #[.bool a1] rfl (by (try simp only [List.map_toArray, List.map_cons, List.map_nil]); first | done | rfl | (simp only [List.length_drop, List.length_take]; rfl)) ?_; (with_reducible refine (emulatorref01_mask.calls a1 t118 _ A4.out).mono ?_); rintro e w' ⟨rfl, ⟨nd, rfl⟩⟩; refine ⟨_, rfl, ?_⟩))
    go_ret
    exact ⟨by first | rfl | (simp; done) | (simp [*]; done), by repeat (first | exact Drawn0.refl _ | apply Drawn0.step)⟩
  · rw [if_neg c5] at H
    have c5b0 : ((Go.bits .and .i64 a0 t118) == 0) = false := beq_eq_false_iff_ne.mpr c5
    have c5b1 : ((Go.bits .and .i64 a0 t118) != 0) = true := bne_iff_ne.mpr c5
    obtain rfl := Option.some.inj H
    go_enter Tryd.func32, Tryd.ntmps32
    go_wp2_with (first | ((with_reducible refine gate_callee (f := 36) rfl ?_); refine goesL_ (some 8) rfl rfl Tryd.func36 (by kernel_rfl) rfl #[.int .i64 a0, .bool a1] rfl (by (try simp only [List.map_toArray, List.map_cons, List.map_nil]); first | done | rfl | (simp only [List.length_drop, List.length_take]; rfl)) ?_; (with_reducible refine (emulatorref01_sign.calls a0 a1 t117 _ A3.out).mono ?_); rintro e w' ⟨rfl, ⟨nd, rfl⟩⟩; refine ⟨_, rfl, ?_⟩) | ((with_reducible refine gate_callee (f := 35) rfl ?_); refine goesL_ (some 12) rfl rfl Tryd.func35 (by kernel_rfl) rfl #[.bool a1] rfl (by (try simp only [List.map_toArray, List.map_cons, List.map_nil]); first | done | rfl | (simp only [List.length_drop, List.length_take]; rfl)) ?_; (with_reducible refine (emulatorref01_mask.calls a1 t118 _ A4.out).mono ?_); rintro e w' ⟨rfl, ⟨nd, rfl⟩⟩; refine ⟨_, rfl, ?_⟩))
    go_ret
    exact ⟨by first | rfl | (simp; done) | (simp [*]; done), by repeat (first | exact Drawn0.refl _ | apply Drawn0.step)⟩

end Go.Proofs.YtiodpkkigjfkgaaDoor.A
