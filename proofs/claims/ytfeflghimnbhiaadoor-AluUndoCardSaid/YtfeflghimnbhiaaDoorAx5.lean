-- Written by a program of this session (mp.py) over the kit's print.py, with proofs by hand for what the print does not take.
import Derived.Test.YtfeflghimnbhiaaDoorAx0
import Derived.Test.YtfeflghimnbhiaaDoorAx4
namespace Go.Proofs.YtfeflghimnbhiaaDoor.A
open Go.RowKit Go.Proofs.YtfeflghimnbhiaaDoorW.PrintWords Go.Proofs.YtfeflghimnbhiaaDoorW.PrintLast Go.Proofs.YtfeflghimnbhiaaDoorW.PrintMore
attribute [local go_sem] max2_int min2_int max_two min_two max_three min_three max_four min_four   -- for this text's walks alone
set_option linter.unusedVariables false
set_option linter.unusedSimpArgs false

/-! ### emulatorref01_Flags: function 25 -/
def emulatorref01_Flags.f (a0 : Int) (a1 : Bool) : Option (Int) := (emulatorref01_sign.f a0 a1).bind fun t145 => ((emulatorref01_mask.f a1).bind fun t146 => (if (Go.bits .and .i64 a0 t146) = 0 then (some (wrap64 ((wrap64 (8 * t145)) + 4))) else (some (wrap64 (8 * t145)))))
set_option maxHeartbeats 8000000 in
set_option maxRecDepth 100000 in
theorem emulatorref01_Flags.calls (a0 : Int) (a1 : Bool) (r : Int) (w : World) (h : emulatorref01_Flags.f a0 a1 = some r) :
    Calls Tryd.prog 25 #[.int .i64 a0, .bool a1] w fun e w' => e = .returned (.int .i64 r) ∧ Drawn0 w w' := by
  have H : ((emulatorref01_sign.f a0 a1).bind fun t145 => ((emulatorref01_mask.f a1).bind fun t146 => (if (Go.bits .and .i64 a0 t146) = 0 then (some (wrap64 ((wrap64 (8 * t145)) + 4))) else (some (wrap64 (8 * t145)))))) = some r := h
  clear h
  replace H := Option.bind_eq_some_iff.mp H
  obtain ⟨t145, A30, H⟩ := H
  replace H : ((emulatorref01_mask.f a1).bind fun t146 => (if (Go.bits .and .i64 a0 t146) = 0 then (some (wrap64 ((wrap64 (8 * t145)) + 4))) else (some (wrap64 (8 * t145))))) = some r := H
  have A3 := Aside0.mk A30
  clear A30
  replace H := Option.bind_eq_some_iff.mp H
  obtain ⟨t146, A40, H⟩ := H
  replace H : (if (Go.bits .and .i64 a0 t146) = 0 then (some (wrap64 ((wrap64 (8 * t145)) + 4))) else (some (wrap64 (8 * t145)))) = some r := H
  have A4 := Aside0.mk A40
  clear A40
  by_cases c5 : (Go.bits .and .i64 a0 t146) = 0
  · rw [if_pos c5] at H
    have c5b0 : ((Go.bits .and .i64 a0 t146) == 0) = true := beq_iff_eq.mpr c5
    have c5b1 : ((Go.bits .and .i64 a0 t146) != 0) = false := bne_eq_false_iff_eq.mpr c5
    clear c5
    obtain rfl := Option.some.inj H
    go_enter Tryd.func25, Tryd.ntmps25
    go_wp2_with (first | ((with_reducible refine gate_callee (f := 44) rfl ?_); refine goesL_ (some 8) rfl rfl Tryd.func44 (by kernel_rfl) rfl #[.int .i64 a0, .bool a1] rfl (by (try simp only [List.map_toArray, List.map_cons, List.map_nil]); first | done | rfl | (simp only [List.length_drop, List.length_take]; rfl)) ?_; (with_reducible refine (emulatorref01_sign.calls a0 a1 t145 _ A3.out).mono ?_); rintro e w' ⟨rfl, ⟨nd, rfl⟩⟩; refine ⟨_, rfl, ?_⟩) | ((with_reducible refine gate_callee (f := 43) rfl ?_); refine goesL_ (some 12) rfl rfl Tryd.func43 (by kernel_rfl) rfl #[.bool a1] rfl (by (try simp only [List.map_toArray, List.map_cons, List.map_nil]); first | done | rfl | (simp only [List.length_drop, List.length_take]; rfl)) ?_; (with_reducible refine (emulatorref01_mask.calls a1 t146 _ A4.out).mono ?_); rintro e w' ⟨rfl, ⟨nd, rfl⟩⟩; refine ⟨_, rfl, ?_⟩))
    go_ret
    exact ⟨by first | rfl | (simp; done) | (simp [*]; done), by repeat (first | exact Drawn0.refl _ | apply Drawn0.step)⟩
  · rw [if_neg c5] at H
    have c5b0 : ((Go.bits .and .i64 a0 t146) == 0) = false := beq_eq_false_iff_ne.mpr c5
    have c5b1 : ((Go.bits .and .i64 a0 t146) != 0) = true := bne_iff_ne.mpr c5
    obtain rfl := Option.some.inj H
    go_enter Tryd.func25, Tryd.ntmps25
    go_wp2_with (first | ((with_reducible refine gate_callee (f := 44) rfl ?_); refine goesL_ (some 8) rfl rfl Tryd.func44 (by kernel_rfl) rfl #[.int .i64 a0, .bool a1] rfl (by (try simp only [List.map_toArray, List.map_cons, List.map_nil]); first | done | rfl | (simp only [List.length_drop, List.length_take]; rfl)) ?_; (with_reducible refine (emulatorref01_sign.calls a0 a1 t145 _ A3.out).mono ?_); rintro e w' ⟨rfl, ⟨nd, rfl⟩⟩; refine ⟨_, rfl, ?_⟩) | ((with_reducible refine gate_callee (f := 43) rfl ?_); refine goesL_ (some 12) rfl rfl Tryd.func43 (by kernel_rfl) rfl #[.bool a1] rfl (by (try simp only [List.map_toArray, List.map_cons, List.map_nil]); first | done | rfl | (simp only [List.length_drop, List.length_take]; rfl)) ?_; (with_reducible refine (emulatorref01_mask.calls a1 t146 _ A4.out).mono ?_); rintro e w' ⟨rfl, ⟨nd, rfl⟩⟩; refine ⟨_, rfl, ?_⟩))
    go_ret
    exact ⟨by first | rfl | (simp; done) | (simp [*]; done), by repeat (first | exact Drawn0.refl _ | apply Drawn0.step)⟩

/-! ### emulatorref01_Sub: function 23 -/
def emulatorref01_Sub.j0 : Nat → Int → Int → Bool → Int → Int → Option (Int × Int)
  | 0, _, _, _, _, _ => none
  | k + 1, x0, x1, x3, x12, x13 => (emulatorref01_sign.f x0 x3).bind fun t149 => ((emulatorref01_sign.f x1 x3).bind fun t150 => (if t149 = t150 then (some (x12, x13)) else ((emulatorref01_sign.f x12 x3).bind fun t151 => ((emulatorref01_sign.f x1 x3).bind fun t152 => (if t151 = t152 then (some (x12, wrap64 (x13 + 2))) else (some (x12, x13)))))))
def emulatorref01_Sub.f (k : Nat) (a0 : Int) (a1 : Int) (a2 : Int) (a3 : Bool) : Option (Int × Int) := (emulatorref01_mask.f a3).bind fun t147 => ((emulatorref01_Flags.f (Go.bits .and .i64 (wrap64 ((wrap64 ((Go.bits .and .i64 a0 t147) - (Go.bits .and .i64 a1 t147))) - (Go.bits .and .i64 a2 1))) t147) a3).bind fun t148 => (if (wrap64 ((wrap64 ((Go.bits .and .i64 a0 t147) - (Go.bits .and .i64 a1 t147))) - (Go.bits .and .i64 a2 1))) < 0 then (emulatorref01_Sub.j0 k a0 a1 a3 (Go.bits .and .i64 (wrap64 ((wrap64 ((Go.bits .and .i64 a0 t147) - (Go.bits .and .i64 a1 t147))) - (Go.bits .and .i64 a2 1))) t147) (wrap64 (t148 + 1))) else (emulatorref01_Sub.j0 k a0 a1 a3 (Go.bits .and .i64 (wrap64 ((wrap64 ((Go.bits .and .i64 a0 t147) - (Go.bits .and .i64 a1 t147))) - (Go.bits .and .i64 a2 1))) t147) t148)))
theorem emulatorref01_Sub.mono_l : ∀ k, (∀ y0 y1 y2 y3 y4, LeO (emulatorref01_Sub.j0 k y0 y1 y2 y3 y4) (emulatorref01_Sub.j0 (k + 1) y0 y1 y2 y3 y4))
  | 0 => fun _ _ _ _ _ r h => by simp [emulatorref01_Sub.j0] at h
  | k + 1 => by
    have ih0 := emulatorref01_Sub.mono_l k
    · intro y0 y1 y2 y3 y4
      unfold emulatorref01_Sub.j0
      repeat' first
      | (with_reducible exact ih0 _ _ _ _ _)
      | (with_reducible exact LeO.refl _)
      | (with_reducible exact LeO.none _)
      | (with_reducible refine LeO.ite ?_ ?_)
      | (with_reducible refine LeO.bind ?_ (fun _ => ?_))
      | exact ih0 _ _ _ _ _
      | exact LeO.none _
      | refine LeO.ite ?_ ?_
      | refine LeO.bind ?_ (fun _ => ?_)
theorem emulatorref01_Sub.mono : ∀ a0 a1 a2 a3 k, LeO (emulatorref01_Sub.f k a0 a1 a2 a3) (emulatorref01_Sub.f (k + 1) a0 a1 a2 a3) := by
  intro a0 a1 a2 a3 k
  have ih0 := emulatorref01_Sub.mono_l k
  unfold emulatorref01_Sub.f
  repeat' first
      | (with_reducible exact ih0 _ _ _ _ _)
      | (with_reducible exact LeO.refl _)
      | (with_reducible exact LeO.none _)
      | (with_reducible refine LeO.ite ?_ ?_)
      | (with_reducible refine LeO.bind ?_ (fun _ => ?_))
      | exact ih0 _ _ _ _ _
      | exact LeO.none _
      | refine LeO.ite ?_ ?_
      | refine LeO.bind ?_ (fun _ => ?_)
set_option maxHeartbeats 8000000 in
set_option maxRecDepth 100000 in
theorem emulatorref01_Sub.calls (k : Nat) (a0 : Int) (a1 : Int) (a2 : Int) (a3 : Bool) (r1 : Int) (r2 : Int) (w : World) (h : emulatorref01_Sub.f k a0 a1 a2 a3 = some (r1, r2)) :
    Calls Tryd.prog 23 #[.int .i64 a0, .int .i64 a1, .int .i64 a2, .bool a3] w fun e w' => e = .returned (.tuple #[.int .i64 r1, .int .i64 r2]) ∧ Drawn0 w w' := by
  have H : ((emulatorref01_mask.f a3).bind fun t147 => ((emulatorref01_Flags.f (Go.bits .and .i64 (wrap64 ((wrap64 ((Go.bits .and .i64 a0 t147) - (Go.bits .and .i64 a1 t147))) - (Go.bits .and .i64 a2 1))) t147) a3).bind fun t148 => (if (wrap64 ((wrap64 ((Go.bits .and .i64 a0 t147) - (Go.bits .and .i64 a1 t147))) - (Go.bits .and .i64 a2 1))) < 0 then (emulatorref01_Sub.j0 k a0 a1 a3 (Go.bits .and .i64 (wrap64 ((wrap64 ((Go.bits .and .i64 a0 t147) - (Go.bits .and .i64 a1 t147))) - (Go.bits .and .i64 a2 1))) t147) (wrap64 (t148 + 1))) else (emulatorref01_Sub.j0 k a0 a1 a3 (Go.bits .and .i64 (wrap64 ((wrap64 ((Go.bits .and .i64 a0 t147) - (Go.bits .and .i64 a1 t147))) - (Go.bits .and .i64 a2 1))) t147) t148)))) = some (r1, r2) := h
  clear h
  replace H := Option.bind_eq_some_iff.mp H
  obtain ⟨t147, A50, H⟩ := H
  replace H : ((emulatorref01_Flags.f (Go.bits .and .i64 (wrap64 ((wrap64 ((Go.bits .and .i64 a0 t147) - (Go.bits .and .i64 a1 t147))) - (Go.bits .and .i64 a2 1))) t147) a3).bind fun t148 => (if (wrap64 ((wrap64 ((Go.bits .and .i64 a0 t147) - (Go.bits .and .i64 a1 t147))) - (Go.bits .and .i64 a2 1))) < 0 then (emulatorref01_Sub.j0 k a0 a1 a3 (Go.bits .and .i64 (wrap64 ((wrap64 ((Go.bits .and .i64 a0 t147) - (Go.bits .and .i64 a1 t147))) - (Go.bits .and .i64 a2 1))) t147) (wrap64 (t148 + 1))) else (emulatorref01_Sub.j0 k a0 a1 a3 (Go.bits .and .i64 (wrap64 ((wrap64 ((Go.bits .and .i64 a0 t147) - (Go.bits .and .i64 a1 t147))) - (Go.bits .and .i64 a2 1))) t147) t148))) = some (r1, r2) := H
  have A5 := Aside0.mk A50
  clear A50
  replace H := Option.bind_eq_some_iff.mp H
  obtain ⟨t148, A60, H⟩ := H
  replace H : (if (wrap64 ((wrap64 ((Go.bits .and .i64 a0 t147) - (Go.bits .and .i64 a1 t147))) - (Go.bits .and .i64 a2 1))) < 0 then (emulatorref01_Sub.j0 k a0 a1 a3 (Go.bits .and .i64 (wrap64 ((wrap64 ((Go.bits .and .i64 a0 t147) - (Go.bits .and .i64 a1 t147))) - (Go.bits .and .i64 a2 1))) t147) (wrap64 (t148 + 1))) else (emulatorref01_Sub.j0 k a0 a1 a3 (Go.bits .and .i64 (wrap64 ((wrap64 ((Go.bits .and .i64 a0 t147) - (Go.bits .and .i64 a1 t147))) - (Go.bits .and .i64 a2 1))) t147) t148)) = some (r1, r2) := H
  have A6 := Aside0.mk A60
  clear A60
  have HC7 := Aside0.mk H
  clear H
  go_enter Tryd.func23, Tryd.ntmps23
  go_upto_if 33 with (first | ((with_reducible refine gate_callee (f := 43) rfl ?_); refine goesL_ (some 15) rfl rfl Tryd.func43 (by kernel_rfl) rfl #[.bool a3] rfl (by (try simp only [List.map_toArray, List.map_cons, List.map_nil]); first | done | rfl | (simp only [List.length_drop, List.length_take]; rfl)) ?_; (with_reducible refine (emulatorref01_mask.calls a3 t147 _ A5.out).mono ?_); rintro e w' ⟨rfl, ⟨nd, rfl⟩⟩; refine ⟨_, rfl, ?_⟩) | ((with_reducible refine gate_callee (f := 25) rfl ?_); refine goesL_ (some 31) rfl rfl Tryd.func25 (by kernel_rfl) rfl #[.int .i64 (Go.bits .and .i64 (wrap64 ((wrap64 ((Go.bits .and .i64 a0 t147) - (Go.bits .and .i64 a1 t147))) - (Go.bits .and .i64 a2 1))) t147), .bool a3] rfl (by (try simp only [List.map_toArray, List.map_cons, List.map_nil]); first | done | rfl | (simp only [List.length_drop, List.length_take]; rfl)) ?_; (with_reducible refine (emulatorref01_Flags.calls (Go.bits .and .i64 (wrap64 ((wrap64 ((Go.bits .and .i64 a0 t147) - (Go.bits .and .i64 a1 t147))) - (Go.bits .and .i64 a2 1))) t147) a3 t148 _ A6.out).mono ?_); rintro e w' ⟨rfl, ⟨nd, rfl⟩⟩; refine ⟨_, rfl, ?_⟩))
  (try simp only [Act.put, List.setIfInBounds_toArray, List.set_cons_zero, List.set_cons_succ])
  go_cut [13] (fun v13 wc => ∃ (kq : Nat) (x13_6 : Int), v13 = .int .i64 x13_6 ∧ Aside0 (emulatorref01_Sub.j0 kq a0 a1 a3 (Go.bits .and .i64 (wrap64 ((wrap64 ((Go.bits .and .i64 a0 t147) - (Go.bits .and .i64 a1 t147))) - (Go.bits .and .i64 a2 1))) t147) x13_6 = some (r1, r2)) ∧ Aside0 (kq ≤ k) ∧ Drawn0 w wc)
  case first =>
    have H := HC7.out
    clear HC7
    by_cases c8 : (wrap64 ((wrap64 ((Go.bits .and .i64 a0 t147) - (Go.bits .and .i64 a1 t147))) - (Go.bits .and .i64 a2 1))) < 0
    · rw [if_pos c8] at H
      have c8b0 : decide ((wrap64 ((wrap64 ((Go.bits .and .i64 a0 t147) - (Go.bits .and .i64 a1 t147))) - (Go.bits .and .i64 a2 1))) < 0) = true := decide_eq_true c8
      clear c8
      (first | rw [c8b0] | (simp only [i64_w, i32_w]; rw [c8b0]) | skip)
      have H' := Aside0.mk H
      clear H
      go_wp2
      go_meet
      case rel => exact ⟨_, (wrap64 (t148 + 1)), (by first | rfl | (simp; done) | (simp [*]; done)), H', ⟨by first | omega | exact Nat.le_refl _⟩, by repeat (first | exact Drawn0.refl _ | apply Drawn0.step)⟩
    · rw [if_neg c8] at H
      have c8b0 : decide ((wrap64 ((wrap64 ((Go.bits .and .i64 a0 t147) - (Go.bits .and .i64 a1 t147))) - (Go.bits .and .i64 a2 1))) < 0) = false := decide_eq_false c8
      clear c8
      (first | rw [c8b0] | (simp only [i64_w, i32_w]; rw [c8b0]) | skip)
      have H' := Aside0.mk H
      clear H
      go_wp2
      go_meet
      case rel => exact ⟨_, (t148), (by first | rfl | (simp; done) | (simp [*]; done)), H', ⟨by first | omega | exact Nat.le_refl _⟩, by repeat (first | exact Drawn0.refl _ | apply Drawn0.step)⟩
  case rest =>
    clear HC7
    try clear c2
    try clear p2
    try clear c4
    try clear p6
    try clear c8
    try clear c8b0
    obtain ⟨kq, x13_6, rfl, HA, HJ6, ⟨mc6, rfl⟩⟩ := hcut
    cases kq with
    | zero => exact absurd HA.out (by simp [emulatorref01_Sub.j0])
    | succ kj6 =>
      have H := HA.out
      clear HA
      simp only [emulatorref01_Sub.j0] at H
      replace H := Option.bind_eq_some_iff.mp H
      obtain ⟨t149, A90, H⟩ := H
      replace H : ((emulatorref01_sign.f a1 a3).bind fun t150 => (if t149 = t150 then (some ((Go.bits .and .i64 (wrap64 ((wrap64 ((Go.bits .and .i64 a0 t147) - (Go.bits .and .i64 a1 t147))) - (Go.bits .and .i64 a2 1))) t147), x13_6)) else ((emulatorref01_sign.f (Go.bits .and .i64 (wrap64 ((wrap64 ((Go.bits .and .i64 a0 t147) - (Go.bits .and .i64 a1 t147))) - (Go.bits .and .i64 a2 1))) t147) a3).bind fun t151 => ((emulatorref01_sign.f a1 a3).bind fun t152 => (if t151 = t152 then (some ((Go.bits .and .i64 (wrap64 ((wrap64 ((Go.bits .and .i64 a0 t147) - (Go.bits .and .i64 a1 t147))) - (Go.bits .and .i64 a2 1))) t147), wrap64 (x13_6 + 2))) else (some ((Go.bits .and .i64 (wrap64 ((wrap64 ((Go.bits .and .i64 a0 t147) - (Go.bits .and .i64 a1 t147))) - (Go.bits .and .i64 a2 1))) t147), x13_6))))))) = some (r1, r2) := H
      have A9 := Aside0.mk A90
      clear A90
      replace H := Option.bind_eq_some_iff.mp H
      obtain ⟨t150, A100, H⟩ := H
      replace H : (if t149 = t150 then (some ((Go.bits .and .i64 (wrap64 ((wrap64 ((Go.bits .and .i64 a0 t147) - (Go.bits .and .i64 a1 t147))) - (Go.bits .and .i64 a2 1))) t147), x13_6)) else ((emulatorref01_sign.f (Go.bits .and .i64 (wrap64 ((wrap64 ((Go.bits .and .i64 a0 t147) - (Go.bits .and .i64 a1 t147))) - (Go.bits .and .i64 a2 1))) t147) a3).bind fun t151 => ((emulatorref01_sign.f a1 a3).bind fun t152 => (if t151 = t152 then (some ((Go.bits .and .i64 (wrap64 ((wrap64 ((Go.bits .and .i64 a0 t147) - (Go.bits .and .i64 a1 t147))) - (Go.bits .and .i64 a2 1))) t147), wrap64 (x13_6 + 2))) else (some ((Go.bits .and .i64 (wrap64 ((wrap64 ((Go.bits .and .i64 a0 t147) - (Go.bits .and .i64 a1 t147))) - (Go.bits .and .i64 a2 1))) t147), x13_6)))))) = some (r1, r2) := H
      have A10 := Aside0.mk A100
      clear A100
      by_cases c11 : t149 = t150
      · rw [if_pos c11] at H
        have c11b0 : (t149 == t150) = true := beq_iff_eq.mpr c11
        have c11b1 : (t149 != t150) = false := bne_eq_false_iff_eq.mpr c11
        clear c11
        simp only [Option.some.injEq, Prod.mk.injEq] at H
        obtain ⟨rfl, rfl⟩ := H
        go_wp2_with (first | ((with_reducible refine gate_callee (f := 44) rfl ?_); refine goesL_ (some 38) rfl rfl Tryd.func44 (by kernel_rfl) rfl #[.int .i64 a0, .bool a3] rfl (by (try simp only [List.map_toArray, List.map_cons, List.map_nil]); first | done | rfl | (simp only [List.length_drop, List.length_take]; rfl)) ?_; (with_reducible refine (emulatorref01_sign.calls a0 a3 t149 _ A9.out).mono ?_); rintro e w' ⟨rfl, ⟨nd, rfl⟩⟩; refine ⟨_, rfl, ?_⟩) | ((with_reducible refine gate_callee (f := 44) rfl ?_); refine goesL_ (some 41) rfl rfl Tryd.func44 (by kernel_rfl) rfl #[.int .i64 a1, .bool a3] rfl (by (try simp only [List.map_toArray, List.map_cons, List.map_nil]); first | done | rfl | (simp only [List.length_drop, List.length_take]; rfl)) ?_; (with_reducible refine (emulatorref01_sign.calls a1 a3 t150 _ A10.out).mono ?_); rintro e w' ⟨rfl, ⟨nd, rfl⟩⟩; refine ⟨_, rfl, ?_⟩))
        go_ret2
        exact ⟨by first | rfl | (simp; done) | (simp [*]; done), by repeat (first | exact Drawn0.refl _ | apply Drawn0.step)⟩
      · rw [if_neg c11] at H
        have c11b0 : (t149 == t150) = false := beq_eq_false_iff_ne.mpr c11
        have c11b1 : (t149 != t150) = true := bne_iff_ne.mpr c11
        replace H := Option.bind_eq_some_iff.mp H
        obtain ⟨t151, A120, H⟩ := H
        replace H : ((emulatorref01_sign.f a1 a3).bind fun t152 => (if t151 = t152 then (some ((Go.bits .and .i64 (wrap64 ((wrap64 ((Go.bits .and .i64 a0 t147) - (Go.bits .and .i64 a1 t147))) - (Go.bits .and .i64 a2 1))) t147), wrap64 (x13_6 + 2))) else (some ((Go.bits .and .i64 (wrap64 ((wrap64 ((Go.bits .and .i64 a0 t147) - (Go.bits .and .i64 a1 t147))) - (Go.bits .and .i64 a2 1))) t147), x13_6)))) = some (r1, r2) := H
        have A12 := Aside0.mk A120
        clear A120
        replace H := Option.bind_eq_some_iff.mp H
        obtain ⟨t152, A130, H⟩ := H
        replace H : (if t151 = t152 then (some ((Go.bits .and .i64 (wrap64 ((wrap64 ((Go.bits .and .i64 a0 t147) - (Go.bits .and .i64 a1 t147))) - (Go.bits .and .i64 a2 1))) t147), wrap64 (x13_6 + 2))) else (some ((Go.bits .and .i64 (wrap64 ((wrap64 ((Go.bits .and .i64 a0 t147) - (Go.bits .and .i64 a1 t147))) - (Go.bits .and .i64 a2 1))) t147), x13_6))) = some (r1, r2) := H
        have A13 := Aside0.mk A130
        clear A130
        by_cases c14 : t151 = t152
        · rw [if_pos c14] at H
          have c14b0 : (t151 == t152) = true := beq_iff_eq.mpr c14
          have c14b1 : (t151 != t152) = false := bne_eq_false_iff_eq.mpr c14
          clear c14
          simp only [Option.some.injEq, Prod.mk.injEq] at H
          obtain ⟨rfl, rfl⟩ := H
          go_wp2_with (first | ((with_reducible refine gate_callee (f := 44) rfl ?_); refine goesL_ (some 38) rfl rfl Tryd.func44 (by kernel_rfl) rfl #[.int .i64 a0, .bool a3] rfl (by (try simp only [List.map_toArray, List.map_cons, List.map_nil]); first | done | rfl | (simp only [List.length_drop, List.length_take]; rfl)) ?_; (with_reducible refine (emulatorref01_sign.calls a0 a3 t149 _ A9.out).mono ?_); rintro e w' ⟨rfl, ⟨nd, rfl⟩⟩; refine ⟨_, rfl, ?_⟩) | ((with_reducible refine gate_callee (f := 44) rfl ?_); refine goesL_ (some 41) rfl rfl Tryd.func44 (by kernel_rfl) rfl #[.int .i64 a1, .bool a3] rfl (by (try simp only [List.map_toArray, List.map_cons, List.map_nil]); first | done | rfl | (simp only [List.length_drop, List.length_take]; rfl)) ?_; (with_reducible refine (emulatorref01_sign.calls a1 a3 t150 _ A10.out).mono ?_); rintro e w' ⟨rfl, ⟨nd, rfl⟩⟩; refine ⟨_, rfl, ?_⟩) | (go_at_call 44; (with_reducible refine (emulatorref01_sign.calls (Go.bits .and .i64 (wrap64 ((wrap64 ((Go.bits .and .i64 a0 t147) - (Go.bits .and .i64 a1 t147))) - (Go.bits .and .i64 a2 1))) t147) a3 t151 _ A12.out).mono ?_); rintro e w' ⟨rfl, ⟨nd, rfl⟩⟩) | (go_at_call 44; (with_reducible refine (emulatorref01_sign.calls a1 a3 t152 _ A13.out).mono ?_); rintro e w' ⟨rfl, ⟨nd, rfl⟩⟩))
          go_ret2
          exact ⟨by first | rfl | (simp; done) | (simp [*]; done), by repeat (first | exact Drawn0.refl _ | apply Drawn0.step)⟩
        · rw [if_neg c14] at H
          have c14b0 : (t151 == t152) = false := beq_eq_false_iff_ne.mpr c14
          have c14b1 : (t151 != t152) = true := bne_iff_ne.mpr c14
          simp only [Option.some.injEq, Prod.mk.injEq] at H
          obtain ⟨rfl, rfl⟩ := H
          go_wp2_with (first | ((with_reducible refine gate_callee (f := 44) rfl ?_); refine goesL_ (some 38) rfl rfl Tryd.func44 (by kernel_rfl) rfl #[.int .i64 a0, .bool a3] rfl (by (try simp only [List.map_toArray, List.map_cons, List.map_nil]); first | done | rfl | (simp only [List.length_drop, List.length_take]; rfl)) ?_; (with_reducible refine (emulatorref01_sign.calls a0 a3 t149 _ A9.out).mono ?_); rintro e w' ⟨rfl, ⟨nd, rfl⟩⟩; refine ⟨_, rfl, ?_⟩) | ((with_reducible refine gate_callee (f := 44) rfl ?_); refine goesL_ (some 41) rfl rfl Tryd.func44 (by kernel_rfl) rfl #[.int .i64 a1, .bool a3] rfl (by (try simp only [List.map_toArray, List.map_cons, List.map_nil]); first | done | rfl | (simp only [List.length_drop, List.length_take]; rfl)) ?_; (with_reducible refine (emulatorref01_sign.calls a1 a3 t150 _ A10.out).mono ?_); rintro e w' ⟨rfl, ⟨nd, rfl⟩⟩; refine ⟨_, rfl, ?_⟩) | (go_at_call 44; (with_reducible refine (emulatorref01_sign.calls (Go.bits .and .i64 (wrap64 ((wrap64 ((Go.bits .and .i64 a0 t147) - (Go.bits .and .i64 a1 t147))) - (Go.bits .and .i64 a2 1))) t147) a3 t151 _ A12.out).mono ?_); rintro e w' ⟨rfl, ⟨nd, rfl⟩⟩) | (go_at_call 44; (with_reducible refine (emulatorref01_sign.calls a1 a3 t152 _ A13.out).mono ?_); rintro e w' ⟨rfl, ⟨nd, rfl⟩⟩))
          go_ret2
          exact ⟨by first | rfl | (simp; done) | (simp [*]; done), by repeat (first | exact Drawn0.refl _ | apply Drawn0.step)⟩

end Go.Proofs.YtfeflghimnbhiaaDoor.A
