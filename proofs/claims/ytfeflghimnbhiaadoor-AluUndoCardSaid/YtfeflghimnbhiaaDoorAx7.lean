-- Written by a program of this session (mp.py) over the kit's print.py, with proofs by hand for what the print does not take.
import Derived.Test.YtfeflghimnbhiaaDoorAx0
import Derived.Test.YtfeflghimnbhiaaDoorAx4
import Derived.Test.YtfeflghimnbhiaaDoorAx5
import Derived.Test.YtfeflghimnbhiaaDoorAx6
namespace Go.Proofs.YtfeflghimnbhiaaDoor.A
open Go.RowKit Go.Proofs.YtfeflghimnbhiaaDoorW.PrintWords Go.Proofs.YtfeflghimnbhiaaDoorW.PrintLast Go.Proofs.YtfeflghimnbhiaaDoorW.PrintMore
attribute [local go_sem] max2_int min2_int max_two min_two max_three min_three max_four min_four   -- for this text's walks alone
set_option linter.unusedVariables false
set_option linter.unusedSimpArgs false

/-! ### emulatorref10_Double: function 11 -/
def emulatorref10_Double.j0 : Nat → Int → Bool → Int → Int → Int → Bool → Option (Int × Int × Bool)
  | 0, _, _, _, _, _, _ => none
  | k + 1, x0, x1, x2, x3, x4, x29 => if x29 = true then (some (0, 0, false)) else ((emulatorref10_size.f x2 x1).bind fun t159 => ((emulatorref10_size.f x3 x1).bind fun t160 => (if x0 = 2 then ((emulatorref01_Sub.f k t159 t160 0 x1).bind fun bt161 => (some (bt161.1, bt161.2, false))) else (if x0 = 6 then ((emulatorref01_Add.f k t160 t159 0 false).bind fun bt163 => (some (bt163.1, bt163.2, true))) else (if x0 = 7 then ((emulatorref01_Sub.f k t160 t159 0 false).bind fun bt165 => (some (bt165.1, bt165.2, true))) else (if x0 = 1 then ((emulatorref01_Flags.f t159 x1).bind fun t167 => (some (t159, wrap64 (t167 + (Go.bits .and .i64 x4 1)), (x0 != 3)))) else (if x0 = 3 then ((emulatorref01_Flags.f (Go.bits .and .i64 t159 t160) x1).bind fun t168 => (some (Go.bits .and .i64 t159 t160, wrap64 (t168 + (Go.bits .and .i64 x4 1)), (x0 != 3)))) else (if x0 = 4 then ((emulatorref01_Flags.f (Go.bits .andNot .i64 t160 t159) x1).bind fun t169 => (some (Go.bits .andNot .i64 t160 t159, wrap64 (t169 + (Go.bits .and .i64 x4 1)), (x0 != 3)))) else (if x0 = 5 then ((emulatorref01_Flags.f (Go.bits .or .i64 t159 t160) x1).bind fun t170 => (some (Go.bits .or .i64 t159 t160, wrap64 (t170 + (Go.bits .and .i64 x4 1)), (x0 != 3)))) else (if x0 = 11 then ((emulatorref01_Flags.f (Go.bits .xor .i64 t159 t160) x1).bind fun t171 => (some (Go.bits .xor .i64 t159 t160, wrap64 (t171 + (Go.bits .and .i64 x4 1)), (x0 != 3)))) else (some (0, 0, false))))))))))))
def emulatorref10_Double.f (k : Nat) (a0 : Int) (a1 : Bool) (a2 : Int) (a3 : Int) (a4 : Int) : Option (Int × Int × Bool) := if a1 = true then (if a0 = 6 then (emulatorref10_Double.j0 k a0 a1 a2 a3 a4 true) else (if a0 = 7 then (emulatorref10_Double.j0 k a0 a1 a2 a3 a4 true) else (emulatorref10_Double.j0 k a0 a1 a2 a3 a4 (a0 == 11)))) else (emulatorref10_Double.j0 k a0 a1 a2 a3 a4 false)
theorem emulatorref10_Double.mono_l : ∀ k, (∀ y0 y1 y2 y3 y4 y5, LeO (emulatorref10_Double.j0 k y0 y1 y2 y3 y4 y5) (emulatorref10_Double.j0 (k + 1) y0 y1 y2 y3 y4 y5))
  | 0 => fun _ _ _ _ _ _ r h => by simp [emulatorref10_Double.j0] at h
  | k + 1 => by
    have ih0 := emulatorref10_Double.mono_l k
    · intro y0 y1 y2 y3 y4 y5
      unfold emulatorref10_Double.j0
      repeat' first
      | (with_reducible exact ih0 _ _ _ _ _ _)
      | (with_reducible exact emulatorref01_Add.mono _ _ _ _ _)
      | (with_reducible exact emulatorref01_Sub.mono _ _ _ _ _)
      | (with_reducible exact LeO.refl _)
      | (with_reducible exact LeO.none _)
      | (with_reducible refine LeO.ite ?_ ?_)
      | (with_reducible refine LeO.bind ?_ (fun _ => ?_))
      | exact ih0 _ _ _ _ _ _
      | exact emulatorref01_Add.mono _ _ _ _ _
      | exact emulatorref01_Sub.mono _ _ _ _ _
      | exact LeO.none _
      | refine LeO.ite ?_ ?_
      | refine LeO.bind ?_ (fun _ => ?_)
theorem emulatorref10_Double.mono : ∀ a0 a1 a2 a3 a4 k, LeO (emulatorref10_Double.f k a0 a1 a2 a3 a4) (emulatorref10_Double.f (k + 1) a0 a1 a2 a3 a4) := by
  intro a0 a1 a2 a3 a4 k
  have ih0 := emulatorref10_Double.mono_l k
  unfold emulatorref10_Double.f
  repeat' first
      | (with_reducible exact ih0 _ _ _ _ _ _)
      | (with_reducible exact emulatorref01_Add.mono _ _ _ _ _)
      | (with_reducible exact emulatorref01_Sub.mono _ _ _ _ _)
      | (with_reducible exact LeO.refl _)
      | (with_reducible exact LeO.none _)
      | (with_reducible refine LeO.ite ?_ ?_)
      | (with_reducible refine LeO.bind ?_ (fun _ => ?_))
      | exact ih0 _ _ _ _ _ _
      | exact emulatorref01_Add.mono _ _ _ _ _
      | exact emulatorref01_Sub.mono _ _ _ _ _
      | exact LeO.none _
      | refine LeO.ite ?_ ?_
      | refine LeO.bind ?_ (fun _ => ?_)
set_option maxHeartbeats 8000000 in
set_option maxRecDepth 100000 in
theorem emulatorref10_Double.calls (k : Nat) (a0 : Int) (a1 : Bool) (a2 : Int) (a3 : Int) (a4 : Int) (r1 : Int) (r2 : Int) (r3 : Bool) (w : World) (h : emulatorref10_Double.f k a0 a1 a2 a3 a4 = some (r1, r2, r3)) :
    Calls Tryd.prog 11 #[.int .i64 a0, .bool a1, .int .i64 a2, .int .i64 a3, .int .i64 a4] w fun e w' => e = .returned (.tuple #[.int .i64 r1, .int .i64 r2, .bool r3]) ∧ Drawn0 w w' := by
  have H : (if a1 = true then (if a0 = 6 then (emulatorref10_Double.j0 k a0 a1 a2 a3 a4 true) else (if a0 = 7 then (emulatorref10_Double.j0 k a0 a1 a2 a3 a4 true) else (emulatorref10_Double.j0 k a0 a1 a2 a3 a4 (a0 == 11)))) else (emulatorref10_Double.j0 k a0 a1 a2 a3 a4 false)) = some (r1, r2, r3) := h
  clear h
  have HC6 := Aside0.mk H
  clear H
  go_enter Tryd.func11, Tryd.ntmps11
  go_upto_region 1 with (fail)
  go_cut [29] (fun v29 wc => ∃ (kq : Nat) (x29_5 : Bool), v29 = .bool x29_5 ∧ Aside0 (emulatorref10_Double.j0 kq a0 a1 a2 a3 a4 x29_5 = some (r1, r2, r3)) ∧ Aside0 (kq ≤ k) ∧ Drawn0 w wc)
  case first =>
    have H := HC6.out
    clear HC6
    by_cases c7 : a1 = true
    · subst c7
      have H1 : (if a0 = 6 then (emulatorref10_Double.j0 k a0 true a2 a3 a4 true) else (if a0 = 7 then (emulatorref10_Double.j0 k a0 true a2 a3 a4 true) else (emulatorref10_Double.j0 k a0 true a2 a3 a4 (a0 == 11)))) = some (r1, r2, r3) := by rw [if_pos rfl] at H; exact H
      clear H
      have H := H1
      clear H1
      by_cases c8 : a0 = 6
      · rw [if_pos c8] at H
        have c8b0 : (a0 == 6) = true := beq_iff_eq.mpr c8
        have c8b1 : (a0 != 6) = false := bne_eq_false_iff_eq.mpr c8
        clear c8
        (first | rw [c8b0] | (simp only [i64_w, i32_w]; rw [c8b0]) | skip)
        have H' := Aside0.mk H
        clear H
        go_wp2
        go_meet
        case rel => exact ⟨_, (true), (by first | rfl | (simp; done) | (simp [*]; done)), H', ⟨by first | omega | exact Nat.le_refl _⟩, by repeat (first | exact Drawn0.refl _ | apply Drawn0.step)⟩
      · rw [if_neg c8] at H
        have c8b0 : (a0 == 6) = false := beq_eq_false_iff_ne.mpr c8
        have c8b1 : (a0 != 6) = true := bne_iff_ne.mpr c8
        (first | rw [c8b0] | (simp only [i64_w, i32_w]; rw [c8b0]) | skip)
        by_cases c9 : a0 = 7
        · rw [if_pos c9] at H
          have c9b0 : (a0 == 7) = true := beq_iff_eq.mpr c9
          have c9b1 : (a0 != 7) = false := bne_eq_false_iff_eq.mpr c9
          clear c9
          have H' := Aside0.mk H
          clear H
          go_wp2
          go_meet
          case rel => exact ⟨_, (true), (by first | rfl | (simp; done) | (simp [*]; done)), H', ⟨by first | omega | exact Nat.le_refl _⟩, by repeat (first | exact Drawn0.refl _ | apply Drawn0.step)⟩
        · rw [if_neg c9] at H
          have c9b0 : (a0 == 7) = false := beq_eq_false_iff_ne.mpr c9
          have c9b1 : (a0 != 7) = true := bne_iff_ne.mpr c9
          have H' := Aside0.mk H
          clear H
          go_wp2
          go_meet
          case rel => exact ⟨_, ((a0 == 11)), (by first | rfl | (simp; done) | (simp [*]; done)), H', ⟨by first | omega | exact Nat.le_refl _⟩, by repeat (first | exact Drawn0.refl _ | apply Drawn0.step)⟩
    · replace c7 := Bool.eq_false_iff.mpr c7
      subst c7
      have H1 : (emulatorref10_Double.j0 k a0 false a2 a3 a4 false) = some (r1, r2, r3) := by rw [if_neg (show ¬ (false = true) by decide)] at H; exact H
      clear H
      have H := H1
      clear H1
      have H' := Aside0.mk H
      clear H
      go_wp2
      go_meet
      case rel => exact ⟨_, (false), (by first | rfl | (simp; done) | (simp [*]; done)), H', ⟨by first | omega | exact Nat.le_refl _⟩, by repeat (first | exact Drawn0.refl _ | apply Drawn0.step)⟩
  case rest =>
    clear HC6
    try clear c1
    try clear p2
    try clear c7
    try clear c8
    try clear c8b0
    try clear c8b1
    try clear c9
    try clear c9b0
    try clear c9b1
    obtain ⟨kq, x29_5, rfl, HA, HJ5, ⟨mc5, rfl⟩⟩ := hcut
    cases kq with
    | zero => exact absurd HA.out (by simp [emulatorref10_Double.j0])
    | succ kj5 =>
      have H := HA.out
      clear HA
      simp only [emulatorref10_Double.j0] at H
      by_cases c10 : x29_5 = true
      · subst c10
        have H1 : (some (0, 0, false)) = some (r1, r2, r3) := by rw [if_pos rfl] at H; exact H
        clear H
        have H := H1
        clear H1
        simp only [Option.some.injEq, Prod.mk.injEq] at H
        obtain ⟨rfl, rfl, rfl⟩ := H
        go_wp2
        go_ret3
        exact ⟨by first | rfl | (simp; done) | (simp [*]; done), by repeat (first | exact Drawn0.refl _ | apply Drawn0.step)⟩
      · replace c10 := Bool.eq_false_iff.mpr c10
        subst c10
        have H1 : ((emulatorref10_size.f a2 a1).bind fun t159 => ((emulatorref10_size.f a3 a1).bind fun t160 => (if a0 = 2 then ((emulatorref01_Sub.f kj5 t159 t160 0 a1).bind fun bt161 => (some (bt161.1, bt161.2, false))) else (if a0 = 6 then ((emulatorref01_Add.f kj5 t160 t159 0 false).bind fun bt163 => (some (bt163.1, bt163.2, true))) else (if a0 = 7 then ((emulatorref01_Sub.f kj5 t160 t159 0 false).bind fun bt165 => (some (bt165.1, bt165.2, true))) else (if a0 = 1 then ((emulatorref01_Flags.f t159 a1).bind fun t167 => (some (t159, wrap64 (t167 + (Go.bits .and .i64 a4 1)), (a0 != 3)))) else (if a0 = 3 then ((emulatorref01_Flags.f (Go.bits .and .i64 t159 t160) a1).bind fun t168 => (some (Go.bits .and .i64 t159 t160, wrap64 (t168 + (Go.bits .and .i64 a4 1)), (a0 != 3)))) else (if a0 = 4 then ((emulatorref01_Flags.f (Go.bits .andNot .i64 t160 t159) a1).bind fun t169 => (some (Go.bits .andNot .i64 t160 t159, wrap64 (t169 + (Go.bits .and .i64 a4 1)), (a0 != 3)))) else (if a0 = 5 then ((emulatorref01_Flags.f (Go.bits .or .i64 t159 t160) a1).bind fun t170 => (some (Go.bits .or .i64 t159 t160, wrap64 (t170 + (Go.bits .and .i64 a4 1)), (a0 != 3)))) else (if a0 = 11 then ((emulatorref01_Flags.f (Go.bits .xor .i64 t159 t160) a1).bind fun t171 => (some (Go.bits .xor .i64 t159 t160, wrap64 (t171 + (Go.bits .and .i64 a4 1)), (a0 != 3)))) else (some (0, 0, false)))))))))))) = some (r1, r2, r3) := by rw [if_neg (show ¬ (false = true) by decide)] at H; exact H
        clear H
        have H := H1
        clear H1
        replace H := Option.bind_eq_some_iff.mp H
        obtain ⟨t159, A110, H⟩ := H
        replace H : ((emulatorref10_size.f a3 a1).bind fun t160 => (if a0 = 2 then ((emulatorref01_Sub.f kj5 t159 t160 0 a1).bind fun bt161 => (some (bt161.1, bt161.2, false))) else (if a0 = 6 then ((emulatorref01_Add.f kj5 t160 t159 0 false).bind fun bt163 => (some (bt163.1, bt163.2, true))) else (if a0 = 7 then ((emulatorref01_Sub.f kj5 t160 t159 0 false).bind fun bt165 => (some (bt165.1, bt165.2, true))) else (if a0 = 1 then ((emulatorref01_Flags.f t159 a1).bind fun t167 => (some (t159, wrap64 (t167 + (Go.bits .and .i64 a4 1)), (a0 != 3)))) else (if a0 = 3 then ((emulatorref01_Flags.f (Go.bits .and .i64 t159 t160) a1).bind fun t168 => (some (Go.bits .and .i64 t159 t160, wrap64 (t168 + (Go.bits .and .i64 a4 1)), (a0 != 3)))) else (if a0 = 4 then ((emulatorref01_Flags.f (Go.bits .andNot .i64 t160 t159) a1).bind fun t169 => (some (Go.bits .andNot .i64 t160 t159, wrap64 (t169 + (Go.bits .and .i64 a4 1)), (a0 != 3)))) else (if a0 = 5 then ((emulatorref01_Flags.f (Go.bits .or .i64 t159 t160) a1).bind fun t170 => (some (Go.bits .or .i64 t159 t160, wrap64 (t170 + (Go.bits .and .i64 a4 1)), (a0 != 3)))) else (if a0 = 11 then ((emulatorref01_Flags.f (Go.bits .xor .i64 t159 t160) a1).bind fun t171 => (some (Go.bits .xor .i64 t159 t160, wrap64 (t171 + (Go.bits .and .i64 a4 1)), (a0 != 3)))) else (some (0, 0, false))))))))))) = some (r1, r2, r3) := H
        have A11 := Aside0.mk A110
        clear A110
        replace H := Option.bind_eq_some_iff.mp H
        obtain ⟨t160, A120, H⟩ := H
        replace H : (if a0 = 2 then ((emulatorref01_Sub.f kj5 t159 t160 0 a1).bind fun bt161 => (some (bt161.1, bt161.2, false))) else (if a0 = 6 then ((emulatorref01_Add.f kj5 t160 t159 0 false).bind fun bt163 => (some (bt163.1, bt163.2, true))) else (if a0 = 7 then ((emulatorref01_Sub.f kj5 t160 t159 0 false).bind fun bt165 => (some (bt165.1, bt165.2, true))) else (if a0 = 1 then ((emulatorref01_Flags.f t159 a1).bind fun t167 => (some (t159, wrap64 (t167 + (Go.bits .and .i64 a4 1)), (a0 != 3)))) else (if a0 = 3 then ((emulatorref01_Flags.f (Go.bits .and .i64 t159 t160) a1).bind fun t168 => (some (Go.bits .and .i64 t159 t160, wrap64 (t168 + (Go.bits .and .i64 a4 1)), (a0 != 3)))) else (if a0 = 4 then ((emulatorref01_Flags.f (Go.bits .andNot .i64 t160 t159) a1).bind fun t169 => (some (Go.bits .andNot .i64 t160 t159, wrap64 (t169 + (Go.bits .and .i64 a4 1)), (a0 != 3)))) else (if a0 = 5 then ((emulatorref01_Flags.f (Go.bits .or .i64 t159 t160) a1).bind fun t170 => (some (Go.bits .or .i64 t159 t160, wrap64 (t170 + (Go.bits .and .i64 a4 1)), (a0 != 3)))) else (if a0 = 11 then ((emulatorref01_Flags.f (Go.bits .xor .i64 t159 t160) a1).bind fun t171 => (some (Go.bits .xor .i64 t159 t160, wrap64 (t171 + (Go.bits .and .i64 a4 1)), (a0 != 3)))) else (some (0, 0, false)))))))))) = some (r1, r2, r3) := H
        have A12 := Aside0.mk A120
        clear A120
        by_cases c13 : a0 = 2
        · rw [if_pos c13] at H
          have c13b0 : (a0 == 2) = true := beq_iff_eq.mpr c13
          have c13b1 : (a0 != 2) = false := bne_eq_false_iff_eq.mpr c13
          clear c13
          replace H := Option.bind_eq_some_iff.mp H
          obtain ⟨⟨t161, t162⟩, A140, H⟩ := H
          replace H : (some (t161, t162, false)) = some (r1, r2, r3) := H
          have A14 := Aside0.mk A140
          clear A140
          simp only [Option.some.injEq, Prod.mk.injEq] at H
          obtain ⟨rfl, rfl, rfl⟩ := H
          go_wp2_with (first | ((with_reducible refine gate_callee (f := 22) rfl ?_); refine goesL_ (some 32) rfl rfl Tryd.func22 (by kernel_rfl) rfl #[.int .i64 a2, .bool a1] rfl (by (try simp only [List.map_toArray, List.map_cons, List.map_nil]); first | done | rfl | (simp only [List.length_drop, List.length_take]; rfl)) ?_; (with_reducible refine (emulatorref10_size.calls a2 a1 t159 _ A11.out).mono ?_); rintro e w' ⟨rfl, ⟨nd, rfl⟩⟩; refine ⟨_, rfl, ?_⟩) | ((with_reducible refine gate_callee (f := 22) rfl ?_); refine goesL_ (some 35) rfl rfl Tryd.func22 (by kernel_rfl) rfl #[.int .i64 a3, .bool a1] rfl (by (try simp only [List.map_toArray, List.map_cons, List.map_nil]); first | done | rfl | (simp only [List.length_drop, List.length_take]; rfl)) ?_; (with_reducible refine (emulatorref10_size.calls a3 a1 t160 _ A12.out).mono ?_); rintro e w' ⟨rfl, ⟨nd, rfl⟩⟩; refine ⟨_, rfl, ?_⟩) | ((with_reducible refine gate_callee (f := 23) rfl ?_); refine goesL_ (some 43) rfl rfl Tryd.func23 (by kernel_rfl) rfl #[.int .i64 t159, .int .i64 t160, .int .i64 0, .bool a1] rfl (by (try simp only [List.map_toArray, List.map_cons, List.map_nil]); first | done | rfl | (simp only [List.length_drop, List.length_take]; rfl)) ?_; (with_reducible refine (emulatorref01_Sub.calls kj5 t159 t160 0 a1 t161 t162 _ A14.out).mono ?_); rintro e w' ⟨rfl, ⟨nd, rfl⟩⟩; refine ⟨_, rfl, ?_⟩))
          go_ret3
          exact ⟨by first | rfl | (simp; done) | (simp [*]; done), by repeat (first | exact Drawn0.refl _ | apply Drawn0.step)⟩
        · rw [if_neg c13] at H
          have c13b0 : (a0 == 2) = false := beq_eq_false_iff_ne.mpr c13
          have c13b1 : (a0 != 2) = true := bne_iff_ne.mpr c13
          by_cases c15 : a0 = 6
          · rw [if_pos c15] at H
            have c15b0 : (a0 == 6) = true := beq_iff_eq.mpr c15
            have c15b1 : (a0 != 6) = false := bne_eq_false_iff_eq.mpr c15
            clear c15
            replace H := Option.bind_eq_some_iff.mp H
            obtain ⟨⟨t163, t164⟩, A160, H⟩ := H
            replace H : (some (t163, t164, true)) = some (r1, r2, r3) := H
            have A16 := Aside0.mk A160
            clear A160
            simp only [Option.some.injEq, Prod.mk.injEq] at H
            obtain ⟨rfl, rfl, rfl⟩ := H
            go_wp2_with (first | ((with_reducible refine gate_callee (f := 22) rfl ?_); refine goesL_ (some 32) rfl rfl Tryd.func22 (by kernel_rfl) rfl #[.int .i64 a2, .bool a1] rfl (by (try simp only [List.map_toArray, List.map_cons, List.map_nil]); first | done | rfl | (simp only [List.length_drop, List.length_take]; rfl)) ?_; (with_reducible refine (emulatorref10_size.calls a2 a1 t159 _ A11.out).mono ?_); rintro e w' ⟨rfl, ⟨nd, rfl⟩⟩; refine ⟨_, rfl, ?_⟩) | ((with_reducible refine gate_callee (f := 22) rfl ?_); refine goesL_ (some 35) rfl rfl Tryd.func22 (by kernel_rfl) rfl #[.int .i64 a3, .bool a1] rfl (by (try simp only [List.map_toArray, List.map_cons, List.map_nil]); first | done | rfl | (simp only [List.length_drop, List.length_take]; rfl)) ?_; (with_reducible refine (emulatorref10_size.calls a3 a1 t160 _ A12.out).mono ?_); rintro e w' ⟨rfl, ⟨nd, rfl⟩⟩; refine ⟨_, rfl, ?_⟩) | ((with_reducible refine gate_callee (f := 24) rfl ?_); refine goesL_ (some 53) rfl rfl Tryd.func24 (by kernel_rfl) rfl #[.int .i64 t160, .int .i64 t159, .int .i64 0, .bool false] rfl (by (try simp only [List.map_toArray, List.map_cons, List.map_nil]); first | done | rfl | (simp only [List.length_drop, List.length_take]; rfl)) ?_; (with_reducible refine (emulatorref01_Add.calls kj5 t160 t159 0 false t163 t164 _ A16.out).mono ?_); rintro e w' ⟨rfl, ⟨nd, rfl⟩⟩; refine ⟨_, rfl, ?_⟩))
            go_ret3
            exact ⟨by first | rfl | (simp; done) | (simp [*]; done), by repeat (first | exact Drawn0.refl _ | apply Drawn0.step)⟩
          · rw [if_neg c15] at H
            have c15b0 : (a0 == 6) = false := beq_eq_false_iff_ne.mpr c15
            have c15b1 : (a0 != 6) = true := bne_iff_ne.mpr c15
            by_cases c17 : a0 = 7
            · rw [if_pos c17] at H
              have c17b0 : (a0 == 7) = true := beq_iff_eq.mpr c17
              have c17b1 : (a0 != 7) = false := bne_eq_false_iff_eq.mpr c17
              clear c17
              replace H := Option.bind_eq_some_iff.mp H
              obtain ⟨⟨t165, t166⟩, A180, H⟩ := H
              replace H : (some (t165, t166, true)) = some (r1, r2, r3) := H
              have A18 := Aside0.mk A180
              clear A180
              simp only [Option.some.injEq, Prod.mk.injEq] at H
              obtain ⟨rfl, rfl, rfl⟩ := H
              go_wp2_with (first | ((with_reducible refine gate_callee (f := 22) rfl ?_); refine goesL_ (some 32) rfl rfl Tryd.func22 (by kernel_rfl) rfl #[.int .i64 a2, .bool a1] rfl (by (try simp only [List.map_toArray, List.map_cons, List.map_nil]); first | done | rfl | (simp only [List.length_drop, List.length_take]; rfl)) ?_; (with_reducible refine (emulatorref10_size.calls a2 a1 t159 _ A11.out).mono ?_); rintro e w' ⟨rfl, ⟨nd, rfl⟩⟩; refine ⟨_, rfl, ?_⟩) | ((with_reducible refine gate_callee (f := 22) rfl ?_); refine goesL_ (some 35) rfl rfl Tryd.func22 (by kernel_rfl) rfl #[.int .i64 a3, .bool a1] rfl (by (try simp only [List.map_toArray, List.map_cons, List.map_nil]); first | done | rfl | (simp only [List.length_drop, List.length_take]; rfl)) ?_; (with_reducible refine (emulatorref10_size.calls a3 a1 t160 _ A12.out).mono ?_); rintro e w' ⟨rfl, ⟨nd, rfl⟩⟩; refine ⟨_, rfl, ?_⟩) | ((with_reducible refine gate_callee (f := 23) rfl ?_); refine goesL_ (some 63) rfl rfl Tryd.func23 (by kernel_rfl) rfl #[.int .i64 t160, .int .i64 t159, .int .i64 0, .bool false] rfl (by (try simp only [List.map_toArray, List.map_cons, List.map_nil]); first | done | rfl | (simp only [List.length_drop, List.length_take]; rfl)) ?_; (with_reducible refine (emulatorref01_Sub.calls kj5 t160 t159 0 false t165 t166 _ A18.out).mono ?_); rintro e w' ⟨rfl, ⟨nd, rfl⟩⟩; refine ⟨_, rfl, ?_⟩))
              go_ret3
              exact ⟨by first | rfl | (simp; done) | (simp [*]; done), by repeat (first | exact Drawn0.refl _ | apply Drawn0.step)⟩
            · rw [if_neg c17] at H
              have c17b0 : (a0 == 7) = false := beq_eq_false_iff_ne.mpr c17
              have c17b1 : (a0 != 7) = true := bne_iff_ne.mpr c17
              by_cases c19 : a0 = 1
              · rw [if_pos c19] at H
                have c19b0 : (a0 == 1) = true := beq_iff_eq.mpr c19
                have c19b1 : (a0 != 1) = false := bne_eq_false_iff_eq.mpr c19
                clear c19
                replace H := Option.bind_eq_some_iff.mp H
                obtain ⟨t167, A200, H⟩ := H
                replace H : (some (t159, wrap64 (t167 + (Go.bits .and .i64 a4 1)), (a0 != 3))) = some (r1, r2, r3) := H
                have A20 := Aside0.mk A200
                clear A200
                simp only [Option.some.injEq, Prod.mk.injEq] at H
                obtain ⟨rfl, rfl, rfl⟩ := H
                go_wp2_with (first | ((with_reducible refine gate_callee (f := 22) rfl ?_); refine goesL_ (some 32) rfl rfl Tryd.func22 (by kernel_rfl) rfl #[.int .i64 a2, .bool a1] rfl (by (try simp only [List.map_toArray, List.map_cons, List.map_nil]); first | done | rfl | (simp only [List.length_drop, List.length_take]; rfl)) ?_; (with_reducible refine (emulatorref10_size.calls a2 a1 t159 _ A11.out).mono ?_); rintro e w' ⟨rfl, ⟨nd, rfl⟩⟩; refine ⟨_, rfl, ?_⟩) | ((with_reducible refine gate_callee (f := 22) rfl ?_); refine goesL_ (some 35) rfl rfl Tryd.func22 (by kernel_rfl) rfl #[.int .i64 a3, .bool a1] rfl (by (try simp only [List.map_toArray, List.map_cons, List.map_nil]); first | done | rfl | (simp only [List.length_drop, List.length_take]; rfl)) ?_; (with_reducible refine (emulatorref10_size.calls a3 a1 t160 _ A12.out).mono ?_); rintro e w' ⟨rfl, ⟨nd, rfl⟩⟩; refine ⟨_, rfl, ?_⟩) | ((with_reducible refine gate_callee (f := 25) rfl ?_); refine goesL_ (some 94) rfl rfl Tryd.func25 (by kernel_rfl) rfl #[.int .i64 t159, .bool a1] rfl (by (try simp only [List.map_toArray, List.map_cons, List.map_nil]); first | done | rfl | (simp only [List.length_drop, List.length_take]; rfl)) ?_; (with_reducible refine (emulatorref01_Flags.calls t159 a1 t167 _ A20.out).mono ?_); rintro e w' ⟨rfl, ⟨nd, rfl⟩⟩; refine ⟨_, rfl, ?_⟩))
                go_ret3
                exact ⟨by first | rfl | (simp; done) | (simp [*]; done), by repeat (first | exact Drawn0.refl _ | apply Drawn0.step)⟩
              · rw [if_neg c19] at H
                have c19b0 : (a0 == 1) = false := beq_eq_false_iff_ne.mpr c19
                have c19b1 : (a0 != 1) = true := bne_iff_ne.mpr c19
                by_cases c21 : a0 = 3
                · rw [if_pos c21] at H
                  have c21b0 : (a0 == 3) = true := beq_iff_eq.mpr c21
                  have c21b1 : (a0 != 3) = false := bne_eq_false_iff_eq.mpr c21
                  clear c21
                  replace H := Option.bind_eq_some_iff.mp H
                  obtain ⟨t168, A220, H⟩ := H
                  replace H : (some (Go.bits .and .i64 t159 t160, wrap64 (t168 + (Go.bits .and .i64 a4 1)), (a0 != 3))) = some (r1, r2, r3) := H
                  have A22 := Aside0.mk A220
                  clear A220
                  simp only [Option.some.injEq, Prod.mk.injEq] at H
                  obtain ⟨rfl, rfl, rfl⟩ := H
                  go_wp2_with (first | ((with_reducible refine gate_callee (f := 22) rfl ?_); refine goesL_ (some 32) rfl rfl Tryd.func22 (by kernel_rfl) rfl #[.int .i64 a2, .bool a1] rfl (by (try simp only [List.map_toArray, List.map_cons, List.map_nil]); first | done | rfl | (simp only [List.length_drop, List.length_take]; rfl)) ?_; (with_reducible refine (emulatorref10_size.calls a2 a1 t159 _ A11.out).mono ?_); rintro e w' ⟨rfl, ⟨nd, rfl⟩⟩; refine ⟨_, rfl, ?_⟩) | ((with_reducible refine gate_callee (f := 22) rfl ?_); refine goesL_ (some 35) rfl rfl Tryd.func22 (by kernel_rfl) rfl #[.int .i64 a3, .bool a1] rfl (by (try simp only [List.map_toArray, List.map_cons, List.map_nil]); first | done | rfl | (simp only [List.length_drop, List.length_take]; rfl)) ?_; (with_reducible refine (emulatorref10_size.calls a3 a1 t160 _ A12.out).mono ?_); rintro e w' ⟨rfl, ⟨nd, rfl⟩⟩; refine ⟨_, rfl, ?_⟩) | ((with_reducible refine gate_callee (f := 25) rfl ?_); refine goesL_ (some 94) rfl rfl Tryd.func25 (by kernel_rfl) rfl #[.int .i64 (Go.bits .and .i64 t159 t160), .bool a1] rfl (by (try simp only [List.map_toArray, List.map_cons, List.map_nil]); first | done | rfl | (simp only [List.length_drop, List.length_take]; rfl)) ?_; (with_reducible refine (emulatorref01_Flags.calls (Go.bits .and .i64 t159 t160) a1 t168 _ A22.out).mono ?_); rintro e w' ⟨rfl, ⟨nd, rfl⟩⟩; refine ⟨_, rfl, ?_⟩))
                  go_ret3
                  exact ⟨by first | rfl | (simp; done) | (simp [*]; done), by repeat (first | exact Drawn0.refl _ | apply Drawn0.step)⟩
                · rw [if_neg c21] at H
                  have c21b0 : (a0 == 3) = false := beq_eq_false_iff_ne.mpr c21
                  have c21b1 : (a0 != 3) = true := bne_iff_ne.mpr c21
                  by_cases c23 : a0 = 4
                  · rw [if_pos c23] at H
                    have c23b0 : (a0 == 4) = true := beq_iff_eq.mpr c23
                    have c23b1 : (a0 != 4) = false := bne_eq_false_iff_eq.mpr c23
                    clear c23
                    replace H := Option.bind_eq_some_iff.mp H
                    obtain ⟨t169, A240, H⟩ := H
                    replace H : (some (Go.bits .andNot .i64 t160 t159, wrap64 (t169 + (Go.bits .and .i64 a4 1)), (a0 != 3))) = some (r1, r2, r3) := H
                    have A24 := Aside0.mk A240
                    clear A240
                    simp only [Option.some.injEq, Prod.mk.injEq] at H
                    obtain ⟨rfl, rfl, rfl⟩ := H
                    go_wp2_with (first | ((with_reducible refine gate_callee (f := 22) rfl ?_); refine goesL_ (some 32) rfl rfl Tryd.func22 (by kernel_rfl) rfl #[.int .i64 a2, .bool a1] rfl (by (try simp only [List.map_toArray, List.map_cons, List.map_nil]); first | done | rfl | (simp only [List.length_drop, List.length_take]; rfl)) ?_; (with_reducible refine (emulatorref10_size.calls a2 a1 t159 _ A11.out).mono ?_); rintro e w' ⟨rfl, ⟨nd, rfl⟩⟩; refine ⟨_, rfl, ?_⟩) | ((with_reducible refine gate_callee (f := 22) rfl ?_); refine goesL_ (some 35) rfl rfl Tryd.func22 (by kernel_rfl) rfl #[.int .i64 a3, .bool a1] rfl (by (try simp only [List.map_toArray, List.map_cons, List.map_nil]); first | done | rfl | (simp only [List.length_drop, List.length_take]; rfl)) ?_; (with_reducible refine (emulatorref10_size.calls a3 a1 t160 _ A12.out).mono ?_); rintro e w' ⟨rfl, ⟨nd, rfl⟩⟩; refine ⟨_, rfl, ?_⟩) | ((with_reducible refine gate_callee (f := 25) rfl ?_); refine goesL_ (some 94) rfl rfl Tryd.func25 (by kernel_rfl) rfl #[.int .i64 (Go.bits .andNot .i64 t160 t159), .bool a1] rfl (by (try simp only [List.map_toArray, List.map_cons, List.map_nil]); first | done | rfl | (simp only [List.length_drop, List.length_take]; rfl)) ?_; (with_reducible refine (emulatorref01_Flags.calls (Go.bits .andNot .i64 t160 t159) a1 t169 _ A24.out).mono ?_); rintro e w' ⟨rfl, ⟨nd, rfl⟩⟩; refine ⟨_, rfl, ?_⟩))
                    go_ret3
                    exact ⟨by first | rfl | (simp; done) | (simp [*]; done), by repeat (first | exact Drawn0.refl _ | apply Drawn0.step)⟩
                  · rw [if_neg c23] at H
                    have c23b0 : (a0 == 4) = false := beq_eq_false_iff_ne.mpr c23
                    have c23b1 : (a0 != 4) = true := bne_iff_ne.mpr c23
                    by_cases c25 : a0 = 5
                    · rw [if_pos c25] at H
                      have c25b0 : (a0 == 5) = true := beq_iff_eq.mpr c25
                      have c25b1 : (a0 != 5) = false := bne_eq_false_iff_eq.mpr c25
                      clear c25
                      replace H := Option.bind_eq_some_iff.mp H
                      obtain ⟨t170, A260, H⟩ := H
                      replace H : (some (Go.bits .or .i64 t159 t160, wrap64 (t170 + (Go.bits .and .i64 a4 1)), (a0 != 3))) = some (r1, r2, r3) := H
                      have A26 := Aside0.mk A260
                      clear A260
                      simp only [Option.some.injEq, Prod.mk.injEq] at H
                      obtain ⟨rfl, rfl, rfl⟩ := H
                      go_wp2_with (first | ((with_reducible refine gate_callee (f := 22) rfl ?_); refine goesL_ (some 32) rfl rfl Tryd.func22 (by kernel_rfl) rfl #[.int .i64 a2, .bool a1] rfl (by (try simp only [List.map_toArray, List.map_cons, List.map_nil]); first | done | rfl | (simp only [List.length_drop, List.length_take]; rfl)) ?_; (with_reducible refine (emulatorref10_size.calls a2 a1 t159 _ A11.out).mono ?_); rintro e w' ⟨rfl, ⟨nd, rfl⟩⟩; refine ⟨_, rfl, ?_⟩) | ((with_reducible refine gate_callee (f := 22) rfl ?_); refine goesL_ (some 35) rfl rfl Tryd.func22 (by kernel_rfl) rfl #[.int .i64 a3, .bool a1] rfl (by (try simp only [List.map_toArray, List.map_cons, List.map_nil]); first | done | rfl | (simp only [List.length_drop, List.length_take]; rfl)) ?_; (with_reducible refine (emulatorref10_size.calls a3 a1 t160 _ A12.out).mono ?_); rintro e w' ⟨rfl, ⟨nd, rfl⟩⟩; refine ⟨_, rfl, ?_⟩) | ((with_reducible refine gate_callee (f := 25) rfl ?_); refine goesL_ (some 94) rfl rfl Tryd.func25 (by kernel_rfl) rfl #[.int .i64 (Go.bits .or .i64 t159 t160), .bool a1] rfl (by (try simp only [List.map_toArray, List.map_cons, List.map_nil]); first | done | rfl | (simp only [List.length_drop, List.length_take]; rfl)) ?_; (with_reducible refine (emulatorref01_Flags.calls (Go.bits .or .i64 t159 t160) a1 t170 _ A26.out).mono ?_); rintro e w' ⟨rfl, ⟨nd, rfl⟩⟩; refine ⟨_, rfl, ?_⟩))
                      go_ret3
                      exact ⟨by first | rfl | (simp; done) | (simp [*]; done), by repeat (first | exact Drawn0.refl _ | apply Drawn0.step)⟩
                    · rw [if_neg c25] at H
                      have c25b0 : (a0 == 5) = false := beq_eq_false_iff_ne.mpr c25
                      have c25b1 : (a0 != 5) = true := bne_iff_ne.mpr c25
                      by_cases c27 : a0 = 11
                      · rw [if_pos c27] at H
                        have c27b0 : (a0 == 11) = true := beq_iff_eq.mpr c27
                        have c27b1 : (a0 != 11) = false := bne_eq_false_iff_eq.mpr c27
                        clear c27
                        replace H := Option.bind_eq_some_iff.mp H
                        obtain ⟨t171, A280, H⟩ := H
                        replace H : (some (Go.bits .xor .i64 t159 t160, wrap64 (t171 + (Go.bits .and .i64 a4 1)), (a0 != 3))) = some (r1, r2, r3) := H
                        have A28 := Aside0.mk A280
                        clear A280
                        simp only [Option.some.injEq, Prod.mk.injEq] at H
                        obtain ⟨rfl, rfl, rfl⟩ := H
                        go_wp2_with (first | ((with_reducible refine gate_callee (f := 22) rfl ?_); refine goesL_ (some 32) rfl rfl Tryd.func22 (by kernel_rfl) rfl #[.int .i64 a2, .bool a1] rfl (by (try simp only [List.map_toArray, List.map_cons, List.map_nil]); first | done | rfl | (simp only [List.length_drop, List.length_take]; rfl)) ?_; (with_reducible refine (emulatorref10_size.calls a2 a1 t159 _ A11.out).mono ?_); rintro e w' ⟨rfl, ⟨nd, rfl⟩⟩; refine ⟨_, rfl, ?_⟩) | ((with_reducible refine gate_callee (f := 22) rfl ?_); refine goesL_ (some 35) rfl rfl Tryd.func22 (by kernel_rfl) rfl #[.int .i64 a3, .bool a1] rfl (by (try simp only [List.map_toArray, List.map_cons, List.map_nil]); first | done | rfl | (simp only [List.length_drop, List.length_take]; rfl)) ?_; (with_reducible refine (emulatorref10_size.calls a3 a1 t160 _ A12.out).mono ?_); rintro e w' ⟨rfl, ⟨nd, rfl⟩⟩; refine ⟨_, rfl, ?_⟩) | ((with_reducible refine gate_callee (f := 25) rfl ?_); refine goesL_ (some 94) rfl rfl Tryd.func25 (by kernel_rfl) rfl #[.int .i64 (Go.bits .xor .i64 t159 t160), .bool a1] rfl (by (try simp only [List.map_toArray, List.map_cons, List.map_nil]); first | done | rfl | (simp only [List.length_drop, List.length_take]; rfl)) ?_; (with_reducible refine (emulatorref01_Flags.calls (Go.bits .xor .i64 t159 t160) a1 t171 _ A28.out).mono ?_); rintro e w' ⟨rfl, ⟨nd, rfl⟩⟩; refine ⟨_, rfl, ?_⟩))
                        go_ret3
                        exact ⟨by first | rfl | (simp; done) | (simp [*]; done), by repeat (first | exact Drawn0.refl _ | apply Drawn0.step)⟩
                      · rw [if_neg c27] at H
                        have c27b0 : (a0 == 11) = false := beq_eq_false_iff_ne.mpr c27
                        have c27b1 : (a0 != 11) = true := bne_iff_ne.mpr c27
                        simp only [Option.some.injEq, Prod.mk.injEq] at H
                        obtain ⟨rfl, rfl, rfl⟩ := H
                        go_wp2_with (first | ((with_reducible refine gate_callee (f := 22) rfl ?_); refine goesL_ (some 32) rfl rfl Tryd.func22 (by kernel_rfl) rfl #[.int .i64 a2, .bool a1] rfl (by (try simp only [List.map_toArray, List.map_cons, List.map_nil]); first | done | rfl | (simp only [List.length_drop, List.length_take]; rfl)) ?_; (with_reducible refine (emulatorref10_size.calls a2 a1 t159 _ A11.out).mono ?_); rintro e w' ⟨rfl, ⟨nd, rfl⟩⟩; refine ⟨_, rfl, ?_⟩) | ((with_reducible refine gate_callee (f := 22) rfl ?_); refine goesL_ (some 35) rfl rfl Tryd.func22 (by kernel_rfl) rfl #[.int .i64 a3, .bool a1] rfl (by (try simp only [List.map_toArray, List.map_cons, List.map_nil]); first | done | rfl | (simp only [List.length_drop, List.length_take]; rfl)) ?_; (with_reducible refine (emulatorref10_size.calls a3 a1 t160 _ A12.out).mono ?_); rintro e w' ⟨rfl, ⟨nd, rfl⟩⟩; refine ⟨_, rfl, ?_⟩))
                        go_ret3
                        exact ⟨by first | rfl | (simp; done) | (simp [*]; done), by repeat (first | exact Drawn0.refl _ | apply Drawn0.step)⟩

/-! ### alu_kept: function 29 -/
def alu_kept.f (a0 : Int) (a1 : Int) (a2 : Int) : Option (Int × Int) := some (a0, Go.bits .or .i64 (Go.bits .andNot .i64 a1 1) (Go.bits .and .i64 a2 1))
set_option maxHeartbeats 8000000 in
set_option maxRecDepth 100000 in
theorem alu_kept.calls (a0 : Int) (a1 : Int) (a2 : Int) (r1 : Int) (r2 : Int) (w : World) (h : alu_kept.f a0 a1 a2 = some (r1, r2)) :
    Calls Tryd.prog 29 #[.int .i64 a0, .int .i64 a1, .int .i64 a2] w fun e w' => e = .returned (.tuple #[.int .i64 r1, .int .i64 r2]) ∧ Drawn0 w w' := by
  have H : (some (a0, Go.bits .or .i64 (Go.bits .andNot .i64 a1 1) (Go.bits .and .i64 a2 1))) = some (r1, r2) := h
  clear h
  simp only [Option.some.injEq, Prod.mk.injEq] at H
  obtain ⟨rfl, rfl⟩ := H
  go_enter Tryd.func29, Tryd.ntmps29
  go_wp2
  go_ret2
  exact ⟨by first | rfl | (simp; done) | (simp [*]; done), by repeat (first | exact Drawn0.refl _ | apply Drawn0.step)⟩

end Go.Proofs.YtfeflghimnbhiaaDoor.A
