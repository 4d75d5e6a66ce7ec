-- Written by a program of this session (mp.py) over the kit's print.py, with proofs by hand for what the print does not take.
import Derived.Test.YtfeflghimnbhiaaDoorAx0
import Derived.Test.YtfeflghimnbhiaaDoorAx4
import Derived.Test.YtfeflghimnbhiaaDoorAx5
import Derived.Test.YtfeflghimnbhiaaDoorAx6
import Derived.Test.YtfeflghimnbhiaaDoorAx14
namespace Go.Proofs.YtfeflghimnbhiaaDoor.A
open Go.RowKit Go.Proofs.YtfeflghimnbhiaaDoorW.PrintWords Go.Proofs.YtfeflghimnbhiaaDoorW.PrintLast Go.Proofs.YtfeflghimnbhiaaDoorW.PrintMore
attribute [local go_sem] max2_int min2_int max_two min_two max_three min_three max_four min_four   -- for this text's walks alone
set_option linter.unusedVariables false
set_option linter.unusedSimpArgs false

/-! ### emulatorref10_Single: function 14 -/
def emulatorref10_Single.j0 : Nat → Int → Bool → Int → Int → Bool → Option (Int × Int × Bool)
  | 0, _, _, _, _, _ => none
  | k + 1, x0, x1, x2, x3, x23 => if x23 = true then (some (0, 0, false)) else ((emulatorref10_size.f x2 x1).bind fun t270 => ((emulatorref10_size.f (-1) x1).bind fun t271 => (if x0 = 12 then (some (0, 4, true)) else (if x0 = 13 then ((emulatorref10_size.f (Go.bits .xor .i64 (-1) t270) x1).bind fun t272 => ((emulatorref01_Flags.f t272 x1).bind fun t273 => (some (t272, wrap64 (t273 + 1), true)))) else (if x0 = 14 then ((emulatorref01_Add.f k t270 1 0 x1).bind fun bt274 => (some (bt274.1, wrap64 ((Go.bits .and .i64 bt274.2 14) + (Go.bits .and .i64 x3 1)), true))) else (if x0 = 15 then ((emulatorref01_Sub.f k t270 1 0 x1).bind fun bt276 => (some (bt276.1, wrap64 ((Go.bits .and .i64 bt276.2 14) + (Go.bits .and .i64 x3 1)), true))) else (if x0 = 16 then ((emulatorref01_Sub.f k 0 t270 0 x1).bind fun bt278 => (some (bt278.1, bt278.2, true))) else (if x0 = 17 then ((emulatorref01_Add.f k t270 0 x3 x1).bind fun bt280 => (some (bt280.1, bt280.2, true))) else (if x0 = 18 then ((emulatorref01_Sub.f k t270 0 x3 x1).bind fun bt282 => (some (bt282.1, bt282.2, true))) else (if x0 = 19 then ((emulatorref01_Flags.f t270 x1).bind fun t284 => (some (t270, t284, false))) else (if x0 = 20 then ((emulatorref01_Rotate.f k t270 x3 false x1).bind fun bt285 => (some (bt285.1, bt285.2, true))) else (if x0 = 21 then ((emulatorref01_Rotate.f k t270 x3 true x1).bind fun bt287 => (some (bt287.1, bt287.2, true))) else (if x0 = 22 then ((emulatorref10_moved.f (wrap64 ((wrap64 (Int.tdiv t270 2)) + (Go.bits .and .i64 t270 (wrap64 ((wrap64 (Int.tdiv t271 2)) + 1))))) (Go.bits .and .i64 t270 1) x1).bind fun t289 => (some (wrap64 ((wrap64 (Int.tdiv t270 2)) + (Go.bits .and .i64 t270 (wrap64 ((wrap64 (Int.tdiv t271 2)) + 1)))), t289, true))) else (if x0 = 23 then ((emulatorref10_size.f (wrap64 (2 * t270)) x1).bind fun t290 => (if (wrap64 ((wrap64 (Int.tdiv t271 2)) + 1)) = 0 then (none) else ((emulatorref10_moved.f t290 (wrap64 (Int.tdiv t270 (wrap64 ((wrap64 (Int.tdiv t271 2)) + 1)))) x1).bind fun t291 => (some (t290, t291, true))))) else (if x0 = 24 then ((emulatorref01_Flags.f (wrap64 ((wrap64 ((Go.bits .and .i64 t270 255) * 256)) + (wrap64 (Int.tdiv t270 256)))) true).bind fun t292 => (some (wrap64 ((wrap64 ((Go.bits .and .i64 t270 255) * 256)) + (wrap64 (Int.tdiv t270 256))), t292, true))) else (if x0 = 25 then (if (Go.bits .and .i64 x3 8) = 0 then (some (0, wrap64 (4 + (Go.bits .and .i64 x3 1)), true)) else (some (65535, wrap64 (8 + (Go.bits .and .i64 x3 1)), true))) else (some (0, 0, false))))))))))))))))))
def emulatorref10_Single.f (k : Nat) (a0 : Int) (a1 : Bool) (a2 : Int) (a3 : Int) : Option (Int × Int × Bool) := if a1 = true then (if a0 = 24 then (emulatorref10_Single.j0 k a0 a1 a2 a3 true) else (emulatorref10_Single.j0 k a0 a1 a2 a3 (a0 == 25))) else (emulatorref10_Single.j0 k a0 a1 a2 a3 false)
theorem emulatorref10_Single.mono_l : ∀ k, (∀ y0 y1 y2 y3 y4, LeO (emulatorref10_Single.j0 k y0 y1 y2 y3 y4) (emulatorref10_Single.j0 (k + 1) y0 y1 y2 y3 y4))
  | 0 => fun _ _ _ _ _ r h => by simp [emulatorref10_Single.j0] at h
  | k + 1 => by
    have ih0 := emulatorref10_Single.mono_l k
    · intro y0 y1 y2 y3 y4
      unfold emulatorref10_Single.j0
      repeat' first
      | (with_reducible exact ih0 _ _ _ _ _)
      | (with_reducible exact emulatorref01_Add.mono _ _ _ _ _)
      | (with_reducible exact emulatorref01_Rotate.mono _ _ _ _ _)
      | (with_reducible exact emulatorref01_Sub.mono _ _ _ _ _)
      | (with_reducible exact LeO.refl _)
      | (with_reducible exact LeO.none _)
      | (with_reducible refine LeO.ite ?_ ?_)
      | (with_reducible refine LeO.bind ?_ (fun _ => ?_))
      | exact ih0 _ _ _ _ _
      | exact emulatorref01_Add.mono _ _ _ _ _
      | exact emulatorref01_Rotate.mono _ _ _ _ _
      | exact emulatorref01_Sub.mono _ _ _ _ _
      | exact LeO.none _
      | refine LeO.ite ?_ ?_
      | refine LeO.bind ?_ (fun _ => ?_)
theorem emulatorref10_Single.mono : ∀ a0 a1 a2 a3 k, LeO (emulatorref10_Single.f k a0 a1 a2 a3) (emulatorref10_Single.f (k + 1) a0 a1 a2 a3) := by
  intro a0 a1 a2 a3 k
  have ih0 := emulatorref10_Single.mono_l k
  unfold emulatorref10_Single.f
  repeat' first
      | (with_reducible exact ih0 _ _ _ _ _)
      | (with_reducible exact emulatorref01_Add.mono _ _ _ _ _)
      | (with_reducible exact emulatorref01_Rotate.mono _ _ _ _ _)
      | (with_reducible exact emulatorref01_Sub.mono _ _ _ _ _)
      | (with_reducible exact LeO.refl _)
      | (with_reducible exact LeO.none _)
      | (with_reducible refine LeO.ite ?_ ?_)
      | (with_reducible refine LeO.bind ?_ (fun _ => ?_))
      | exact ih0 _ _ _ _ _
      | exact emulatorref01_Add.mono _ _ _ _ _
      | exact emulatorref01_Rotate.mono _ _ _ _ _
      | exact emulatorref01_Sub.mono _ _ _ _ _
      | exact LeO.none _
      | refine LeO.ite ?_ ?_
      | refine LeO.bind ?_ (fun _ => ?_)
set_option maxHeartbeats 8000000 in
set_option maxRecDepth 100000 in
theorem emulatorref10_Single.calls (k : Nat) (a0 : Int) (a1 : Bool) (a2 : Int) (a3 : Int) (r1 : Int) (r2 : Int) (r3 : Bool) (w : World) (h : emulatorref10_Single.f k a0 a1 a2 a3 = some (r1, r2, r3)) :
    Calls Tryd.prog 14 #[.int .i64 a0, .bool a1, .int .i64 a2, .int .i64 a3] w fun e w' => e = .returned (.tuple #[.int .i64 r1, .int .i64 r2, .bool r3]) ∧ Drawn0 w w' := by
  have H : (if a1 = true then (if a0 = 24 then (emulatorref10_Single.j0 k a0 a1 a2 a3 true) else (emulatorref10_Single.j0 k a0 a1 a2 a3 (a0 == 25))) else (emulatorref10_Single.j0 k a0 a1 a2 a3 false)) = some (r1, r2, r3) := h
  clear h
  have HC5 := Aside0.mk H
  clear H
  go_enter Tryd.func14, Tryd.ntmps14
  go_upto_region 1 with (fail)
  go_cut [23] (fun v23 wc => ∃ (kq : Nat) (x23_4 : Bool), v23 = .bool x23_4 ∧ Aside0 (emulatorref10_Single.j0 kq a0 a1 a2 a3 x23_4 = some (r1, r2, r3)) ∧ Aside0 (kq ≤ k) ∧ Drawn0 w wc)
  case first =>
    have H := HC5.out
    clear HC5
    by_cases c6 : a1 = true
    · subst c6
      have H1 : (if a0 = 24 then (emulatorref10_Single.j0 k a0 true a2 a3 true) else (emulatorref10_Single.j0 k a0 true a2 a3 (a0 == 25))) = some (r1, r2, r3) := by rw [if_pos rfl] at H; exact H
      clear H
      have H := H1
      clear H1
      by_cases c7 : a0 = 24
      · rw [if_pos c7] at H
        have c7b0 : (a0 == 24) = true := beq_iff_eq.mpr c7
        have c7b1 : (a0 != 24) = false := bne_eq_false_iff_eq.mpr c7
        clear c7
        (first | rw [c7b0] | (simp only [i64_w, i32_w]; rw [c7b0]) | skip)
        have H' := Aside0.mk H
        clear H
        go_wp2
        go_meet
        case rel => exact ⟨_, (true), (by first | rfl | (simp; done) | (simp [*]; done)), H', ⟨by first | omega | exact Nat.le_refl _⟩, by repeat (first | exact Drawn0.refl _ | apply Drawn0.step)⟩
      · rw [if_neg c7] at H
        have c7b0 : (a0 == 24) = false := beq_eq_false_iff_ne.mpr c7
        have c7b1 : (a0 != 24) = true := bne_iff_ne.mpr c7
        (first | rw [c7b0] | (simp only [i64_w, i32_w]; rw [c7b0]) | skip)
        have H' := Aside0.mk H
        clear H
        go_wp2
        go_meet
        case rel => exact ⟨_, ((a0 == 25)), (by first | rfl | (simp; done) | (simp [*]; done)), H', ⟨by first | omega | exact Nat.le_refl _⟩, by repeat (first | exact Drawn0.refl _ | apply Drawn0.step)⟩
    · replace c6 := Bool.eq_false_iff.mpr c6
      subst c6
      have H1 : (emulatorref10_Single.j0 k a0 false a2 a3 false) = some (r1, r2, r3) := by rw [if_neg (show ¬ (false = true) by decide)] at H; exact H
      clear H
      have H := H1
      clear H1
      have H' := Aside0.mk H
      clear H
      go_wp2
      go_meet
      case rel => exact ⟨_, (false), (by first | rfl | (simp; done) | (simp [*]; done)), H', ⟨by first | omega | exact Nat.le_refl _⟩, by repeat (first | exact Drawn0.refl _ | apply Drawn0.step)⟩
  case rest =>
    clear HC5
    try clear c1
    try clear p2
    try clear c6
    try clear c7
    try clear c7b0
    try clear c7b1
    obtain ⟨kq, x23_4, rfl, HA, HJ4, ⟨mc4, rfl⟩⟩ := hcut
    cases kq with
    | zero => exact absurd HA.out (by simp [emulatorref10_Single.j0])
    | succ kj4 =>
      have H := HA.out
      clear HA
      simp only [emulatorref10_Single.j0] at H
      by_cases c8 : x23_4 = true
      · subst c8
        have H1 : (some (0, 0, false)) = some (r1, r2, r3) := by rw [if_pos rfl] at H; exact H
        clear H
        have H := H1
        clear H1
        simp only [Option.some.injEq, Prod.mk.injEq] at H
        obtain ⟨rfl, rfl, rfl⟩ := H
        go_wp2
        go_ret3
        exact ⟨by first | rfl | (simp; done) | (simp [*]; done), by repeat (first | exact Drawn0.refl _ | apply Drawn0.step)⟩
      · replace c8 := Bool.eq_false_iff.mpr c8
        subst c8
        have H1 : ((emulatorref10_size.f a2 a1).bind fun t270 => ((emulatorref10_size.f (-1) a1).bind fun t271 => (if a0 = 12 then (some (0, 4, true)) else (if a0 = 13 then ((emulatorref10_size.f (Go.bits .xor .i64 (-1) t270) a1).bind fun t272 => ((emulatorref01_Flags.f t272 a1).bind fun t273 => (some (t272, wrap64 (t273 + 1), true)))) else (if a0 = 14 then ((emulatorref01_Add.f kj4 t270 1 0 a1).bind fun bt274 => (some (bt274.1, wrap64 ((Go.bits .and .i64 bt274.2 14) + (Go.bits .and .i64 a3 1)), true))) else (if a0 = 15 then ((emulatorref01_Sub.f kj4 t270 1 0 a1).bind fun bt276 => (some (bt276.1, wrap64 ((Go.bits .and .i64 bt276.2 14) + (Go.bits .and .i64 a3 1)), true))) else (if a0 = 16 then ((emulatorref01_Sub.f kj4 0 t270 0 a1).bind fun bt278 => (some (bt278.1, bt278.2, true))) else (if a0 = 17 then ((emulatorref01_Add.f kj4 t270 0 a3 a1).bind fun bt280 => (some (bt280.1, bt280.2, true))) else (if a0 = 18 then ((emulatorref01_Sub.f kj4 t270 0 a3 a1).bind fun bt282 => (some (bt282.1, bt282.2, true))) else (if a0 = 19 then ((emulatorref01_Flags.f t270 a1).bind fun t284 => (some (t270, t284, false))) else (if a0 = 20 then ((emulatorref01_Rotate.f kj4 t270 a3 false a1).bind fun bt285 => (some (bt285.1, bt285.2, true))) else (if a0 = 21 then ((emulatorref01_Rotate.f kj4 t270 a3 true a1).bind fun bt287 => (some (bt287.1, bt287.2, true))) else (if a0 = 22 then ((emulatorref10_moved.f (wrap64 ((wrap64 (Int.tdiv t270 2)) + (Go.bits .and .i64 t270 (wrap64 ((wrap64 (Int.tdiv t271 2)) + 1))))) (Go.bits .and .i64 t270 1) a1).bind fun t289 => (some (wrap64 ((wrap64 (Int.tdiv t270 2)) + (Go.bits .and .i64 t270 (wrap64 ((wrap64 (Int.tdiv t271 2)) + 1)))), t289, true))) else (if a0 = 23 then ((emulatorref10_size.f (wrap64 (2 * t270)) a1).bind fun t290 => (if (wrap64 ((wrap64 (Int.tdiv t271 2)) + 1)) = 0 then (none) else ((emulatorref10_moved.f t290 (wrap64 (Int.tdiv t270 (wrap64 ((wrap64 (Int.tdiv t271 2)) + 1)))) a1).bind fun t291 => (some (t290, t291, true))))) else (if a0 = 24 then ((emulatorref01_Flags.f (wrap64 ((wrap64 ((Go.bits .and .i64 t270 255) * 256)) + (wrap64 (Int.tdiv t270 256)))) true).bind fun t292 => (some (wrap64 ((wrap64 ((Go.bits .and .i64 t270 255) * 256)) + (wrap64 (Int.tdiv t270 256))), t292, true))) else (if a0 = 25 then (if (Go.bits .and .i64 a3 8) = 0 then (some (0, wrap64 (4 + (Go.bits .and .i64 a3 1)), true)) else (some (65535, wrap64 (8 + (Go.bits .and .i64 a3 1)), true))) else (some (0, 0, false)))))))))))))))))) = some (r1, r2, r3) := by rw [if_neg (show ¬ (false = true) by decide)] at H; exact H
        clear H
        have H := H1
        clear H1
        replace H := Option.bind_eq_some_iff.mp H
        obtain ⟨t270, A90, H⟩ := H
        replace H : ((emulatorref10_size.f (-1) a1).bind fun t271 => (if a0 = 12 then (some (0, 4, true)) else (if a0 = 13 then ((emulatorref10_size.f (Go.bits .xor .i64 (-1) t270) a1).bind fun t272 => ((emulatorref01_Flags.f t272 a1).bind fun t273 => (some (t272, wrap64 (t273 + 1), true)))) else (if a0 = 14 then ((emulatorref01_Add.f kj4 t270 1 0 a1).bind fun bt274 => (some (bt274.1, wrap64 ((Go.bits .and .i64 bt274.2 14) + (Go.bits .and .i64 a3 1)), true))) else (if a0 = 15 then ((emulatorref01_Sub.f kj4 t270 1 0 a1).bind fun bt276 => (some (bt276.1, wrap64 ((Go.bits .and .i64 bt276.2 14) + (Go.bits .and .i64 a3 1)), true))) else (if a0 = 16 then ((emulatorref01_Sub.f kj4 0 t270 0 a1).bind fun bt278 => (some (bt278.1, bt278.2, true))) else (if a0 = 17 then ((emulatorref01_Add.f kj4 t270 0 a3 a1).bind fun bt280 => (some (bt280.1, bt280.2, true))) else (if a0 = 18 then ((emulatorref01_Sub.f kj4 t270 0 a3 a1).bind fun bt282 => (some (bt282.1, bt282.2, true))) else (if a0 = 19 then ((emulatorref01_Flags.f t270 a1).bind fun t284 => (some (t270, t284, false))) else (if a0 = 20 then ((emulatorref01_Rotate.f kj4 t270 a3 false a1).bind fun bt285 => (some (bt285.1, bt285.2, true))) else (if a0 = 21 then ((emulatorref01_Rotate.f kj4 t270 a3 true a1).bind fun bt287 => (some (bt287.1, bt287.2, true))) else (if a0 = 22 then ((emulatorref10_moved.f (wrap64 ((wrap64 (Int.tdiv t270 2)) + (Go.bits .and .i64 t270 (wrap64 ((wrap64 (Int.tdiv t271 2)) + 1))))) (Go.bits .and .i64 t270 1) a1).bind fun t289 => (some (wrap64 ((wrap64 (Int.tdiv t270 2)) + (Go.bits .and .i64 t270 (wrap64 ((wrap64 (Int.tdiv t271 2)) + 1)))), t289, true))) else (if a0 = 23 then ((emulatorref10_size.f (wrap64 (2 * t270)) a1).bind fun t290 => (if (wrap64 ((wrap64 (Int.tdiv t271 2)) + 1)) = 0 then (none) else ((emulatorref10_moved.f t290 (wrap64 (Int.tdiv t270 (wrap64 ((wrap64 (Int.tdiv t271 2)) + 1)))) a1).bind fun t291 => (some (t290, t291, true))))) else (if a0 = 24 then ((emulatorref01_Flags.f (wrap64 ((wrap64 ((Go.bits .and .i64 t270 255) * 256)) + (wrap64 (Int.tdiv t270 256)))) true).bind fun t292 => (some (wrap64 ((wrap64 ((Go.bits .and .i64 t270 255) * 256)) + (wrap64 (Int.tdiv t270 256))), t292, true))) else (if a0 = 25 then (if (Go.bits .and .i64 a3 8) = 0 then (some (0, wrap64 (4 + (Go.bits .and .i64 a3 1)), true)) else (some (65535, wrap64 (8 + (Go.bits .and .i64 a3 1)), true))) else (some (0, 0, false))))))))))))))))) = some (r1, r2, r3) := H
        have A9 := Aside0.mk A90
        clear A90
        replace H := Option.bind_eq_some_iff.mp H
        obtain ⟨t271, A100, H⟩ := H
        replace H : (if a0 = 12 then (some (0, 4, true)) else (if a0 = 13 then ((emulatorref10_size.f (Go.bits .xor .i64 (-1) t270) a1).bind fun t272 => ((emulatorref01_Flags.f t272 a1).bind fun t273 => (some (t272, wrap64 (t273 + 1), true)))) else (if a0 = 14 then ((emulatorref01_Add.f kj4 t270 1 0 a1).bind fun bt274 => (some (bt274.1, wrap64 ((Go.bits .and .i64 bt274.2 14) + (Go.bits .and .i64 a3 1)), true))) else (if a0 = 15 then ((emulatorref01_Sub.f kj4 t270 1 0 a1).bind fun bt276 => (some (bt276.1, wrap64 ((Go.bits .and .i64 bt276.2 14) + (Go.bits .and .i64 a3 1)), true))) else (if a0 = 16 then ((emulatorref01_Sub.f kj4 0 t270 0 a1).bind fun bt278 => (some (bt278.1, bt278.2, true))) else (if a0 = 17 then ((emulatorref01_Add.f kj4 t270 0 a3 a1).bind fun bt280 => (some (bt280.1, bt280.2, true))) else (if a0 = 18 then ((emulatorref01_Sub.f kj4 t270 0 a3 a1).bind fun bt282 => (some (bt282.1, bt282.2, true))) else (if a0 = 19 then ((emulatorref01_Flags.f t270 a1).bind fun t284 => (some (t270, t284, false))) else (if a0 = 20 then ((emulatorref01_Rotate.f kj4 t270 a3 false a1).bind fun bt285 => (some (bt285.1, bt285.2, true))) else (if a0 = 21 then ((emulatorref01_Rotate.f kj4 t270 a3 true a1).bind fun bt287 => (some (bt287.1, bt287.2, true))) else (if a0 = 22 then ((emulatorref10_moved.f (wrap64 ((wrap64 (Int.tdiv t270 2)) + (Go.bits .and .i64 t270 (wrap64 ((wrap64 (Int.tdiv t271 2)) + 1))))) (Go.bits .and .i64 t270 1) a1).bind fun t289 => (some (wrap64 ((wrap64 (Int.tdiv t270 2)) + (Go.bits .and .i64 t270 (wrap64 ((wrap64 (Int.tdiv t271 2)) + 1)))), t289, true))) else (if a0 = 23 then ((emulatorref10_size.f (wrap64 (2 * t270)) a1).bind fun t290 => (if (wrap64 ((wrap64 (Int.tdiv t271 2)) + 1)) = 0 then (none) else ((emulatorref10_moved.f t290 (wrap64 (Int.tdiv t270 (wrap64 ((wrap64 (Int.tdiv t271 2)) + 1)))) a1).bind fun t291 => (some (t290, t291, true))))) else (if a0 = 24 then ((emulatorref01_Flags.f (wrap64 ((wrap64 ((Go.bits .and .i64 t270 255) * 256)) + (wrap64 (Int.tdiv t270 256)))) true).bind fun t292 => (some (wrap64 ((wrap64 ((Go.bits .and .i64 t270 255) * 256)) + (wrap64 (Int.tdiv t270 256))), t292, true))) else (if a0 = 25 then (if (Go.bits .and .i64 a3 8) = 0 then (some (0, wrap64 (4 + (Go.bits .and .i64 a3 1)), true)) else (some (65535, wrap64 (8 + (Go.bits .and .i64 a3 1)), true))) else (some (0, 0, false)))))))))))))))) = some (r1, r2, r3) := H
        have A10 := Aside0.mk A100
        clear A100
        by_cases c11 : a0 = 12
        · rw [if_pos c11] at H
          have c11b0 : (a0 == 12) = true := beq_iff_eq.mpr c11
          have c11b1 : (a0 != 12) = false := bne_eq_false_iff_eq.mpr c11
          clear c11
          simp only [Option.some.injEq, Prod.mk.injEq] at H
          obtain ⟨rfl, rfl, rfl⟩ := H
          go_wp2_with (first | ((with_reducible refine gate_callee (f := 22) rfl ?_); refine goesL_ (some 26) rfl rfl Tryd.func22 (by kernel_rfl) rfl #[.int .i64 a2, .bool a1] rfl (by (try simp only [List.map_toArray, List.map_cons, List.map_nil]); first | done | rfl | (simp only [List.length_drop, List.length_take]; rfl)) ?_; (with_reducible refine (emulatorref10_size.calls a2 a1 t270 _ A9.out).mono ?_); rintro e w' ⟨rfl, ⟨nd, rfl⟩⟩; refine ⟨_, rfl, ?_⟩) | ((with_reducible refine gate_callee (f := 22) rfl ?_); refine goesL_ (some 28) rfl rfl Tryd.func22 (by kernel_rfl) rfl #[.int .i64 (-1), .bool a1] rfl (by (try simp only [List.map_toArray, List.map_cons, List.map_nil]); first | done | rfl | (simp only [List.length_drop, List.length_take]; rfl)) ?_; (with_reducible refine (emulatorref10_size.calls (-1) a1 t271 _ A10.out).mono ?_); rintro e w' ⟨rfl, ⟨nd, rfl⟩⟩; refine ⟨_, rfl, ?_⟩))
          go_ret3
          exact ⟨by first | rfl | (simp; done) | (simp [*]; done), by repeat (first | exact Drawn0.refl _ | apply Drawn0.step)⟩
        · rw [if_neg c11] at H
          have c11b0 : (a0 == 12) = false := beq_eq_false_iff_ne.mpr c11
          have c11b1 : (a0 != 12) = true := bne_iff_ne.mpr c11
          by_cases c12 : a0 = 13
          · rw [if_pos c12] at H
            have c12b0 : (a0 == 13) = true := beq_iff_eq.mpr c12
            have c12b1 : (a0 != 13) = false := bne_eq_false_iff_eq.mpr c12
            clear c12
            replace H := Option.bind_eq_some_iff.mp H
            obtain ⟨t272, A130, H⟩ := H
            replace H : ((emulatorref01_Flags.f t272 a1).bind fun t273 => (some (t272, wrap64 (t273 + 1), true))) = some (r1, r2, r3) := H
            have A13 := Aside0.mk A130
            clear A130
            replace H := Option.bind_eq_some_iff.mp H
            obtain ⟨t273, A140, H⟩ := H
            replace H : (some (t272, wrap64 (t273 + 1), true)) = some (r1, r2, r3) := H
            have A14 := Aside0.mk A140
            clear A140
            simp only [Option.some.injEq, Prod.mk.injEq] at H
            obtain ⟨rfl, rfl, rfl⟩ := H
            go_wp2_with (first | ((with_reducible refine gate_callee (f := 22) rfl ?_); refine goesL_ (some 26) rfl rfl Tryd.func22 (by kernel_rfl) rfl #[.int .i64 a2, .bool a1] rfl (by (try simp only [List.map_toArray, List.map_cons, List.map_nil]); first | done | rfl | (simp only [List.length_drop, List.length_take]; rfl)) ?_; (with_reducible refine (emulatorref10_size.calls a2 a1 t270 _ A9.out).mono ?_); rintro e w' ⟨rfl, ⟨nd, rfl⟩⟩; refine ⟨_, rfl, ?_⟩) | ((with_reducible refine gate_callee (f := 22) rfl ?_); refine goesL_ (some 28) rfl rfl Tryd.func22 (by kernel_rfl) rfl #[.int .i64 (-1), .bool a1] rfl (by (try simp only [List.map_toArray, List.map_cons, List.map_nil]); first | done | rfl | (simp only [List.length_drop, List.length_take]; rfl)) ?_; (with_reducible refine (emulatorref10_size.calls (-1) a1 t271 _ A10.out).mono ?_); rintro e w' ⟨rfl, ⟨nd, rfl⟩⟩; refine ⟨_, rfl, ?_⟩) | ((with_reducible refine gate_callee (f := 22) rfl ?_); refine goesL_ (some 39) rfl rfl Tryd.func22 (by kernel_rfl) rfl #[.int .i64 (Go.bits .xor .i64 (-1) t270), .bool a1] rfl (by (try simp only [List.map_toArray, List.map_cons, List.map_nil]); first | done | rfl | (simp only [List.length_drop, List.length_take]; rfl)) ?_; (with_reducible refine (emulatorref10_size.calls (Go.bits .xor .i64 (-1) t270) a1 t272 _ A13.out).mono ?_); rintro e w' ⟨rfl, ⟨nd, rfl⟩⟩; refine ⟨_, rfl, ?_⟩) | ((with_reducible refine gate_callee (f := 25) rfl ?_); refine goesL_ (some 43) rfl rfl Tryd.func25 (by kernel_rfl) rfl #[.int .i64 t272, .bool a1] rfl (by (try simp only [List.map_toArray, List.map_cons, List.map_nil]); first | done | rfl | (simp only [List.length_drop, List.length_take]; rfl)) ?_; (with_reducible refine (emulatorref01_Flags.calls t272 a1 t273 _ A14.out).mono ?_); rintro e w' ⟨rfl, ⟨nd, rfl⟩⟩; refine ⟨_, rfl, ?_⟩))
            go_ret3
            exact ⟨by first | rfl | (simp; done) | (simp [*]; done), by repeat (first | exact Drawn0.refl _ | apply Drawn0.step)⟩
          · rw [if_neg c12] at H
            have c12b0 : (a0 == 13) = false := beq_eq_false_iff_ne.mpr c12
            have c12b1 : (a0 != 13) = true := bne_iff_ne.mpr c12
            by_cases c15 : a0 = 14
            · rw [if_pos c15] at H
              have c15b0 : (a0 == 14) = true := beq_iff_eq.mpr c15
              have c15b1 : (a0 != 14) = false := bne_eq_false_iff_eq.mpr c15
              clear c15
              replace H := Option.bind_eq_some_iff.mp H
              obtain ⟨⟨t274, t275⟩, A160, H⟩ := H
              replace H : (some (t274, wrap64 ((Go.bits .and .i64 t275 14) + (Go.bits .and .i64 a3 1)), true)) = some (r1, r2, r3) := H
              have A16 := Aside0.mk A160
              clear A160
              simp only [Option.some.injEq, Prod.mk.injEq] at H
              obtain ⟨rfl, rfl, rfl⟩ := H
              go_wp2_with (first | ((with_reducible refine gate_callee (f := 22) rfl ?_); refine goesL_ (some 26) rfl rfl Tryd.func22 (by kernel_rfl) rfl #[.int .i64 a2, .bool a1] rfl (by (try simp only [List.map_toArray, List.map_cons, List.map_nil]); first | done | rfl | (simp only [List.length_drop, List.length_take]; rfl)) ?_; (with_reducible refine (emulatorref10_size.calls a2 a1 t270 _ A9.out).mono ?_); rintro e w' ⟨rfl, ⟨nd, rfl⟩⟩; refine ⟨_, rfl, ?_⟩) | ((with_reducible refine gate_callee (f := 22) rfl ?_); refine goesL_ (some 28) rfl rfl Tryd.func22 (by kernel_rfl) rfl #[.int .i64 (-1), .bool a1] rfl (by (try simp only [List.map_toArray, List.map_cons, List.map_nil]); first | done | rfl | (simp only [List.length_drop, List.length_take]; rfl)) ?_; (with_reducible refine (emulatorref10_size.calls (-1) a1 t271 _ A10.out).mono ?_); rintro e w' ⟨rfl, ⟨nd, rfl⟩⟩; refine ⟨_, rfl, ?_⟩) | ((with_reducible refine gate_callee (f := 24) rfl ?_); refine goesL_ (some 50) rfl rfl Tryd.func24 (by kernel_rfl) rfl #[.int .i64 t270, .int .i64 1, .int .i64 0, .bool a1] rfl (by (try simp only [List.map_toArray, List.map_cons, List.map_nil]); first | done | rfl | (simp only [List.length_drop, List.length_take]; rfl)) ?_; (with_reducible refine (emulatorref01_Add.calls kj4 t270 1 0 a1 t274 t275 _ A16.out).mono ?_); rintro e w' ⟨rfl, ⟨nd, rfl⟩⟩; refine ⟨_, rfl, ?_⟩))
              go_ret3
              exact ⟨by first | rfl | (simp; done) | (simp [*]; done), by repeat (first | exact Drawn0.refl _ | apply Drawn0.step)⟩
            · rw [if_neg c15] at H
              have c15b0 : (a0 == 14) = false := beq_eq_false_iff_ne.mpr c15
              have c15b1 : (a0 != 14) = true := bne_iff_ne.mpr c15
              by_cases c17 : a0 = 15
              · rw [if_pos c17] at H
                have c17b0 : (a0 == 15) = true := beq_iff_eq.mpr c17
                have c17b1 : (a0 != 15) = false := bne_eq_false_iff_eq.mpr c17
                clear c17
                replace H := Option.bind_eq_some_iff.mp H
                obtain ⟨⟨t276, t277⟩, A180, H⟩ := H
                replace H : (some (t276, wrap64 ((Go.bits .and .i64 t277 14) + (Go.bits .and .i64 a3 1)), true)) = some (r1, r2, r3) := H
                have A18 := Aside0.mk A180
                clear A180
                simp only [Option.some.injEq, Prod.mk.injEq] at H
                obtain ⟨rfl, rfl, rfl⟩ := H
                go_wp2_with (first | ((with_reducible refine gate_callee (f := 22) rfl ?_); refine goesL_ (some 26) rfl rfl Tryd.func22 (by kernel_rfl) rfl #[.int .i64 a2, .bool a1] rfl (by (try simp only [List.map_toArray, List.map_cons, List.map_nil]); first | done | rfl | (simp only [List.length_drop, List.length_take]; rfl)) ?_; (with_reducible refine (emulatorref10_size.calls a2 a1 t270 _ A9.out).mono ?_); rintro e w' ⟨rfl, ⟨nd, rfl⟩⟩; refine ⟨_, rfl, ?_⟩) | ((with_reducible refine gate_callee (f := 22) rfl ?_); refine goesL_ (some 28) rfl rfl Tryd.func22 (by kernel_rfl) rfl #[.int .i64 (-1), .bool a1] rfl (by (try simp only [List.map_toArray, List.map_cons, List.map_nil]); first | done | rfl | (simp only [List.length_drop, List.length_take]; rfl)) ?_; (with_reducible refine (emulatorref10_size.calls (-1) a1 t271 _ A10.out).mono ?_); rintro e w' ⟨rfl, ⟨nd, rfl⟩⟩; refine ⟨_, rfl, ?_⟩) | ((with_reducible refine gate_callee (f := 23) rfl ?_); refine goesL_ (some 64) rfl rfl Tryd.func23 (by kernel_rfl) rfl #[.int .i64 t270, .int .i64 1, .int .i64 0, .bool a1] rfl (by (try simp only [List.map_toArray, List.map_cons, List.map_nil]); first | done | rfl | (simp only [List.length_drop, List.length_take]; rfl)) ?_; (with_reducible refine (emulatorref01_Sub.calls kj4 t270 1 0 a1 t276 t277 _ A18.out).mono ?_); rintro e w' ⟨rfl, ⟨nd, rfl⟩⟩; refine ⟨_, rfl, ?_⟩))
                go_ret3
                exact ⟨by first | rfl | (simp; done) | (simp [*]; done), by repeat (first | exact Drawn0.refl _ | apply Drawn0.step)⟩
              · rw [if_neg c17] at H
                have c17b0 : (a0 == 15) = false := beq_eq_false_iff_ne.mpr c17
                have c17b1 : (a0 != 15) = true := bne_iff_ne.mpr c17
                by_cases c19 : a0 = 16
                · rw [if_pos c19] at H
                  have c19b0 : (a0 == 16) = true := beq_iff_eq.mpr c19
                  have c19b1 : (a0 != 16) = false := bne_eq_false_iff_eq.mpr c19
                  clear c19
                  replace H := Option.bind_eq_some_iff.mp H
                  obtain ⟨⟨t278, t279⟩, A200, H⟩ := H
                  replace H : (some (t278, t279, true)) = some (r1, r2, r3) := H
                  have A20 := Aside0.mk A200
                  clear A200
                  simp only [Option.some.injEq, Prod.mk.injEq] at H
                  obtain ⟨rfl, rfl, rfl⟩ := H
                  go_wp2_with (first | ((with_reducible refine gate_callee (f := 22) rfl ?_); refine goesL_ (some 26) rfl rfl Tryd.func22 (by kernel_rfl) rfl #[.int .i64 a2, .bool a1] rfl (by (try simp only [List.map_toArray, List.map_cons, List.map_nil]); first | done | rfl | (simp only [List.length_drop, List.length_take]; rfl)) ?_; (with_reducible refine (emulatorref10_size.calls a2 a1 t270 _ A9.out).mono ?_); rintro e w' ⟨rfl, ⟨nd, rfl⟩⟩; refine ⟨_, rfl, ?_⟩) | ((with_reducible refine gate_callee (f := 22) rfl ?_); refine goesL_ (some 28) rfl rfl Tryd.func22 (by kernel_rfl) rfl #[.int .i64 (-1), .bool a1] rfl (by (try simp only [List.map_toArray, List.map_cons, List.map_nil]); first | done | rfl | (simp only [List.length_drop, List.length_take]; rfl)) ?_; (with_reducible refine (emulatorref10_size.calls (-1) a1 t271 _ A10.out).mono ?_); rintro e w' ⟨rfl, ⟨nd, rfl⟩⟩; refine ⟨_, rfl, ?_⟩) | ((with_reducible refine gate_callee (f := 23) rfl ?_); refine goesL_ (some 78) rfl rfl Tryd.func23 (by kernel_rfl) rfl #[.int .i64 0, .int .i64 t270, .int .i64 0, .bool a1] rfl (by (try simp only [List.map_toArray, List.map_cons, List.map_nil]); first | done | rfl | (simp only [List.length_drop, List.length_take]; rfl)) ?_; (with_reducible refine (emulatorref01_Sub.calls kj4 0 t270 0 a1 t278 t279 _ A20.out).mono ?_); rintro e w' ⟨rfl, ⟨nd, rfl⟩⟩; refine ⟨_, rfl, ?_⟩))
                  go_ret3
                  exact ⟨by first | rfl | (simp; done) | (simp [*]; done), by repeat (first | exact Drawn0.refl _ | apply Drawn0.step)⟩
                · rw [if_neg c19] at H
                  have c19b0 : (a0 == 16) = false := beq_eq_false_iff_ne.mpr c19
                  have c19b1 : (a0 != 16) = true := bne_iff_ne.mpr c19
                  by_cases c21 : a0 = 17
                  · rw [if_pos c21] at H
                    have c21b0 : (a0 == 17) = true := beq_iff_eq.mpr c21
                    have c21b1 : (a0 != 17) = false := bne_eq_false_iff_eq.mpr c21
                    clear c21
                    replace H := Option.bind_eq_some_iff.mp H
                    obtain ⟨⟨t280, t281⟩, A220, H⟩ := H
                    replace H : (some (t280, t281, true)) = some (r1, r2, r3) := H
                    have A22 := Aside0.mk A220
                    clear A220
                    simp only [Option.some.injEq, Prod.mk.injEq] at H
                    obtain ⟨rfl, rfl, rfl⟩ := H
                    go_wp2_with (first | ((with_reducible refine gate_callee (f := 22) rfl ?_); refine goesL_ (some 26) rfl rfl Tryd.func22 (by kernel_rfl) rfl #[.int .i64 a2, .bool a1] rfl (by (try simp only [List.map_toArray, List.map_cons, List.map_nil]); first | done | rfl | (simp only [List.length_drop, List.length_take]; rfl)) ?_; (with_reducible refine (emulatorref10_size.calls a2 a1 t270 _ A9.out).mono ?_); rintro e w' ⟨rfl, ⟨nd, rfl⟩⟩; refine ⟨_, rfl, ?_⟩) | ((with_reducible refine gate_callee (f := 22) rfl ?_); refine goesL_ (some 28) rfl rfl Tryd.func22 (by kernel_rfl) rfl #[.int .i64 (-1), .bool a1] rfl (by (try simp only [List.map_toArray, List.map_cons, List.map_nil]); first | done | rfl | (simp only [List.length_drop, List.length_take]; rfl)) ?_; (with_reducible refine (emulatorref10_size.calls (-1) a1 t271 _ A10.out).mono ?_); rintro e w' ⟨rfl, ⟨nd, rfl⟩⟩; refine ⟨_, rfl, ?_⟩) | ((with_reducible refine gate_callee (f := 24) rfl ?_); refine goesL_ (some 89) rfl rfl Tryd.func24 (by kernel_rfl) rfl #[.int .i64 t270, .int .i64 0, .int .i64 a3, .bool a1] rfl (by (try simp only [List.map_toArray, List.map_cons, List.map_nil]); first | done | rfl | (simp only [List.length_drop, List.length_take]; rfl)) ?_; (with_reducible refine (emulatorref01_Add.calls kj4 t270 0 a3 a1 t280 t281 _ A22.out).mono ?_); rintro e w' ⟨rfl, ⟨nd, rfl⟩⟩; refine ⟨_, rfl, ?_⟩))
                    go_ret3
                    exact ⟨by first | rfl | (simp; done) | (simp [*]; done), by repeat (first | exact Drawn0.refl _ | apply Drawn0.step)⟩
                  · rw [if_neg c21] at H
                    have c21b0 : (a0 == 17) = false := beq_eq_false_iff_ne.mpr c21
                    have c21b1 : (a0 != 17) = true := bne_iff_ne.mpr c21
                    by_cases c23 : a0 = 18
                    · rw [if_pos c23] at H
                      have c23b0 : (a0 == 18) = true := beq_iff_eq.mpr c23
                      have c23b1 : (a0 != 18) = false := bne_eq_false_iff_eq.mpr c23
                      clear c23
                      replace H := Option.bind_eq_some_iff.mp H
                      obtain ⟨⟨t282, t283⟩, A240, H⟩ := H
                      replace H : (some (t282, t283, true)) = some (r1, r2, r3) := H
                      have A24 := Aside0.mk A240
                      clear A240
                      simp only [Option.some.injEq, Prod.mk.injEq] at H
                      obtain ⟨rfl, rfl, rfl⟩ := H
                      go_wp2_with (first | ((with_reducible refine gate_callee (f := 22) rfl ?_); refine goesL_ (some 26) rfl rfl Tryd.func22 (by kernel_rfl) rfl #[.int .i64 a2, .bool a1] rfl (by (try simp only [List.map_toArray, List.map_cons, List.map_nil]); first | done | rfl | (simp only [List.length_drop, List.length_take]; rfl)) ?_; (with_reducible refine (emulatorref10_size.calls a2 a1 t270 _ A9.out).mono ?_); rintro e w' ⟨rfl, ⟨nd, rfl⟩⟩; refine ⟨_, rfl, ?_⟩) | ((with_reducible refine gate_callee (f := 22) rfl ?_); refine goesL_ (some 28) rfl rfl Tryd.func22 (by kernel_rfl) rfl #[.int .i64 (-1), .bool a1] rfl (by (try simp only [List.map_toArray, List.map_cons, List.map_nil]); first | done | rfl | (simp only [List.length_drop, List.length_take]; rfl)) ?_; (with_reducible refine (emulatorref10_size.calls (-1) a1 t271 _ A10.out).mono ?_); rintro e w' ⟨rfl, ⟨nd, rfl⟩⟩; refine ⟨_, rfl, ?_⟩) | ((with_reducible refine gate_callee (f := 23) rfl ?_); refine goesL_ (some 100) rfl rfl Tryd.func23 (by kernel_rfl) rfl #[.int .i64 t270, .int .i64 0, .int .i64 a3, .bool a1] rfl (by (try simp only [List.map_toArray, List.map_cons, List.map_nil]); first | done | rfl | (simp only [List.length_drop, List.length_take]; rfl)) ?_; (with_reducible refine (emulatorref01_Sub.calls kj4 t270 0 a3 a1 t282 t283 _ A24.out).mono ?_); rintro e w' ⟨rfl, ⟨nd, rfl⟩⟩; refine ⟨_, rfl, ?_⟩))
                      go_ret3
                      exact ⟨by first | rfl | (simp; done) | (simp [*]; done), by repeat (first | exact Drawn0.refl _ | apply Drawn0.step)⟩
                    · rw [if_neg c23] at H
                      have c23b0 : (a0 == 18) = false := beq_eq_false_iff_ne.mpr c23
                      have c23b1 : (a0 != 18) = true := bne_iff_ne.mpr c23
                      by_cases c25 : a0 = 19
                      · rw [if_pos c25] at H
                        have c25b0 : (a0 == 19) = true := beq_iff_eq.mpr c25
                        have c25b1 : (a0 != 19) = false := bne_eq_false_iff_eq.mpr c25
                        clear c25
                        replace H := Option.bind_eq_some_iff.mp H
                        obtain ⟨t284, A260, H⟩ := H
                        replace H : (some (t270, t284, false)) = some (r1, r2, r3) := H
                        have A26 := Aside0.mk A260
                        clear A260
                        simp only [Option.some.injEq, Prod.mk.injEq] at H
                        obtain ⟨rfl, rfl, rfl⟩ := H
                        go_wp2_with (first | ((with_reducible refine gate_callee (f := 22) rfl ?_); refine goesL_ (some 26) rfl rfl Tryd.func22 (by kernel_rfl) rfl #[.int .i64 a2, .bool a1] rfl (by (try simp only [List.map_toArray, List.map_cons, List.map_nil]); first | done | rfl | (simp only [List.length_drop, List.length_take]; rfl)) ?_; (with_reducible refine (emulatorref10_size.calls a2 a1 t270 _ A9.out).mono ?_); rintro e w' ⟨rfl, ⟨nd, rfl⟩⟩; refine ⟨_, rfl, ?_⟩) | ((with_reducible refine gate_callee (f := 22) rfl ?_); refine goesL_ (some 28) rfl rfl Tryd.func22 (by kernel_rfl) rfl #[.int .i64 (-1), .bool a1] rfl (by (try simp only [List.map_toArray, List.map_cons, List.map_nil]); first | done | rfl | (simp only [List.length_drop, List.length_take]; rfl)) ?_; (with_reducible refine (emulatorref10_size.calls (-1) a1 t271 _ A10.out).mono ?_); rintro e w' ⟨rfl, ⟨nd, rfl⟩⟩; refine ⟨_, rfl, ?_⟩) | ((with_reducible refine gate_callee (f := 25) rfl ?_); refine goesL_ (some 110) rfl rfl Tryd.func25 (by kernel_rfl) rfl #[.int .i64 t270, .bool a1] rfl (by (try simp only [List.map_toArray, List.map_cons, List.map_nil]); first | done | rfl | (simp only [List.length_drop, List.length_take]; rfl)) ?_; (with_reducible refine (emulatorref01_Flags.calls t270 a1 t284 _ A26.out).mono ?_); rintro e w' ⟨rfl, ⟨nd, rfl⟩⟩; refine ⟨_, rfl, ?_⟩))
                        go_ret3
                        exact ⟨by first | rfl | (simp; done) | (simp [*]; done), by repeat (first | exact Drawn0.refl _ | apply Drawn0.step)⟩
                      · rw [if_neg c25] at H
                        have c25b0 : (a0 == 19) = false := beq_eq_false_iff_ne.mpr c25
                        have c25b1 : (a0 != 19) = true := bne_iff_ne.mpr c25
                        by_cases c27 : a0 = 20
                        · rw [if_pos c27] at H
                          have c27b0 : (a0 == 20) = true := beq_iff_eq.mpr c27
                          have c27b1 : (a0 != 20) = false := bne_eq_false_iff_eq.mpr c27
                          clear c27
                          replace H := Option.bind_eq_some_iff.mp H
                          obtain ⟨⟨t285, t286⟩, A280, H⟩ := H
                          replace H : (some (t285, t286, true)) = some (r1, r2, r3) := H
                          have A28 := Aside0.mk A280
                          clear A280
                          simp only [Option.some.injEq, Prod.mk.injEq] at H
                          obtain ⟨rfl, rfl, rfl⟩ := H
                          go_wp2_with (first | ((with_reducible refine gate_callee (f := 22) rfl ?_); refine goesL_ (some 26) rfl rfl Tryd.func22 (by kernel_rfl) rfl #[.int .i64 a2, .bool a1] rfl (by (try simp only [List.map_toArray, List.map_cons, List.map_nil]); first | done | rfl | (simp only [List.length_drop, List.length_take]; rfl)) ?_; (with_reducible refine (emulatorref10_size.calls a2 a1 t270 _ A9.out).mono ?_); rintro e w' ⟨rfl, ⟨nd, rfl⟩⟩; refine ⟨_, rfl, ?_⟩) | ((with_reducible refine gate_callee (f := 22) rfl ?_); refine goesL_ (some 28) rfl rfl Tryd.func22 (by kernel_rfl) rfl #[.int .i64 (-1), .bool a1] rfl (by (try simp only [List.map_toArray, List.map_cons, List.map_nil]); first | done | rfl | (simp only [List.length_drop, List.length_take]; rfl)) ?_; (with_reducible refine (emulatorref10_size.calls (-1) a1 t271 _ A10.out).mono ?_); rintro e w' ⟨rfl, ⟨nd, rfl⟩⟩; refine ⟨_, rfl, ?_⟩) | ((with_reducible refine gate_callee (f := 33) rfl ?_); refine goesL_ (some 117) rfl rfl Tryd.func33 (by kernel_rfl) rfl #[.int .i64 t270, .int .i64 a3, .bool false, .bool a1] rfl (by (try simp only [List.map_toArray, List.map_cons, List.map_nil]); first | done | rfl | (simp only [List.length_drop, List.length_take]; rfl)) ?_; (with_reducible refine (emulatorref01_Rotate.calls kj4 t270 a3 false a1 t285 t286 _ A28.out).mono ?_); rintro e w' ⟨rfl, ⟨nd, rfl⟩⟩; refine ⟨_, rfl, ?_⟩))
                          go_ret3
                          exact ⟨by first | rfl | (simp; done) | (simp [*]; done), by repeat (first | exact Drawn0.refl _ | apply Drawn0.step)⟩
                        · rw [if_neg c27] at H
                          have c27b0 : (a0 == 20) = false := beq_eq_false_iff_ne.mpr c27
                          have c27b1 : (a0 != 20) = true := bne_iff_ne.mpr c27
                          by_cases c29 : a0 = 21
                          · rw [if_pos c29] at H
                            have c29b0 : (a0 == 21) = true := beq_iff_eq.mpr c29
                            have c29b1 : (a0 != 21) = false := bne_eq_false_iff_eq.mpr c29
                            clear c29
                            replace H := Option.bind_eq_some_iff.mp H
                            obtain ⟨⟨t287, t288⟩, A300, H⟩ := H
                            replace H : (some (t287, t288, true)) = some (r1, r2, r3) := H
                            have A30 := Aside0.mk A300
                            clear A300
                            simp only [Option.some.injEq, Prod.mk.injEq] at H
                            obtain ⟨rfl, rfl, rfl⟩ := H
                            go_wp2_with (first | ((with_reducible refine gate_callee (f := 22) rfl ?_); refine goesL_ (some 26) rfl rfl Tryd.func22 (by kernel_rfl) rfl #[.int .i64 a2, .bool a1] rfl (by (try simp only [List.map_toArray, List.map_cons, List.map_nil]); first | done | rfl | (simp only [List.length_drop, List.length_take]; rfl)) ?_; (with_reducible refine (emulatorref10_size.calls a2 a1 t270 _ A9.out).mono ?_); rintro e w' ⟨rfl, ⟨nd, rfl⟩⟩; refine ⟨_, rfl, ?_⟩) | ((with_reducible refine gate_callee (f := 22) rfl ?_); refine goesL_ (some 28) rfl rfl Tryd.func22 (by kernel_rfl) rfl #[.int .i64 (-1), .bool a1] rfl (by (try simp only [List.map_toArray, List.map_cons, List.map_nil]); first | done | rfl | (simp only [List.length_drop, List.length_take]; rfl)) ?_; (with_reducible refine (emulatorref10_size.calls (-1) a1 t271 _ A10.out).mono ?_); rintro e w' ⟨rfl, ⟨nd, rfl⟩⟩; refine ⟨_, rfl, ?_⟩) | ((with_reducible refine gate_callee (f := 33) rfl ?_); refine goesL_ (some 128) rfl rfl Tryd.func33 (by kernel_rfl) rfl #[.int .i64 t270, .int .i64 a3, .bool true, .bool a1] rfl (by (try simp only [List.map_toArray, List.map_cons, List.map_nil]); first | done | rfl | (simp only [List.length_drop, List.length_take]; rfl)) ?_; (with_reducible refine (emulatorref01_Rotate.calls kj4 t270 a3 true a1 t287 t288 _ A30.out).mono ?_); rintro e w' ⟨rfl, ⟨nd, rfl⟩⟩; refine ⟨_, rfl, ?_⟩))
                            go_ret3
                            exact ⟨by first | rfl | (simp; done) | (simp [*]; done), by repeat (first | exact Drawn0.refl _ | apply Drawn0.step)⟩
                          · rw [if_neg c29] at H
                            have c29b0 : (a0 == 21) = false := beq_eq_false_iff_ne.mpr c29
                            have c29b1 : (a0 != 21) = true := bne_iff_ne.mpr c29
                            by_cases c31 : a0 = 22
                            · rw [if_pos c31] at H
                              have c31b0 : (a0 == 22) = true := beq_iff_eq.mpr c31
                              have c31b1 : (a0 != 22) = false := bne_eq_false_iff_eq.mpr c31
                              clear c31
                              replace H := Option.bind_eq_some_iff.mp H
                              obtain ⟨t289, A320, H⟩ := H
                              replace H : (some (wrap64 ((wrap64 (Int.tdiv t270 2)) + (Go.bits .and .i64 t270 (wrap64 ((wrap64 (Int.tdiv t271 2)) + 1)))), t289, true)) = some (r1, r2, r3) := H
                              have A32 := Aside0.mk A320
                              clear A320
                              simp only [Option.some.injEq, Prod.mk.injEq] at H
                              obtain ⟨rfl, rfl, rfl⟩ := H
                              go_wp2_with (first | ((with_reducible refine gate_callee (f := 22) rfl ?_); refine goesL_ (some 26) rfl rfl Tryd.func22 (by kernel_rfl) rfl #[.int .i64 a2, .bool a1] rfl (by (try simp only [List.map_toArray, List.map_cons, List.map_nil]); first | done | rfl | (simp only [List.length_drop, List.length_take]; rfl)) ?_; (with_reducible refine (emulatorref10_size.calls a2 a1 t270 _ A9.out).mono ?_); rintro e w' ⟨rfl, ⟨nd, rfl⟩⟩; refine ⟨_, rfl, ?_⟩) | ((with_reducible refine gate_callee (f := 22) rfl ?_); refine goesL_ (some 28) rfl rfl Tryd.func22 (by kernel_rfl) rfl #[.int .i64 (-1), .bool a1] rfl (by (try simp only [List.map_toArray, List.map_cons, List.map_nil]); first | done | rfl | (simp only [List.length_drop, List.length_take]; rfl)) ?_; (with_reducible refine (emulatorref10_size.calls (-1) a1 t271 _ A10.out).mono ?_); rintro e w' ⟨rfl, ⟨nd, rfl⟩⟩; refine ⟨_, rfl, ?_⟩) | ((with_reducible refine gate_callee (f := 34) rfl ?_); refine goesL_ (some 146) rfl rfl Tryd.func34 (by kernel_rfl) rfl #[.int .i64 (wrap64 ((wrap64 (Int.tdiv t270 2)) + (Go.bits .and .i64 t270 (wrap64 ((wrap64 (Int.tdiv t271 2)) + 1))))), .int .i64 (Go.bits .and .i64 t270 1), .bool a1] rfl (by (try simp only [List.map_toArray, List.map_cons, List.map_nil]); first | done | rfl | (simp only [List.length_drop, List.length_take]; rfl)) ?_; (with_reducible refine (emulatorref10_moved.calls (wrap64 ((wrap64 (Int.tdiv t270 2)) + (Go.bits .and .i64 t270 (wrap64 ((wrap64 (Int.tdiv t271 2)) + 1))))) (Go.bits .and .i64 t270 1) a1 t289 _ A32.out).mono ?_); rintro e w' ⟨rfl, ⟨nd, rfl⟩⟩; refine ⟨_, rfl, ?_⟩))
                              go_ret3
                              exact ⟨by first | rfl | (simp; done) | (simp [*]; done), by repeat (first | exact Drawn0.refl _ | apply Drawn0.step)⟩
                            · rw [if_neg c31] at H
                              have c31b0 : (a0 == 22) = false := beq_eq_false_iff_ne.mpr c31
                              have c31b1 : (a0 != 22) = true := bne_iff_ne.mpr c31
                              by_cases c33 : a0 = 23
                              · rw [if_pos c33] at H
                                have c33b0 : (a0 == 23) = true := beq_iff_eq.mpr c33
                                have c33b1 : (a0 != 23) = false := bne_eq_false_iff_eq.mpr c33
                                clear c33
                                replace H := Option.bind_eq_some_iff.mp H
                                obtain ⟨t290, A340, H⟩ := H
                                replace H : (if (wrap64 ((wrap64 (Int.tdiv t271 2)) + 1)) = 0 then (none) else ((emulatorref10_moved.f t290 (wrap64 (Int.tdiv t270 (wrap64 ((wrap64 (Int.tdiv t271 2)) + 1)))) a1).bind fun t291 => (some (t290, t291, true)))) = some (r1, r2, r3) := H
                                have A34 := Aside0.mk A340
                                clear A340
                                by_cases c35 : (wrap64 ((wrap64 (Int.tdiv t271 2)) + 1)) = 0
                                · rw [if_pos c35] at H
                                  exact absurd H (by simp)
                                · rw [if_neg c35] at H
                                  have c35b0 : ((wrap64 ((wrap64 (Int.tdiv t271 2)) + 1)) == 0) = false := beq_eq_false_iff_ne.mpr c35
                                  have c35b1 : ((wrap64 ((wrap64 (Int.tdiv t271 2)) + 1)) != 0) = true := bne_iff_ne.mpr c35
                                  replace H := Option.bind_eq_some_iff.mp H
                                  obtain ⟨t291, A360, H⟩ := H
                                  replace H : (some (t290, t291, true)) = some (r1, r2, r3) := H
                                  have A36 := Aside0.mk A360
                                  clear A360
                                  simp only [Option.some.injEq, Prod.mk.injEq] at H
                                  obtain ⟨rfl, rfl, rfl⟩ := H
                                  go_wp2_with (first | ((with_reducible refine gate_callee (f := 22) rfl ?_); refine goesL_ (some 26) rfl rfl Tryd.func22 (by kernel_rfl) rfl #[.int .i64 a2, .bool a1] rfl (by (try simp only [List.map_toArray, List.map_cons, List.map_nil]); first | done | rfl | (simp only [List.length_drop, List.length_take]; rfl)) ?_; (with_reducible refine (emulatorref10_size.calls a2 a1 t270 _ A9.out).mono ?_); rintro e w' ⟨rfl, ⟨nd, rfl⟩⟩; refine ⟨_, rfl, ?_⟩) | ((with_reducible refine gate_callee (f := 22) rfl ?_); refine goesL_ (some 28) rfl rfl Tryd.func22 (by kernel_rfl) rfl #[.int .i64 (-1), .bool a1] rfl (by (try simp only [List.map_toArray, List.map_cons, List.map_nil]); first | done | rfl | (simp only [List.length_drop, List.length_take]; rfl)) ?_; (with_reducible refine (emulatorref10_size.calls (-1) a1 t271 _ A10.out).mono ?_); rintro e w' ⟨rfl, ⟨nd, rfl⟩⟩; refine ⟨_, rfl, ?_⟩) | ((with_reducible refine gate_callee (f := 22) rfl ?_); refine goesL_ (some 152) rfl rfl Tryd.func22 (by kernel_rfl) rfl #[.int .i64 (wrap64 (2 * t270)), .bool a1] rfl (by (try simp only [List.map_toArray, List.map_cons, List.map_nil]); first | done | rfl | (simp only [List.length_drop, List.length_take]; rfl)) ?_; (with_reducible refine (emulatorref10_size.calls (wrap64 (2 * t270)) a1 t290 _ A34.out).mono ?_); rintro e w' ⟨rfl, ⟨nd, rfl⟩⟩; refine ⟨_, rfl, ?_⟩) | ((with_reducible refine gate_callee (f := 34) rfl ?_); refine goesL_ (some 159) rfl rfl Tryd.func34 (by kernel_rfl) rfl #[.int .i64 t290, .int .i64 (wrap64 (Int.tdiv t270 (wrap64 ((wrap64 (Int.tdiv t271 2)) + 1)))), .bool a1] rfl (by (try simp only [List.map_toArray, List.map_cons, List.map_nil]); first | done | rfl | (simp only [List.length_drop, List.length_take]; rfl)) ?_; (with_reducible refine (emulatorref10_moved.calls t290 (wrap64 (Int.tdiv t270 (wrap64 ((wrap64 (Int.tdiv t271 2)) + 1)))) a1 t291 _ A36.out).mono ?_); rintro e w' ⟨rfl, ⟨nd, rfl⟩⟩; refine ⟨_, rfl, ?_⟩))
                                  go_ret3
                                  exact ⟨by first | rfl | (simp; done) | (simp [*]; done), by repeat (first | exact Drawn0.refl _ | apply Drawn0.step)⟩
                              · rw [if_neg c33] at H
                                have c33b0 : (a0 == 23) = false := beq_eq_false_iff_ne.mpr c33
                                have c33b1 : (a0 != 23) = true := bne_iff_ne.mpr c33
                                by_cases c37 : a0 = 24
                                · rw [if_pos c37] at H
                                  have c37b0 : (a0 == 24) = true := beq_iff_eq.mpr c37
                                  have c37b1 : (a0 != 24) = false := bne_eq_false_iff_eq.mpr c37
                                  clear c37
                                  replace H := Option.bind_eq_some_iff.mp H
                                  obtain ⟨t292, A380, H⟩ := H
                                  replace H : (some (wrap64 ((wrap64 ((Go.bits .and .i64 t270 255) * 256)) + (wrap64 (Int.tdiv t270 256))), t292, true)) = some (r1, r2, r3) := H
                                  have A38 := Aside0.mk A380
                                  clear A380
                                  simp only [Option.some.injEq, Prod.mk.injEq] at H
                                  obtain ⟨rfl, rfl, rfl⟩ := H
                                  go_wp2_with (first | ((with_reducible refine gate_callee (f := 22) rfl ?_); refine goesL_ (some 26) rfl rfl Tryd.func22 (by kernel_rfl) rfl #[.int .i64 a2, .bool a1] rfl (by (try simp only [List.map_toArray, List.map_cons, List.map_nil]); first | done | rfl | (simp only [List.length_drop, List.length_take]; rfl)) ?_; (with_reducible refine (emulatorref10_size.calls a2 a1 t270 _ A9.out).mono ?_); rintro e w' ⟨rfl, ⟨nd, rfl⟩⟩; refine ⟨_, rfl, ?_⟩) | ((with_reducible refine gate_callee (f := 22) rfl ?_); refine goesL_ (some 28) rfl rfl Tryd.func22 (by kernel_rfl) rfl #[.int .i64 (-1), .bool a1] rfl (by (try simp only [List.map_toArray, List.map_cons, List.map_nil]); first | done | rfl | (simp only [List.length_drop, List.length_take]; rfl)) ?_; (with_reducible refine (emulatorref10_size.calls (-1) a1 t271 _ A10.out).mono ?_); rintro e w' ⟨rfl, ⟨nd, rfl⟩⟩; refine ⟨_, rfl, ?_⟩) | ((with_reducible refine gate_callee (f := 25) rfl ?_); refine goesL_ (some 170) rfl rfl Tryd.func25 (by kernel_rfl) rfl #[.int .i64 (wrap64 ((wrap64 ((Go.bits .and .i64 t270 255) * 256)) + (wrap64 (Int.tdiv t270 256)))), .bool true] rfl (by (try simp only [List.map_toArray, List.map_cons, List.map_nil]); first | done | rfl | (simp only [List.length_drop, List.length_take]; rfl)) ?_; (with_reducible refine (emulatorref01_Flags.calls (wrap64 ((wrap64 ((Go.bits .and .i64 t270 255) * 256)) + (wrap64 (Int.tdiv t270 256)))) true t292 _ A38.out).mono ?_); rintro e w' ⟨rfl, ⟨nd, rfl⟩⟩; refine ⟨_, rfl, ?_⟩))
                                  go_ret3
                                  exact ⟨by first | rfl | (simp; done) | (simp [*]; done), by repeat (first | exact Drawn0.refl _ | apply Drawn0.step)⟩
                                · rw [if_neg c37] at H
                                  have c37b0 : (a0 == 24) = false := beq_eq_false_iff_ne.mpr c37
                                  have c37b1 : (a0 != 24) = true := bne_iff_ne.mpr c37
                                  by_cases c39 : a0 = 25
                                  · rw [if_pos c39] at H
                                    have c39b0 : (a0 == 25) = true := beq_iff_eq.mpr c39
                                    have c39b1 : (a0 != 25) = false := bne_eq_false_iff_eq.mpr c39
                                    clear c39
                                    by_cases c40 : (Go.bits .and .i64 a3 8) = 0
                                    · rw [if_pos c40] at H
                                      have c40b0 : ((Go.bits .and .i64 a3 8) == 0) = true := beq_iff_eq.mpr c40
                                      have c40b1 : ((Go.bits .and .i64 a3 8) != 0) = false := bne_eq_false_iff_eq.mpr c40
                                      clear c40
                                      simp only [Option.some.injEq, Prod.mk.injEq] at H
                                      obtain ⟨rfl, rfl, rfl⟩ := H
                                      go_wp2_with (first | ((with_reducible refine gate_callee (f := 22) rfl ?_); refine goesL_ (some 26) rfl rfl Tryd.func22 (by kernel_rfl) rfl #[.int .i64 a2, .bool a1] rfl (by (try simp only [List.map_toArray, List.map_cons, List.map_nil]); first | done | rfl | (simp only [List.length_drop, List.length_take]; rfl)) ?_; (with_reducible refine (emulatorref10_size.calls a2 a1 t270 _ A9.out).mono ?_); rintro e w' ⟨rfl, ⟨nd, rfl⟩⟩; refine ⟨_, rfl, ?_⟩) | ((with_reducible refine gate_callee (f := 22) rfl ?_); refine goesL_ (some 28) rfl rfl Tryd.func22 (by kernel_rfl) rfl #[.int .i64 (-1), .bool a1] rfl (by (try simp only [List.map_toArray, List.map_cons, List.map_nil]); first | done | rfl | (simp only [List.length_drop, List.length_take]; rfl)) ?_; (with_reducible refine (emulatorref10_size.calls (-1) a1 t271 _ A10.out).mono ?_); rintro e w' ⟨rfl, ⟨nd, rfl⟩⟩; refine ⟨_, rfl, ?_⟩))
                                      go_ret3
                                      exact ⟨by first | rfl | (simp; done) | (simp [*]; done), by repeat (first | exact Drawn0.refl _ | apply Drawn0.step)⟩
                                    · rw [if_neg c40] at H
                                      have c40b0 : ((Go.bits .and .i64 a3 8) == 0) = false := beq_eq_false_iff_ne.mpr c40
                                      have c40b1 : ((Go.bits .and .i64 a3 8) != 0) = true := bne_iff_ne.mpr c40
                                      simp only [Option.some.injEq, Prod.mk.injEq] at H
                                      obtain ⟨rfl, rfl, rfl⟩ := H
                                      go_wp2_with (first | ((with_reducible refine gate_callee (f := 22) rfl ?_); refine goesL_ (some 26) rfl rfl Tryd.func22 (by kernel_rfl) rfl #[.int .i64 a2, .bool a1] rfl (by (try simp only [List.map_toArray, List.map_cons, List.map_nil]); first | done | rfl | (simp only [List.length_drop, List.length_take]; rfl)) ?_; (with_reducible refine (emulatorref10_size.calls a2 a1 t270 _ A9.out).mono ?_); rintro e w' ⟨rfl, ⟨nd, rfl⟩⟩; refine ⟨_, rfl, ?_⟩) | ((with_reducible refine gate_callee (f := 22) rfl ?_); refine goesL_ (some 28) rfl rfl Tryd.func22 (by kernel_rfl) rfl #[.int .i64 (-1), .bool a1] rfl (by (try simp only [List.map_toArray, List.map_cons, List.map_nil]); first | done | rfl | (simp only [List.length_drop, List.length_take]; rfl)) ?_; (with_reducible refine (emulatorref10_size.calls (-1) a1 t271 _ A10.out).mono ?_); rintro e w' ⟨rfl, ⟨nd, rfl⟩⟩; refine ⟨_, rfl, ?_⟩))
                                      go_ret3
                                      exact ⟨by first | rfl | (simp; done) | (simp [*]; done), by repeat (first | exact Drawn0.refl _ | apply Drawn0.step)⟩
                                  · rw [if_neg c39] at H
                                    have c39b0 : (a0 == 25) = false := beq_eq_false_iff_ne.mpr c39
                                    have c39b1 : (a0 != 25) = true := bne_iff_ne.mpr c39
                                    simp only [Option.some.injEq, Prod.mk.injEq] at H
                                    obtain ⟨rfl, rfl, rfl⟩ := H
                                    go_wp2_with (first | ((with_reducible refine gate_callee (f := 22) rfl ?_); refine goesL_ (some 26) rfl rfl Tryd.func22 (by kernel_rfl) rfl #[.int .i64 a2, .bool a1] rfl (by (try simp only [List.map_toArray, List.map_cons, List.map_nil]); first | done | rfl | (simp only [List.length_drop, List.length_take]; rfl)) ?_; (with_reducible refine (emulatorref10_size.calls a2 a1 t270 _ A9.out).mono ?_); rintro e w' ⟨rfl, ⟨nd, rfl⟩⟩; refine ⟨_, rfl, ?_⟩) | ((with_reducible refine gate_callee (f := 22) rfl ?_); refine goesL_ (some 28) rfl rfl Tryd.func22 (by kernel_rfl) rfl #[.int .i64 (-1), .bool a1] rfl (by (try simp only [List.map_toArray, List.map_cons, List.map_nil]); first | done | rfl | (simp only [List.length_drop, List.length_take]; rfl)) ?_; (with_reducible refine (emulatorref10_size.calls (-1) a1 t271 _ A10.out).mono ?_); rintro e w' ⟨rfl, ⟨nd, rfl⟩⟩; refine ⟨_, rfl, ?_⟩))
                                    go_ret3
                                    exact ⟨by first | rfl | (simp; done) | (simp [*]; done), by repeat (first | exact Drawn0.refl _ | apply Drawn0.step)⟩

end Go.Proofs.YtfeflghimnbhiaaDoor.A
