-- Written by a program of this session (mp.py) over the kit's print.py, with proofs by hand for what the print does not take.
import Derived.Test.YtiodpkkigjfkgaaDoorAx0
import Derived.Test.YtiodpkkigjfkgaaDoorAx3
namespace Go.Proofs.YtiodpkkigjfkgaaDoor.A
open Go.RowKit Go.Proofs.YtiodpkkigjfkgaaDoorW.PrintWords Go.Proofs.YtiodpkkigjfkgaaDoorW.PrintLast Go.Proofs.YtiodpkkigjfkgaaDoorW.PrintMore
attribute [local go_sem] max2_int min2_int max_two min_two max_three min_three max_four min_four   -- for this text's walks alone
set_option linter.unusedVariables false
set_option linter.unusedSimpArgs false

/-! ### emulatorref01_Rotate: function 23 -/
def emulatorref01_Rotate.j0 : Nat → Bool → Int → Int → Option (Int × Int)
  | 0, _, _, _ => none
  | k + 1, x3, x11, x12 => (emulatorref01_Flags.f x11 x3).bind fun t237 => ((emulatorref01_sign.f x11 x3).bind fun t238 => (if t238 = x12 then (some (x11, wrap64 (t237 + x12))) else (some (x11, wrap64 ((wrap64 (t237 + x12)) + 2)))))
def emulatorref01_Rotate.f (k : Nat) (a0 : Int) (a1 : Int) (a2 : Bool) (a3 : Bool) : Option (Int × Int) := (emulatorref01_mask.f a3).bind fun t235 => (if a2 = true then ((emulatorref01_sign.f (Go.bits .and .i64 a0 t235) a3).bind fun t236 => (emulatorref01_Rotate.j0 k a3 (Go.bits .and .i64 (wrap64 ((wrap64 (2 * (Go.bits .and .i64 a0 t235))) + (Go.bits .and .i64 a1 1))) t235) t236)) else (emulatorref01_Rotate.j0 k a3 (wrap64 ((wrap64 (Int.tdiv (Go.bits .and .i64 a0 t235) 2)) + (wrap64 ((wrap64 ((wrap64 (Int.tdiv t235 2)) + 1)) * (Go.bits .and .i64 a1 1))))) (Go.bits .and .i64 (Go.bits .and .i64 a0 t235) 1)))
theorem emulatorref01_Rotate.mono_l : ∀ k, (∀ y0 y1 y2, LeO (emulatorref01_Rotate.j0 k y0 y1 y2) (emulatorref01_Rotate.j0 (k + 1) y0 y1 y2))
  | 0 => fun _ _ _ r h => by simp [emulatorref01_Rotate.j0] at h
  | k + 1 => by
    have ih0 := emulatorref01_Rotate.mono_l k
    · intro y0 y1 y2
      unfold emulatorref01_Rotate.j0
      repeat' first
      | (with_reducible exact ih0 _ _ _)
      | (with_reducible exact LeO.refl _)
      | (with_reducible exact LeO.none _)
      | (with_reducible refine LeO.ite ?_ ?_)
      | (with_reducible refine LeO.bind ?_ (fun _ => ?_))
      | exact ih0 _ _ _
      | exact LeO.none _
      | refine LeO.ite ?_ ?_
      | refine LeO.bind ?_ (fun _ => ?_)
theorem emulatorref01_Rotate.mono : ∀ a0 a1 a2 a3 k, LeO (emulatorref01_Rotate.f k a0 a1 a2 a3) (emulatorref01_Rotate.f (k + 1) a0 a1 a2 a3) := by
  intro a0 a1 a2 a3 k
  have ih0 := emulatorref01_Rotate.mono_l k
  unfold emulatorref01_Rotate.f
  repeat' first
      | (with_reducible exact ih0 _ _ _)
      | (with_reducible exact LeO.refl _)
      | (with_reducible exact LeO.none _)
      | (with_reducible refine LeO.ite ?_ ?_)
      | (with_reducible refine LeO.bind ?_ (fun _ => ?_))
      | exact ih0 _ _ _
      | exact LeO.none _
      | refine LeO.ite ?_ ?_
      | refine LeO.bind ?_ (fun _ => ?_)
set_option maxHeartbeats 8000000 in
set_option maxRecDepth 100000 in
theorem emulatorref01_Rotate.calls (k : Nat) (a0 : Int) (a1 : Int) (a2 : Bool) (a3 : Bool) (r1 : Int) (r2 : Int) (w : World) (h : emulatorref01_Rotate.f k a0 a1 a2 a3 = some (r1, r2)) :
    Calls Tryd.prog 23 #[.int .i64 a0, .int .i64 a1, .bool a2, .bool a3] w fun e w' => e = .returned (.tuple #[.int .i64 r1, .int .i64 r2]) ∧ Drawn0 w w' := by
  have H : ((emulatorref01_mask.f a3).bind fun t235 => (if a2 = true then ((emulatorref01_sign.f (Go.bits .and .i64 a0 t235) a3).bind fun t236 => (emulatorref01_Rotate.j0 k a3 (Go.bits .and .i64 (wrap64 ((wrap64 (2 * (Go.bits .and .i64 a0 t235))) + (Go.bits .and .i64 a1 1))) t235) t236)) else (emulatorref01_Rotate.j0 k a3 (wrap64 ((wrap64 (Int.tdiv (Go.bits .and .i64 a0 t235) 2)) + (wrap64 ((wrap64 ((wrap64 (Int.tdiv t235 2)) + 1)) * (Go.bits .and .i64 a1 1))))) (Go.bits .and .i64 (Go.bits .and .i64 a0 t235) 1)))) = some (r1, r2) := h
  clear h
  replace H := Option.bind_eq_some_iff.mp H
  obtain ⟨t235, A50, H⟩ := H
  replace H : (if a2 = true then ((emulatorref01_sign.f (Go.bits .and .i64 a0 t235) a3).bind fun t236 => (emulatorref01_Rotate.j0 k a3 (Go.bits .and .i64 (wrap64 ((wrap64 (2 * (Go.bits .and .i64 a0 t235))) + (Go.bits .and .i64 a1 1))) t235) t236)) else (emulatorref01_Rotate.j0 k a3 (wrap64 ((wrap64 (Int.tdiv (Go.bits .and .i64 a0 t235) 2)) + (wrap64 ((wrap64 ((wrap64 (Int.tdiv t235 2)) + 1)) * (Go.bits .and .i64 a1 1))))) (Go.bits .and .i64 (Go.bits .and .i64 a0 t235) 1))) = some (r1, r2) := H
  have A5 := Aside0.mk A50
  clear A50
  have HC6 := Aside0.mk H
  clear H
  go_enter Tryd.func23, Tryd.ntmps23
  go_upto_if 19 with (first | ((with_reducible refine gate_callee (f := 35) rfl ?_); refine goesL_ (some 15) rfl rfl Tryd.func35 (by kernel_rfl) rfl #[.bool a3] rfl (by (try simp only [List.map_toArray, List.map_cons, List.map_nil]); first | done | rfl | (simp only [List.length_drop, List.length_take]; rfl)) ?_; (with_reducible refine (emulatorref01_mask.calls a3 t235 _ A5.out).mono ?_); rintro e w' ⟨rfl, ⟨nd, rfl⟩⟩; refine ⟨_, rfl, ?_⟩))
  (try simp only [Act.put, List.setIfInBounds_toArray, List.set_cons_zero, List.set_cons_succ])
  go_cut [11, 12] (fun v11 v12 wc => ∃ (kq : Nat) (x11_5 : Int) (x12_5 : Int), v11 = .int .i64 x11_5 ∧ v12 = .int .i64 x12_5 ∧ Aside0 (emulatorref01_Rotate.j0 kq a3 x11_5 x12_5 = some (r1, r2)) ∧ Aside0 (kq ≤ k) ∧ Drawn0 w wc)
  case first =>
    have H := HC6.out
    clear HC6
    by_cases c7 : a2 = true
    · subst c7
      have H1 : ((emulatorref01_sign.f (Go.bits .and .i64 a0 t235) a3).bind fun t236 => (emulatorref01_Rotate.j0 k a3 (Go.bits .and .i64 (wrap64 ((wrap64 (2 * (Go.bits .and .i64 a0 t235))) + (Go.bits .and .i64 a1 1))) t235) t236)) = some (r1, r2) := by rw [if_pos rfl] at H; exact H
      clear H
      have H := H1
      clear H1
      replace H := Option.bind_eq_some_iff.mp H
      obtain ⟨t236, A80, H⟩ := H
      replace H : (emulatorref01_Rotate.j0 k a3 (Go.bits .and .i64 (wrap64 ((wrap64 (2 * (Go.bits .and .i64 a0 t235))) + (Go.bits .and .i64 a1 1))) t235) t236) = some (r1, r2) := H
      have A8 := Aside0.mk A80
      clear A80
      have H' := Aside0.mk H
      clear H
      go_wp2_with (first | ((with_reducible refine gate_callee (f := 36) rfl ?_); refine goesL_ (some 22) rfl rfl Tryd.func36 (by kernel_rfl) rfl #[.int .i64 (Go.bits .and .i64 a0 t235), .bool a3] rfl (by (try simp only [List.map_toArray, List.map_cons, List.map_nil]); first | done | rfl | (simp only [List.length_drop, List.length_take]; rfl)) ?_; (with_reducible refine (emulatorref01_sign.calls (Go.bits .and .i64 a0 t235) a3 t236 _ A8.out).mono ?_); rintro e w' ⟨rfl, ⟨nd, rfl⟩⟩; refine ⟨_, rfl, ?_⟩))
      go_meet
      case rel => exact ⟨_, (Go.bits .and .i64 (wrap64 ((wrap64 (2 * (Go.bits .and .i64 a0 t235))) + (Go.bits .and .i64 a1 1))) t235), (t236), (by first | rfl | (simp; done) | (simp [*]; done)), (by first | rfl | (simp; done) | (simp [*]; done)), H', ⟨by first | omega | exact Nat.le_refl _⟩, by repeat (first | exact Drawn0.refl _ | apply Drawn0.step)⟩
    · replace c7 := Bool.eq_false_iff.mpr c7
      subst c7
      have H1 : (emulatorref01_Rotate.j0 k a3 (wrap64 ((wrap64 (Int.tdiv (Go.bits .and .i64 a0 t235) 2)) + (wrap64 ((wrap64 ((wrap64 (Int.tdiv t235 2)) + 1)) * (Go.bits .and .i64 a1 1))))) (Go.bits .and .i64 (Go.bits .and .i64 a0 t235) 1)) = some (r1, r2) := by rw [if_neg (show ¬ (false = true) by decide)] at H; exact H
      clear H
      have H := H1
      clear H1
      have H' := Aside0.mk H
      clear H
      go_wp2
      go_meet
      case rel => exact ⟨_, (wrap64 ((wrap64 (Int.tdiv (Go.bits .and .i64 a0 t235) 2)) + (wrap64 ((wrap64 ((wrap64 (Int.tdiv t235 2)) + 1)) * (Go.bits .and .i64 a1 1))))), (Go.bits .and .i64 (Go.bits .and .i64 a0 t235) 1), (by first | rfl | (simp; done) | (simp [*]; done)), (by first | rfl | (simp; done) | (simp [*]; done)), H', ⟨by first | omega | exact Nat.le_refl _⟩, by repeat (first | exact Drawn0.refl _ | apply Drawn0.step)⟩
  case rest =>
    clear HC6
    try clear c2
    try clear p2
    try clear c3
    try clear p6
    try clear c7
    obtain ⟨kq, x11_5, x12_5, rfl, rfl, HA, HJ5, ⟨mc5, rfl⟩⟩ := hcut
    cases kq with
    | zero => exact absurd HA.out (by simp [emulatorref01_Rotate.j0])
    | succ kj5 =>
      have H := HA.out
      clear HA
      simp only [emulatorref01_Rotate.j0] at H
      replace H := Option.bind_eq_some_iff.mp H
      obtain ⟨t237, A90, H⟩ := H
      replace H : ((emulatorref01_sign.f x11_5 a3).bind fun t238 => (if t238 = x12_5 then (some (x11_5, wrap64 (t237 + x12_5))) else (some (x11_5, wrap64 ((wrap64 (t237 + x12_5)) + 2))))) = some (r1, r2) := H
      have A9 := Aside0.mk A90
      clear A90
      replace H := Option.bind_eq_some_iff.mp H
      obtain ⟨t238, A100, H⟩ := H
      replace H : (if t238 = x12_5 then (some (x11_5, wrap64 (t237 + x12_5))) else (some (x11_5, wrap64 ((wrap64 (t237 + x12_5)) + 2)))) = some (r1, r2) := H
      have A10 := Aside0.mk A100
      clear A100
      by_cases c11 : t238 = x12_5
      · rw [if_pos c11] at H
        have c11b0 : (t238 == x12_5) = true := beq_iff_eq.mpr c11
        have c11b1 : (t238 != x12_5) = false := bne_eq_false_iff_eq.mpr c11
        clear c11
        simp only [Option.some.injEq, Prod.mk.injEq] at H
        obtain ⟨rfl, rfl⟩ := H
        go_wp2_with (first | ((with_reducible refine gate_callee (f := 32) rfl ?_); refine goesL_ (some 43) rfl rfl Tryd.func32 (by kernel_rfl) rfl #[.int .i64 x11_5, .bool a3] rfl (by (try simp only [List.map_toArray, List.map_cons, List.map_nil]); first | done | rfl | (simp only [List.length_drop, List.length_take]; rfl)) ?_; (with_reducible refine (emulatorref01_Flags.calls x11_5 a3 t237 _ A9.out).mono ?_); rintro e w' ⟨rfl, ⟨nd, rfl⟩⟩; refine ⟨_, rfl, ?_⟩) | ((with_reducible refine gate_callee (f := 36) rfl ?_); refine goesL_ (some 48) rfl rfl Tryd.func36 (by kernel_rfl) rfl #[.int .i64 x11_5, .bool a3] rfl (by (try simp only [List.map_toArray, List.map_cons, List.map_nil]); first | done | rfl | (simp only [List.length_drop, List.length_take]; rfl)) ?_; (with_reducible refine (emulatorref01_sign.calls x11_5 a3 t238 _ A10.out).mono ?_); rintro e w' ⟨rfl, ⟨nd, rfl⟩⟩; refine ⟨_, rfl, ?_⟩))
        go_ret2
        exact ⟨by first | rfl | (simp; done) | (simp [*]; done), by repeat (first | exact Drawn0.refl _ | apply Drawn0.step)⟩
      · rw [if_neg c11] at H
        have c11b0 : (t238 == x12_5) = false := beq_eq_false_iff_ne.mpr c11
        have c11b1 : (t238 != x12_5) = true := bne_iff_ne.mpr c11
        simp only [Option.some.injEq, Prod.mk.injEq] at H
        obtain ⟨rfl, rfl⟩ := H
        go_wp2_with (first | ((with_reducible refine gate_callee (f := 32) rfl ?_); refine goesL_ (some 43) rfl rfl Tryd.func32 (by kernel_rfl) rfl #[.int .i64 x11_5, .bool a3] rfl (by (try simp only [List.map_toArray, List.map_cons, List.map_nil]); first | done | rfl | (simp only [List.length_drop, List.length_take]; rfl)) ?_; (with_reducible refine (emulatorref01_Flags.calls x11_5 a3 t237 _ A9.out).mono ?_); rintro e w' ⟨rfl, ⟨nd, rfl⟩⟩; refine ⟨_, rfl, ?_⟩) | ((with_reducible refine gate_callee (f := 36) rfl ?_); refine goesL_ (some 48) rfl rfl Tryd.func36 (by kernel_rfl) rfl #[.int .i64 x11_5, .bool a3] rfl (by (try simp only [List.map_toArray, List.map_cons, List.map_nil]); first | done | rfl | (simp only [List.length_drop, List.length_take]; rfl)) ?_; (with_reducible refine (emulatorref01_sign.calls x11_5 a3 t238 _ A10.out).mono ?_); rintro e w' ⟨rfl, ⟨nd, rfl⟩⟩; refine ⟨_, rfl, ?_⟩))
        go_ret2
        exact ⟨by first | rfl | (simp; done) | (simp [*]; done), by repeat (first | exact Drawn0.refl _ | apply Drawn0.step)⟩

end Go.Proofs.YtiodpkkigjfkgaaDoor.A
