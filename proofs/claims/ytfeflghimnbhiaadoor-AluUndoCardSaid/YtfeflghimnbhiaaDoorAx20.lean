-- Written by a program of this session (mp.py) over the kit's print.py, with proofs by hand for what the print does not take.
import Derived.Test.YtfeflghimnbhiaaDoorAx0
import Derived.Test.YtfeflghimnbhiaaDoorAx5
import Derived.Test.YtfeflghimnbhiaaDoorAx18
namespace Go.Proofs.YtfeflghimnbhiaaDoor.A
open Go.RowKit Go.Proofs.YtfeflghimnbhiaaDoorW.PrintWords Go.Proofs.YtfeflghimnbhiaaDoorW.PrintLast Go.Proofs.YtfeflghimnbhiaaDoorW.PrintMore
attribute [local go_sem] max2_int min2_int max_two min_two max_three min_three max_four min_four   -- for this text's walks alone
set_option linter.unusedVariables false
set_option linter.unusedSimpArgs false

/-! ### emulatorref01_Div: function 39 -/
def emulatorref01_Div.j0 : Nat → Int → Int → Int → Bool → Option (Int × Int × Int × Bool)
  | 0, _, _, _, _ => none
  | k + 1, x10, x11, x12, x31 => if x31 = true then (some (0, 0, 2, false)) else ((emulatorref01_Wrap.f x12).bind fun t317 => ((emulatorref01_Wrap.f (wrap64 (x10 - (wrap64 (x12 * x11))))).bind fun t318 => ((emulatorref01_Flags.f x12 false).bind fun t319 => (some (t317, t318, t319, true)))))
def emulatorref01_Div.f (k : Nat) (a0 : Int) (a1 : Int) (a2 : Int) : Option (Int × Int × Int × Bool) := (emulatorref01_Signed.f a0).bind fun t314 => ((emulatorref01_Wrap.f a1).bind fun t315 => ((emulatorref01_Signed.f a2).bind fun t316 => (if t316 = 0 then (some (0, 0, 3, false)) else (if (wrap64 (Int.tdiv (wrap64 ((wrap64 (t314 * 65536)) + t315)) t316)) < (-32768) then (emulatorref01_Div.j0 k (wrap64 ((wrap64 (t314 * 65536)) + t315)) t316 (wrap64 (Int.tdiv (wrap64 ((wrap64 (t314 * 65536)) + t315)) t316)) true) else (emulatorref01_Div.j0 k (wrap64 ((wrap64 (t314 * 65536)) + t315)) t316 (wrap64 (Int.tdiv (wrap64 ((wrap64 (t314 * 65536)) + t315)) t316)) (decide ((wrap64 (Int.tdiv (wrap64 ((wrap64 (t314 * 65536)) + t315)) t316)) > 32767)))))))
theorem emulatorref01_Div.mono_l : ∀ k, (∀ y0 y1 y2 y3, LeO (emulatorref01_Div.j0 k y0 y1 y2 y3) (emulatorref01_Div.j0 (k + 1) y0 y1 y2 y3))
  | 0 => fun _ _ _ _ r h => by simp [emulatorref01_Div.j0] at h
  | k + 1 => by
    have ih0 := emulatorref01_Div.mono_l k
    · intro y0 y1 y2 y3
      unfold emulatorref01_Div.j0
      repeat' first
      | (with_reducible exact ih0 _ _ _ _)
      | (with_reducible exact LeO.refl _)
      | (with_reducible exact LeO.none _)
      | (with_reducible refine LeO.ite ?_ ?_)
      | (with_reducible refine LeO.bind ?_ (fun _ => ?_))
      | exact ih0 _ _ _ _
      | exact LeO.none _
      | refine LeO.ite ?_ ?_
      | refine LeO.bind ?_ (fun _ => ?_)
theorem emulatorref01_Div.mono : ∀ a0 a1 a2 k, LeO (emulatorref01_Div.f k a0 a1 a2) (emulatorref01_Div.f (k + 1) a0 a1 a2) := by
  intro a0 a1 a2 k
  have ih0 := emulatorref01_Div.mono_l k
  unfold emulatorref01_Div.f
  repeat' first
      | (with_reducible exact ih0 _ _ _ _)
      | (with_reducible exact LeO.refl _)
      | (with_reducible exact LeO.none _)
      | (with_reducible refine LeO.ite ?_ ?_)
      | (with_reducible refine LeO.bind ?_ (fun _ => ?_))
      | exact ih0 _ _ _ _
      | exact LeO.none _
      | refine LeO.ite ?_ ?_
      | refine LeO.bind ?_ (fun _ => ?_)
set_option maxHeartbeats 8000000 in
set_option maxRecDepth 100000 in
theorem emulatorref01_Div.calls (k : Nat) (a0 : Int) (a1 : Int) (a2 : Int) (r1 : Int) (r2 : Int) (r3 : Int) (r4 : Bool) (w : World) (h : emulatorref01_Div.f k a0 a1 a2 = some (r1, r2, r3, r4)) :
    Calls Tryd.prog 39 #[.int .i64 a0, .int .i64 a1, .int .i64 a2] w fun e w' => e = .returned (.tuple #[.int .i64 r1, .int .i64 r2, .int .i64 r3, .bool r4]) ∧ Drawn0 w w' := by
  have H : ((emulatorref01_Signed.f a0).bind fun t314 => ((emulatorref01_Wrap.f a1).bind fun t315 => ((emulatorref01_Signed.f a2).bind fun t316 => (if t316 = 0 then (some (0, 0, 3, false)) else (if (wrap64 (Int.tdiv (wrap64 ((wrap64 (t314 * 65536)) + t315)) t316)) < (-32768) then (emulatorref01_Div.j0 k (wrap64 ((wrap64 (t314 * 65536)) + t315)) t316 (wrap64 (Int.tdiv (wrap64 ((wrap64 (t314 * 65536)) + t315)) t316)) true) else (emulatorref01_Div.j0 k (wrap64 ((wrap64 (t314 * 65536)) + t315)) t316 (wrap64 (Int.tdiv (wrap64 ((wrap64 (t314 * 65536)) + t315)) t316)) (decide ((wrap64 (Int.tdiv (wrap64 ((wrap64 (t314 * 65536)) + t315)) t316)) > 32767)))))))) = some (r1, r2, r3, r4) := h
  clear h
  replace H := Option.bind_eq_some_iff.mp H
  obtain ⟨t314, A40, H⟩ := H
  replace H : ((emulatorref01_Wrap.f a1).bind fun t315 => ((emulatorref01_Signed.f a2).bind fun t316 => (if t316 = 0 then (some (0, 0, 3, false)) else (if (wrap64 (Int.tdiv (wrap64 ((wrap64 (t314 * 65536)) + t315)) t316)) < (-32768) then (emulatorref01_Div.j0 k (wrap64 ((wrap64 (t314 * 65536)) + t315)) t316 (wrap64 (Int.tdiv (wrap64 ((wrap64 (t314 * 65536)) + t315)) t316)) true) else (emulatorref01_Div.j0 k (wrap64 ((wrap64 (t314 * 65536)) + t315)) t316 (wrap64 (Int.tdiv (wrap64 ((wrap64 (t314 * 65536)) + t315)) t316)) (decide ((wrap64 (Int.tdiv (wrap64 ((wrap64 (t314 * 65536)) + t315)) t316)) > 32767))))))) = some (r1, r2, r3, r4) := H
  have A4 := Aside0.mk A40
  clear A40
  replace H := Option.bind_eq_some_iff.mp H
  obtain ⟨t315, A50, H⟩ := H
  replace H : ((emulatorref01_Signed.f a2).bind fun t316 => (if t316 = 0 then (some (0, 0, 3, false)) else (if (wrap64 (Int.tdiv (wrap64 ((wrap64 (t314 * 65536)) + t315)) t316)) < (-32768) then (emulatorref01_Div.j0 k (wrap64 ((wrap64 (t314 * 65536)) + t315)) t316 (wrap64 (Int.tdiv (wrap64 ((wrap64 (t314 * 65536)) + t315)) t316)) true) else (emulatorref01_Div.j0 k (wrap64 ((wrap64 (t314 * 65536)) + t315)) t316 (wrap64 (Int.tdiv (wrap64 ((wrap64 (t314 * 65536)) + t315)) t316)) (decide ((wrap64 (Int.tdiv (wrap64 ((wrap64 (t314 * 65536)) + t315)) t316)) > 32767)))))) = some (r1, r2, r3, r4) := H
  have A5 := Aside0.mk A50
  clear A50
  replace H := Option.bind_eq_some_iff.mp H
  obtain ⟨t316, A60, H⟩ := H
  replace H : (if t316 = 0 then (some (0, 0, 3, false)) else (if (wrap64 (Int.tdiv (wrap64 ((wrap64 (t314 * 65536)) + t315)) t316)) < (-32768) then (emulatorref01_Div.j0 k (wrap64 ((wrap64 (t314 * 65536)) + t315)) t316 (wrap64 (Int.tdiv (wrap64 ((wrap64 (t314 * 65536)) + t315)) t316)) true) else (emulatorref01_Div.j0 k (wrap64 ((wrap64 (t314 * 65536)) + t315)) t316 (wrap64 (Int.tdiv (wrap64 ((wrap64 (t314 * 65536)) + t315)) t316)) (decide ((wrap64 (Int.tdiv (wrap64 ((wrap64 (t314 * 65536)) + t315)) t316)) > 32767))))) = some (r1, r2, r3, r4) := H
  have A6 := Aside0.mk A60
  clear A60
  by_cases c7 : t316 = 0
  · rw [if_pos c7] at H
    have c7b0 : (t316 == 0) = true := beq_iff_eq.mpr c7
    have c7b1 : (t316 != 0) = false := bne_eq_false_iff_eq.mpr c7
    clear c7
    simp only [Option.some.injEq, Prod.mk.injEq] at H
    obtain ⟨rfl, rfl, rfl, rfl⟩ := H
    go_enter Tryd.func39, Tryd.ntmps39
    go_wp2_with (first | ((with_reducible refine gate_callee (f := 47) rfl ?_); refine goesL_ (some 14) rfl rfl Tryd.func47 (by kernel_rfl) rfl #[.int .i64 a0] rfl (by (try simp only [List.map_toArray, List.map_cons, List.map_nil]); first | done | rfl | (simp only [List.length_drop, List.length_take]; rfl)) ?_; (with_reducible refine (emulatorref01_Signed.calls a0 t314 _ A4.out).mono ?_); rintro e w' ⟨rfl, ⟨nd, rfl⟩⟩; refine ⟨_, rfl, ?_⟩) | ((with_reducible refine gate_callee (f := 48) rfl ?_); refine goesL_ (some 17) rfl rfl Tryd.func48 (by kernel_rfl) rfl #[.int .i64 a1] rfl (by (try simp only [List.map_toArray, List.map_cons, List.map_nil]); first | done | rfl | (simp only [List.length_drop, List.length_take]; rfl)) ?_; (with_reducible refine (emulatorref01_Wrap.calls a1 t315 _ A5.out).mono ?_); rintro e w' ⟨rfl, ⟨nd, rfl⟩⟩; refine ⟨_, rfl, ?_⟩) | ((with_reducible refine gate_callee (f := 47) rfl ?_); refine goesL_ (some 20) rfl rfl Tryd.func47 (by kernel_rfl) rfl #[.int .i64 a2] rfl (by (try simp only [List.map_toArray, List.map_cons, List.map_nil]); first | done | rfl | (simp only [List.length_drop, List.length_take]; rfl)) ?_; (with_reducible refine (emulatorref01_Signed.calls a2 t316 _ A6.out).mono ?_); rintro e w' ⟨rfl, ⟨nd, rfl⟩⟩; refine ⟨_, rfl, ?_⟩))
    refine bodyPost_ret (results_list (rs := [.tmp 6, .tmp 7, .tmp 8, .tmp 9]) rfl (by simp) (.tmp (.tmp (.tmp (.tmp .nil))))) rfl ?_
    exact ⟨by first | rfl | (simp; done) | (simp [*]; done), by repeat (first | exact Drawn0.refl _ | apply Drawn0.step)⟩
  · rw [if_neg c7] at H
    have c7b0 : (t316 == 0) = false := beq_eq_false_iff_ne.mpr c7
    have c7b1 : (t316 != 0) = true := bne_iff_ne.mpr c7
    have HC8 := Aside0.mk H
    clear H
    go_enter Tryd.func39, Tryd.ntmps39
    go_upto_region 6 with (first | ((with_reducible refine gate_callee (f := 47) rfl ?_); refine goesL_ (some 14) rfl rfl Tryd.func47 (by kernel_rfl) rfl #[.int .i64 a0] rfl (by (try simp only [List.map_toArray, List.map_cons, List.map_nil]); first | done | rfl | (simp only [List.length_drop, List.length_take]; rfl)) ?_; (with_reducible refine (emulatorref01_Signed.calls a0 t314 _ A4.out).mono ?_); rintro e w' ⟨rfl, ⟨nd, rfl⟩⟩; refine ⟨_, rfl, ?_⟩) | ((with_reducible refine gate_callee (f := 48) rfl ?_); refine goesL_ (some 17) rfl rfl Tryd.func48 (by kernel_rfl) rfl #[.int .i64 a1] rfl (by (try simp only [List.map_toArray, List.map_cons, List.map_nil]); first | done | rfl | (simp only [List.length_drop, List.length_take]; rfl)) ?_; (with_reducible refine (emulatorref01_Wrap.calls a1 t315 _ A5.out).mono ?_); rintro e w' ⟨rfl, ⟨nd, rfl⟩⟩; refine ⟨_, rfl, ?_⟩) | ((with_reducible refine gate_callee (f := 47) rfl ?_); refine goesL_ (some 20) rfl rfl Tryd.func47 (by kernel_rfl) rfl #[.int .i64 a2] rfl (by (try simp only [List.map_toArray, List.map_cons, List.map_nil]); first | done | rfl | (simp only [List.length_drop, List.length_take]; rfl)) ?_; (with_reducible refine (emulatorref01_Signed.calls a2 t316 _ A6.out).mono ?_); rintro e w' ⟨rfl, ⟨nd, rfl⟩⟩; refine ⟨_, rfl, ?_⟩))
    (try simp only [Act.put, List.setIfInBounds_toArray, List.set_cons_zero, List.set_cons_succ])
    go_cut [31] (fun v31 wc => ∃ (kq : Nat) (x31_7 : Bool), v31 = .bool x31_7 ∧ Aside0 (emulatorref01_Div.j0 kq (wrap64 ((wrap64 (t314 * 65536)) + t315)) t316 (wrap64 (Int.tdiv (wrap64 ((wrap64 (t314 * 65536)) + t315)) t316)) x31_7 = some (r1, r2, r3, r4)) ∧ Aside0 (kq ≤ k) ∧ Drawn0 w wc)
    case first =>
      have H := HC8.out
      clear HC8
      by_cases c9 : (wrap64 (Int.tdiv (wrap64 ((wrap64 (t314 * 65536)) + t315)) t316)) < (-32768)
      · rw [if_pos c9] at H
        have c9b0 : decide ((wrap64 (Int.tdiv (wrap64 ((wrap64 (t314 * 65536)) + t315)) t316)) < (-32768)) = true := decide_eq_true c9
        clear c9
        (first | rw [c9b0] | (simp only [i64_w, i32_w]; rw [c9b0]) | skip)
        have H' := Aside0.mk H
        clear H
        go_wp2
        go_meet
        case rel => exact ⟨_, (true), (by first | rfl | (simp; done) | (simp [*]; done)), H', ⟨by first | omega | exact Nat.le_refl _⟩, by repeat (first | exact Drawn0.refl _ | apply Drawn0.step)⟩
      · rw [if_neg c9] at H
        have c9b0 : decide ((wrap64 (Int.tdiv (wrap64 ((wrap64 (t314 * 65536)) + t315)) t316)) < (-32768)) = false := decide_eq_false c9
        clear c9
        (first | rw [c9b0] | (simp only [i64_w, i32_w]; rw [c9b0]) | skip)
        have H' := Aside0.mk H
        clear H
        go_wp2
        go_meet
        case rel => exact ⟨_, (decide ((wrap64 (Int.tdiv (wrap64 ((wrap64 (t314 * 65536)) + t315)) t316)) > 32767)), (by first | rfl | (simp; done) | (simp [*]; done)), H', ⟨by first | omega | exact Nat.le_refl _⟩, by repeat (first | exact Drawn0.refl _ | apply Drawn0.step)⟩
    case rest =>
      clear HC8
      try clear p2
      try clear c3
      try clear c4
      try clear p6
      try clear c7
      try clear c7b0
      try clear c7b1
      try clear c9
      try clear c9b0
      obtain ⟨kq, x31_7, rfl, HA, HJ7, ⟨mc7, rfl⟩⟩ := hcut
      cases kq with
      | zero => exact absurd HA.out (by simp [emulatorref01_Div.j0])
      | succ kj7 =>
        have H := HA.out
        clear HA
        simp only [emulatorref01_Div.j0] at H
        by_cases c10 : x31_7 = true
        · subst c10
          have H1 : (some (0, 0, 2, false)) = some (r1, r2, r3, r4) := by rw [if_pos rfl] at H; exact H
          clear H
          have H := H1
          clear H1
          simp only [Option.some.injEq, Prod.mk.injEq] at H
          obtain ⟨rfl, rfl, rfl, rfl⟩ := H
          go_wp2
          refine bodyPost_ret (results_list (rs := [.tmp 6, .tmp 7, .tmp 8, .tmp 9]) rfl (by simp) (.tmp (.tmp (.tmp (.tmp .nil))))) rfl ?_
          exact ⟨by first | rfl | (simp; done) | (simp [*]; done), by repeat (first | exact Drawn0.refl _ | apply Drawn0.step)⟩
        · replace c10 := Bool.eq_false_iff.mpr c10
          subst c10
          have H1 : ((emulatorref01_Wrap.f (wrap64 (Int.tdiv (wrap64 ((wrap64 (t314 * 65536)) + t315)) t316))).bind fun t317 => ((emulatorref01_Wrap.f (wrap64 ((wrap64 ((wrap64 (t314 * 65536)) + t315)) - (wrap64 ((wrap64 (Int.tdiv (wrap64 ((wrap64 (t314 * 65536)) + t315)) t316)) * t316))))).bind fun t318 => ((emulatorref01_Flags.f (wrap64 (Int.tdiv (wrap64 ((wrap64 (t314 * 65536)) + t315)) t316)) false).bind fun t319 => (some (t317, t318, t319, true))))) = some (r1, r2, r3, r4) := by rw [if_neg (show ¬ (false = true) by decide)] at H; exact H
          clear H
          have H := H1
          clear H1
          replace H := Option.bind_eq_some_iff.mp H
          obtain ⟨t317, A110, H⟩ := H
          replace H : ((emulatorref01_Wrap.f (wrap64 ((wrap64 ((wrap64 (t314 * 65536)) + t315)) - (wrap64 ((wrap64 (Int.tdiv (wrap64 ((wrap64 (t314 * 65536)) + t315)) t316)) * t316))))).bind fun t318 => ((emulatorref01_Flags.f (wrap64 (Int.tdiv (wrap64 ((wrap64 (t314 * 65536)) + t315)) t316)) false).bind fun t319 => (some (t317, t318, t319, true)))) = some (r1, r2, r3, r4) := H
          have A11 := Aside0.mk A110
          clear A110
          replace H := Option.bind_eq_some_iff.mp H
          obtain ⟨t318, A120, H⟩ := H
          replace H : ((emulatorref01_Flags.f (wrap64 (Int.tdiv (wrap64 ((wrap64 (t314 * 65536)) + t315)) t316)) false).bind fun t319 => (some (t317, t318, t319, true))) = some (r1, r2, r3, r4) := H
          have A12 := Aside0.mk A120
          clear A120
          replace H := Option.bind_eq_some_iff.mp H
          obtain ⟨t319, A130, H⟩ := H
          replace H : (some (t317, t318, t319, true)) = some (r1, r2, r3, r4) := H
          have A13 := Aside0.mk A130
          clear A130
          simp only [Option.some.injEq, Prod.mk.injEq] at H
          obtain ⟨rfl, rfl, rfl, rfl⟩ := H
          go_wp2_with (first | ((with_reducible refine gate_callee (f := 48) rfl ?_); refine goesL_ (some 33) rfl rfl Tryd.func48 (by kernel_rfl) rfl #[.int .i64 (wrap64 (Int.tdiv (wrap64 ((wrap64 (t314 * 65536)) + t315)) t316))] rfl (by (try simp only [List.map_toArray, List.map_cons, List.map_nil]); first | done | rfl | (simp only [List.length_drop, List.length_take]; rfl)) ?_; (with_reducible refine (emulatorref01_Wrap.calls (wrap64 (Int.tdiv (wrap64 ((wrap64 (t314 * 65536)) + t315)) t316)) t317 _ A11.out).mono ?_); rintro e w' ⟨rfl, ⟨nd, rfl⟩⟩; refine ⟨_, rfl, ?_⟩) | ((with_reducible refine gate_callee (f := 48) rfl ?_); refine goesL_ (some 39) rfl rfl Tryd.func48 (by kernel_rfl) rfl #[.int .i64 (wrap64 ((wrap64 ((wrap64 (t314 * 65536)) + t315)) - (wrap64 ((wrap64 (Int.tdiv (wrap64 ((wrap64 (t314 * 65536)) + t315)) t316)) * t316))))] rfl (by (try simp only [List.map_toArray, List.map_cons, List.map_nil]); first | done | rfl | (simp only [List.length_drop, List.length_take]; rfl)) ?_; (with_reducible refine (emulatorref01_Wrap.calls (wrap64 ((wrap64 ((wrap64 (t314 * 65536)) + t315)) - (wrap64 ((wrap64 (Int.tdiv (wrap64 ((wrap64 (t314 * 65536)) + t315)) t316)) * t316)))) t318 _ A12.out).mono ?_); rintro e w' ⟨rfl, ⟨nd, rfl⟩⟩; refine ⟨_, rfl, ?_⟩) | ((with_reducible refine gate_callee (f := 25) rfl ?_); refine goesL_ (some 41) rfl rfl Tryd.func25 (by kernel_rfl) rfl #[.int .i64 (wrap64 (Int.tdiv (wrap64 ((wrap64 (t314 * 65536)) + t315)) t316)), .bool false] rfl (by (try simp only [List.map_toArray, List.map_cons, List.map_nil]); first | done | rfl | (simp only [List.length_drop, List.length_take]; rfl)) ?_; (with_reducible refine (emulatorref01_Flags.calls (wrap64 (Int.tdiv (wrap64 ((wrap64 (t314 * 65536)) + t315)) t316)) false t319 _ A13.out).mono ?_); rintro e w' ⟨rfl, ⟨nd, rfl⟩⟩; refine ⟨_, rfl, ?_⟩))
          refine bodyPost_ret (results_list (rs := [.tmp 6, .tmp 7, .tmp 8, .tmp 9]) rfl (by simp) (.tmp (.tmp (.tmp (.tmp .nil))))) rfl ?_
          exact ⟨by first | rfl | (simp; done) | (simp [*]; done), by repeat (first | exact Drawn0.refl _ | apply Drawn0.step)⟩

end Go.Proofs.YtfeflghimnbhiaaDoor.A
