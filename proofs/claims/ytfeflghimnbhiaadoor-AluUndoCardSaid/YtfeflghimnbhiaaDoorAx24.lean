-- Written by a program of this session (mp.py) over the kit's print.py, with proofs by hand for what the print does not take.
import Derived.Test.YtfeflghimnbhiaaDoorAx0
import Derived.Test.YtfeflghimnbhiaaDoorAx4
import Derived.Test.YtfeflghimnbhiaaDoorAx10
import Derived.Test.YtfeflghimnbhiaaDoorAx13
namespace Go.Proofs.YtfeflghimnbhiaaDoor.A
open Go.RowKit Go.Proofs.YtfeflghimnbhiaaDoorW.PrintWords Go.Proofs.YtfeflghimnbhiaaDoorW.PrintLast Go.Proofs.YtfeflghimnbhiaaDoorW.PrintMore
attribute [local go_sem] max2_int min2_int max_two min_two max_three min_three max_four min_four   -- for this text's walks alone
set_option linter.unusedVariables false
set_option linter.unusedSimpArgs false

/-! ### emulatorlaw10_AluCompares: function 8 -/
mutual
def emulatorlaw10_AluCompares.j0 : Nat → Int → Int → Int → Bool → Int → Option (Bool)
  | 0, _, _, _, _, _ => none
  | k + 1, x0, x1, x2, x3, x9 => (alu_Double.f 2 x3 x0 x1 x2).bind fun bt350 => (if bt350.2.2 = true then (emulatorlaw10_AluCompares.j1 k bt350.2.1 (Go.bits .and .i64 (wrap64 ((wrap64 ((Go.bits .and .i64 x0 x9) + (wrap64 (Int.tdiv x9 2)))) + 1)) x9) (Go.bits .and .i64 (wrap64 ((wrap64 ((Go.bits .and .i64 x1 x9) + (wrap64 (Int.tdiv x9 2)))) + 1)) x9) true) else ((alu_Taken.f 40 bt350.2.1).bind fun t353 => (if (t353 != (decide ((Go.bits .and .i64 x0 x9) < (Go.bits .and .i64 x1 x9)))) = true then (emulatorlaw10_AluCompares.j1 k bt350.2.1 (Go.bits .and .i64 (wrap64 ((wrap64 ((Go.bits .and .i64 x0 x9) + (wrap64 (Int.tdiv x9 2)))) + 1)) x9) (Go.bits .and .i64 (wrap64 ((wrap64 ((Go.bits .and .i64 x1 x9) + (wrap64 (Int.tdiv x9 2)))) + 1)) x9) true) else ((alu_Taken.f 36 bt350.2.1).bind fun t354 => (if (t354 != (decide ((Go.bits .and .i64 x0 x9) ≤ (Go.bits .and .i64 x1 x9)))) = true then (emulatorlaw10_AluCompares.j1 k bt350.2.1 (Go.bits .and .i64 (wrap64 ((wrap64 ((Go.bits .and .i64 x0 x9) + (wrap64 (Int.tdiv x9 2)))) + 1)) x9) (Go.bits .and .i64 (wrap64 ((wrap64 ((Go.bits .and .i64 x1 x9) + (wrap64 (Int.tdiv x9 2)))) + 1)) x9) true) else ((alu_Taken.f 28 bt350.2.1).bind fun t355 => (emulatorlaw10_AluCompares.j1 k bt350.2.1 (Go.bits .and .i64 (wrap64 ((wrap64 ((Go.bits .and .i64 x0 x9) + (wrap64 (Int.tdiv x9 2)))) + 1)) x9) (Go.bits .and .i64 (wrap64 ((wrap64 ((Go.bits .and .i64 x1 x9) + (wrap64 (Int.tdiv x9 2)))) + 1)) x9) (t355 != ((Go.bits .and .i64 x0 x9) == (Go.bits .and .i64 x1 x9))))))))))
def emulatorlaw10_AluCompares.j1 : Nat → Int → Int → Int → Bool → Option (Bool)
  | 0, _, _, _, _ => none
  | k + 1, x11, x15, x16, x71 => if x71 = true then (some false) else ((alu_Taken.f 30 x11).bind fun t356 => (if (t356 == (decide (x15 < x16))) = true then ((alu_Taken.f 31 x11).bind fun t357 => (if (t357 == (decide (x15 > x16))) = true then ((alu_Taken.f 32 x11).bind fun t358 => (if (t358 == (decide (x15 ≤ x16))) = true then ((emulatorlaw10_alive.f k).bind fun t359 => (some t359)) else (some false))) else (some false))) else (some false)))
end
def emulatorlaw10_AluCompares.f (k : Nat) (a0 : Int) (a1 : Int) (a2 : Int) (a3 : Bool) : Option (Bool) := if a3 = true then (emulatorlaw10_AluCompares.j0 k a0 a1 a2 a3 255) else (emulatorlaw10_AluCompares.j0 k a0 a1 a2 a3 65535)
theorem emulatorlaw10_AluCompares.mono_l : ∀ k, (∀ y0 y1 y2 y3 y4, LeO (emulatorlaw10_AluCompares.j0 k y0 y1 y2 y3 y4) (emulatorlaw10_AluCompares.j0 (k + 1) y0 y1 y2 y3 y4)) ∧ (∀ y0 y1 y2 y3, LeO (emulatorlaw10_AluCompares.j1 k y0 y1 y2 y3) (emulatorlaw10_AluCompares.j1 (k + 1) y0 y1 y2 y3))
  | 0 => ⟨fun _ _ _ _ _ r h => by simp [emulatorlaw10_AluCompares.j0] at h, fun _ _ _ _ r h => by simp [emulatorlaw10_AluCompares.j1] at h⟩
  | k + 1 => by
    obtain ⟨ih0, ih1⟩ := emulatorlaw10_AluCompares.mono_l k
    refine ⟨?_, ?_⟩
    · intro y0 y1 y2 y3 y4
      unfold emulatorlaw10_AluCompares.j0
      repeat' first
      | (with_reducible exact ih0 _ _ _ _ _)
      | (with_reducible exact ih1 _ _ _ _)
      | (with_reducible exact emulatorlaw10_alive.mono _)
      | (with_reducible exact LeO.refl _)
      | (with_reducible exact LeO.none _)
      | (with_reducible refine LeO.ite ?_ ?_)
      | (with_reducible refine LeO.bind ?_ (fun _ => ?_))
      | exact ih0 _ _ _ _ _
      | exact ih1 _ _ _ _
      | exact emulatorlaw10_alive.mono _
      | exact LeO.none _
      | refine LeO.ite ?_ ?_
      | refine LeO.bind ?_ (fun _ => ?_)
    · intro y0 y1 y2 y3
      unfold emulatorlaw10_AluCompares.j1
      repeat' first
      | (with_reducible exact ih0 _ _ _ _ _)
      | (with_reducible exact ih1 _ _ _ _)
      | (with_reducible exact emulatorlaw10_alive.mono _)
      | (with_reducible exact LeO.refl _)
      | (with_reducible exact LeO.none _)
      | (with_reducible refine LeO.ite ?_ ?_)
      | (with_reducible refine LeO.bind ?_ (fun _ => ?_))
      | exact ih0 _ _ _ _ _
      | exact ih1 _ _ _ _
      | exact emulatorlaw10_alive.mono _
      | exact LeO.none _
      | refine LeO.ite ?_ ?_
      | refine LeO.bind ?_ (fun _ => ?_)
theorem emulatorlaw10_AluCompares.mono : ∀ a0 a1 a2 a3 k, LeO (emulatorlaw10_AluCompares.f k a0 a1 a2 a3) (emulatorlaw10_AluCompares.f (k + 1) a0 a1 a2 a3) := by
  intro a0 a1 a2 a3 k
  obtain ⟨ih0, ih1⟩ := emulatorlaw10_AluCompares.mono_l k
  unfold emulatorlaw10_AluCompares.f
  repeat' first
      | (with_reducible exact ih0 _ _ _ _ _)
      | (with_reducible exact ih1 _ _ _ _)
      | (with_reducible exact emulatorlaw10_alive.mono _)
      | (with_reducible exact LeO.refl _)
      | (with_reducible exact LeO.none _)
      | (with_reducible refine LeO.ite ?_ ?_)
      | (with_reducible refine LeO.bind ?_ (fun _ => ?_))
      | exact ih0 _ _ _ _ _
      | exact ih1 _ _ _ _
      | exact emulatorlaw10_alive.mono _
      | exact LeO.none _
      | refine LeO.ite ?_ ?_
      | refine LeO.bind ?_ (fun _ => ?_)
set_option maxHeartbeats 8000000 in
set_option maxRecDepth 100000 in
theorem emulatorlaw10_AluCompares.calls (k : Nat) (a0 : Int) (a1 : Int) (a2 : Int) (a3 : Bool) (r : Bool) (w : World) (hS : Sz w) (h : emulatorlaw10_AluCompares.f k a0 a1 a2 a3 = some r) (hr0 : r = true) :
    Calls Tryd.prog 8 #[.int .i64 a0, .int .i64 a1, .int .i64 a2, .bool a3] w fun e w' => e = .returned (.bool r) ∧ Below w.heap.size w w' := by
  have hr_ := Aside0.mk hr0
  clear hr0
  have HB := Aside0.mk (Below.refl w.heap.size w)
  have H : (if a3 = true then (emulatorlaw10_AluCompares.j0 k a0 a1 a2 a3 255) else (emulatorlaw10_AluCompares.j0 k a0 a1 a2 a3 65535)) = some r := h
  clear h
  have HC5 := Aside0.mk H
  clear H
  go_enter Tryd.func8, Tryd.ntmps8
  go_upto_if 17 with (fail)
  go_cut [9] (fun v9 wc => ∃ (kq : Nat) (x9_4 : Int), v9 = .int .i64 x9_4 ∧ Aside0 (emulatorlaw10_AluCompares.j0 kq a0 a1 a2 a3 x9_4 = some r) ∧ Aside0 (kq ≤ k) ∧ Aside0 (Below w.heap.size w wc))
  case first =>
    have H := HC5.out
    clear HC5
    by_cases c6 : a3 = true
    · subst c6
      have H1 : (emulatorlaw10_AluCompares.j0 k a0 a1 a2 true 255) = some r := by rw [if_pos rfl] at H; exact H
      clear H
      have H := H1
      clear H1
      have H' := Aside0.mk H
      clear H
      go_wp2
      go_meet
      case rel => exact ⟨_, (255), (by first | rfl | (simp; done) | (simp [*]; done)), H', ⟨by first | omega | exact Nat.le_refl _⟩, ⟨by repeat (first | (with_reducible first | exact HB.out | apply below_alloc | apply pw_below_drewN | apply below_drew1) | exact HB.out)⟩⟩
    · replace c6 := Bool.eq_false_iff.mpr c6
      subst c6
      have H1 : (emulatorlaw10_AluCompares.j0 k a0 a1 a2 false 65535) = some r := by rw [if_neg (show ¬ (false = true) by decide)] at H; exact H
      clear H
      have H := H1
      clear H1
      have H' := Aside0.mk H
      clear H
      go_wp2
      go_meet
      case rel => exact ⟨_, (65535), (by first | rfl | (simp; done) | (simp [*]; done)), H', ⟨by first | omega | exact Nat.le_refl _⟩, ⟨by repeat (first | (with_reducible first | exact HB.out | apply below_alloc | apply pw_below_drewN | apply below_drew1) | exact HB.out)⟩⟩
  case rest =>
    clear HC5
    try clear p2
    try clear c6
    obtain ⟨kq, x9_4, rfl, HA, HJ4, HB⟩ := hcut
    cases kq with
    | zero => exact absurd HA.out (by simp [emulatorlaw10_AluCompares.j0])
    | succ kj4 =>
      have H := HA.out
      clear HA
      simp only [emulatorlaw10_AluCompares.j0] at H
      replace H := Option.bind_eq_some_iff.mp H
      obtain ⟨⟨t350, t351, t352⟩, A70, H⟩ := H
      replace H : (if t352 = true then (emulatorlaw10_AluCompares.j1 kj4 t351 (Go.bits .and .i64 (wrap64 ((wrap64 ((Go.bits .and .i64 a0 x9_4) + (wrap64 (Int.tdiv x9_4 2)))) + 1)) x9_4) (Go.bits .and .i64 (wrap64 ((wrap64 ((Go.bits .and .i64 a1 x9_4) + (wrap64 (Int.tdiv x9_4 2)))) + 1)) x9_4) true) else ((alu_Taken.f 40 t351).bind fun t353 => (if (t353 != (decide ((Go.bits .and .i64 a0 x9_4) < (Go.bits .and .i64 a1 x9_4)))) = true then (emulatorlaw10_AluCompares.j1 kj4 t351 (Go.bits .and .i64 (wrap64 ((wrap64 ((Go.bits .and .i64 a0 x9_4) + (wrap64 (Int.tdiv x9_4 2)))) + 1)) x9_4) (Go.bits .and .i64 (wrap64 ((wrap64 ((Go.bits .and .i64 a1 x9_4) + (wrap64 (Int.tdiv x9_4 2)))) + 1)) x9_4) true) else ((alu_Taken.f 36 t351).bind fun t354 => (if (t354 != (decide ((Go.bits .and .i64 a0 x9_4) ≤ (Go.bits .and .i64 a1 x9_4)))) = true then (emulatorlaw10_AluCompares.j1 kj4 t351 (Go.bits .and .i64 (wrap64 ((wrap64 ((Go.bits .and .i64 a0 x9_4) + (wrap64 (Int.tdiv x9_4 2)))) + 1)) x9_4) (Go.bits .and .i64 (wrap64 ((wrap64 ((Go.bits .and .i64 a1 x9_4) + (wrap64 (Int.tdiv x9_4 2)))) + 1)) x9_4) true) else ((alu_Taken.f 28 t351).bind fun t355 => (emulatorlaw10_AluCompares.j1 kj4 t351 (Go.bits .and .i64 (wrap64 ((wrap64 ((Go.bits .and .i64 a0 x9_4) + (wrap64 (Int.tdiv x9_4 2)))) + 1)) x9_4) (Go.bits .and .i64 (wrap64 ((wrap64 ((Go.bits .and .i64 a1 x9_4) + (wrap64 (Int.tdiv x9_4 2)))) + 1)) x9_4) (t355 != ((Go.bits .and .i64 a0 x9_4) == (Go.bits .and .i64 a1 x9_4)))))))))) = some r := H
      have A7 := Aside0.mk A70
      clear A70
      have HC8 := Aside0.mk H
      clear H
      go_upto_region 7 with (first | ((with_reducible refine gate_callee (f := 10) rfl ?_); refine goesL_ (some 23) rfl rfl Tryd.func10 (by kernel_rfl) rfl #[.int .i64 2, .bool a3, .int .i64 a0, .int .i64 a1, .int .i64 a2] rfl (by (try simp only [List.map_toArray, List.map_cons, List.map_nil]); first | done | rfl | (simp only [List.length_drop, List.length_take]; rfl)) ?_; (with_reducible refine (alu_Double.calls 2 a3 a0 a1 a2 t350 t351 t352 _ (hS.go (by repeat (first | (with_reducible first | exact HB.out | apply below_alloc | apply pw_below_drewN | apply below_drew1) | exact HB.out))) A7.out).mono ?_); rintro e w9 ⟨rfl, hb⟩; refine ⟨_, rfl, ?_⟩; have n0_ := Aside0.mk (below_step (by repeat (first | (with_reducible first | exact HB.out | apply below_alloc | apply pw_below_drewN | apply below_drew1) | exact HB.out)) hb); clear HB; have HB := n0_; clear n0_; (try clear hb); (try clear hb2); (try clear hk); (try clear hi)))
      (try simp only [Act.put, List.setIfInBounds_toArray, List.set_cons_zero, List.set_cons_succ])
      go_cut [71] (fun v71 wc => ∃ (kq : Nat) (x71_7 : Bool), v71 = .bool x71_7 ∧ Aside0 (emulatorlaw10_AluCompares.j1 kq t351 (Go.bits .and .i64 (wrap64 ((wrap64 ((Go.bits .and .i64 a0 x9_4) + (wrap64 (Int.tdiv x9_4 2)))) + 1)) x9_4) (Go.bits .and .i64 (wrap64 ((wrap64 ((Go.bits .and .i64 a1 x9_4) + (wrap64 (Int.tdiv x9_4 2)))) + 1)) x9_4) x71_7 = some r) ∧ Aside0 (kq ≤ kj4) ∧ Aside0 (Below w.heap.size w wc))
      case first =>
        have H := HC8.out
        clear HC8
        by_cases c10 : t352 = true
        · subst c10
          have H1 : (emulatorlaw10_AluCompares.j1 kj4 t351 (Go.bits .and .i64 (wrap64 ((wrap64 ((Go.bits .and .i64 a0 x9_4) + (wrap64 (Int.tdiv x9_4 2)))) + 1)) x9_4) (Go.bits .and .i64 (wrap64 ((wrap64 ((Go.bits .and .i64 a1 x9_4) + (wrap64 (Int.tdiv x9_4 2)))) + 1)) x9_4) true) = some r := by rw [if_pos rfl] at H; exact H
          clear H
          have H := H1
          clear H1
          have H' := Aside0.mk H
          clear H
          go_wp2
          go_meet
          case rel => exact ⟨_, (true), (by first | rfl | (simp; done) | (simp [*]; done)), H', ⟨by have := HJ4.out; first | omega | exact Nat.le_refl _⟩, ⟨by repeat (first | (with_reducible first | exact HB.out | apply below_alloc | apply pw_below_drewN | apply below_drew1) | exact HB.out)⟩⟩
        · replace c10 := Bool.eq_false_iff.mpr c10
          subst c10
          have H1 : ((alu_Taken.f 40 t351).bind fun t353 => (if (t353 != (decide ((Go.bits .and .i64 a0 x9_4) < (Go.bits .and .i64 a1 x9_4)))) = true then (emulatorlaw10_AluCompares.j1 kj4 t351 (Go.bits .and .i64 (wrap64 ((wrap64 ((Go.bits .and .i64 a0 x9_4) + (wrap64 (Int.tdiv x9_4 2)))) + 1)) x9_4) (Go.bits .and .i64 (wrap64 ((wrap64 ((Go.bits .and .i64 a1 x9_4) + (wrap64 (Int.tdiv x9_4 2)))) + 1)) x9_4) true) else ((alu_Taken.f 36 t351).bind fun t354 => (if (t354 != (decide ((Go.bits .and .i64 a0 x9_4) ≤ (Go.bits .and .i64 a1 x9_4)))) = true then (emulatorlaw10_AluCompares.j1 kj4 t351 (Go.bits .and .i64 (wrap64 ((wrap64 ((Go.bits .and .i64 a0 x9_4) + (wrap64 (Int.tdiv x9_4 2)))) + 1)) x9_4) (Go.bits .and .i64 (wrap64 ((wrap64 ((Go.bits .and .i64 a1 x9_4) + (wrap64 (Int.tdiv x9_4 2)))) + 1)) x9_4) true) else ((alu_Taken.f 28 t351).bind fun t355 => (emulatorlaw10_AluCompares.j1 kj4 t351 (Go.bits .and .i64 (wrap64 ((wrap64 ((Go.bits .and .i64 a0 x9_4) + (wrap64 (Int.tdiv x9_4 2)))) + 1)) x9_4) (Go.bits .and .i64 (wrap64 ((wrap64 ((Go.bits .and .i64 a1 x9_4) + (wrap64 (Int.tdiv x9_4 2)))) + 1)) x9_4) (t355 != ((Go.bits .and .i64 a0 x9_4) == (Go.bits .and .i64 a1 x9_4))))))))) = some r := by rw [if_neg (show ¬ (false = true) by decide)] at H; exact H
          clear H
          have H := H1
          clear H1
          replace H := Option.bind_eq_some_iff.mp H
          obtain ⟨t353, A110, H⟩ := H
          replace H : (if (t353 != (decide ((Go.bits .and .i64 a0 x9_4) < (Go.bits .and .i64 a1 x9_4)))) = true then (emulatorlaw10_AluCompares.j1 kj4 t351 (Go.bits .and .i64 (wrap64 ((wrap64 ((Go.bits .and .i64 a0 x9_4) + (wrap64 (Int.tdiv x9_4 2)))) + 1)) x9_4) (Go.bits .and .i64 (wrap64 ((wrap64 ((Go.bits .and .i64 a1 x9_4) + (wrap64 (Int.tdiv x9_4 2)))) + 1)) x9_4) true) else ((alu_Taken.f 36 t351).bind fun t354 => (if (t354 != (decide ((Go.bits .and .i64 a0 x9_4) ≤ (Go.bits .and .i64 a1 x9_4)))) = true then (emulatorlaw10_AluCompares.j1 kj4 t351 (Go.bits .and .i64 (wrap64 ((wrap64 ((Go.bits .and .i64 a0 x9_4) + (wrap64 (Int.tdiv x9_4 2)))) + 1)) x9_4) (Go.bits .and .i64 (wrap64 ((wrap64 ((Go.bits .and .i64 a1 x9_4) + (wrap64 (Int.tdiv x9_4 2)))) + 1)) x9_4) true) else ((alu_Taken.f 28 t351).bind fun t355 => (emulatorlaw10_AluCompares.j1 kj4 t351 (Go.bits .and .i64 (wrap64 ((wrap64 ((Go.bits .and .i64 a0 x9_4) + (wrap64 (Int.tdiv x9_4 2)))) + 1)) x9_4) (Go.bits .and .i64 (wrap64 ((wrap64 ((Go.bits .and .i64 a1 x9_4) + (wrap64 (Int.tdiv x9_4 2)))) + 1)) x9_4) (t355 != ((Go.bits .and .i64 a0 x9_4) == (Go.bits .and .i64 a1 x9_4)))))))) = some r := H
          have A11 := Aside0.mk A110
          clear A110
          by_cases c12 : (t353 != (decide ((Go.bits .and .i64 a0 x9_4) < (Go.bits .and .i64 a1 x9_4)))) = true
          · rw [if_pos c12] at H
            have c12b0 : (t353 != (decide ((Go.bits .and .i64 a0 x9_4) < (Go.bits .and .i64 a1 x9_4)))) = true := c12
            (try (have c12b1 : decide (t353 = (decide ((Go.bits .and .i64 a0 x9_4) < (Go.bits .and .i64 a1 x9_4)))) = false := by simpa using c12))
            (try (have c12b2 : (t353 == (decide ((Go.bits .and .i64 a0 x9_4) < (Go.bits .and .i64 a1 x9_4)))) = false := by simpa using c12))
            (try (have c12b3 : ¬ (t353 = (decide ((Go.bits .and .i64 a0 x9_4) < (Go.bits .and .i64 a1 x9_4)))) := by simpa using c12))
            clear c12
            (first | rw [c12b0] | (simp only [i64_w, i32_w]; rw [c12b0]) | skip)
            have H' := Aside0.mk H
            clear H
            go_wp2_with (first | (go_at_call 15; (with_reducible refine (alu_Taken.calls 40 t351 t353 _ A11.out).mono ?_); rintro e w' ⟨rfl, ⟨nd, rfl⟩⟩))
            go_meet
            case rel => exact ⟨_, (true), (by first | rfl | (simp; done) | (simp [*]; done)), H', ⟨by have := HJ4.out; first | omega | exact Nat.le_refl _⟩, ⟨by repeat (first | (with_reducible first | exact HB.out | apply below_alloc | apply pw_below_drewN | apply below_drew1) | exact HB.out)⟩⟩
          · rw [if_neg c12] at H
            have c12b0 : (t353 != (decide ((Go.bits .and .i64 a0 x9_4) < (Go.bits .and .i64 a1 x9_4)))) = false := by simpa using c12
            (try (have c12b1 : decide (t353 = (decide ((Go.bits .and .i64 a0 x9_4) < (Go.bits .and .i64 a1 x9_4)))) = true := by simpa using c12))
            (try (have c12b2 : (t353 == (decide ((Go.bits .and .i64 a0 x9_4) < (Go.bits .and .i64 a1 x9_4)))) = true := by simpa using c12))
            clear c12
            (first | rw [c12b0] | (simp only [i64_w, i32_w]; rw [c12b0]) | skip)
            replace H := Option.bind_eq_some_iff.mp H
            obtain ⟨t354, A130, H⟩ := H
            replace H : (if (t354 != (decide ((Go.bits .and .i64 a0 x9_4) ≤ (Go.bits .and .i64 a1 x9_4)))) = true then (emulatorlaw10_AluCompares.j1 kj4 t351 (Go.bits .and .i64 (wrap64 ((wrap64 ((Go.bits .and .i64 a0 x9_4) + (wrap64 (Int.tdiv x9_4 2)))) + 1)) x9_4) (Go.bits .and .i64 (wrap64 ((wrap64 ((Go.bits .and .i64 a1 x9_4) + (wrap64 (Int.tdiv x9_4 2)))) + 1)) x9_4) true) else ((alu_Taken.f 28 t351).bind fun t355 => (emulatorlaw10_AluCompares.j1 kj4 t351 (Go.bits .and .i64 (wrap64 ((wrap64 ((Go.bits .and .i64 a0 x9_4) + (wrap64 (Int.tdiv x9_4 2)))) + 1)) x9_4) (Go.bits .and .i64 (wrap64 ((wrap64 ((Go.bits .and .i64 a1 x9_4) + (wrap64 (Int.tdiv x9_4 2)))) + 1)) x9_4) (t355 != ((Go.bits .and .i64 a0 x9_4) == (Go.bits .and .i64 a1 x9_4)))))) = some r := H
            have A13 := Aside0.mk A130
            clear A130
            by_cases c14 : (t354 != (decide ((Go.bits .and .i64 a0 x9_4) ≤ (Go.bits .and .i64 a1 x9_4)))) = true
            · rw [if_pos c14] at H
              have c14b0 : (t354 != (decide ((Go.bits .and .i64 a0 x9_4) ≤ (Go.bits .and .i64 a1 x9_4)))) = true := c14
              (try (have c14b1 : decide (t354 = (decide ((Go.bits .and .i64 a0 x9_4) ≤ (Go.bits .and .i64 a1 x9_4)))) = false := by simpa using c14))
              (try (have c14b2 : (t354 == (decide ((Go.bits .and .i64 a0 x9_4) ≤ (Go.bits .and .i64 a1 x9_4)))) = false := by simpa using c14))
              (try (have c14b3 : ¬ (t354 = (decide ((Go.bits .and .i64 a0 x9_4) ≤ (Go.bits .and .i64 a1 x9_4)))) := by simpa using c14))
              clear c14
              have H' := Aside0.mk H
              clear H
              go_wp2_with (first | (go_at_call 15; (with_reducible refine (alu_Taken.calls 40 t351 t353 _ A11.out).mono ?_); rintro e w' ⟨rfl, ⟨nd, rfl⟩⟩) | (go_at_call 15; (with_reducible refine (alu_Taken.calls 36 t351 t354 _ A13.out).mono ?_); rintro e w' ⟨rfl, ⟨nd, rfl⟩⟩))
              go_meet
              case rel => exact ⟨_, (true), (by first | rfl | (simp; done) | (simp [*]; done)), H', ⟨by have := HJ4.out; first | omega | exact Nat.le_refl _⟩, ⟨by repeat (first | (with_reducible first | exact HB.out | apply below_alloc | apply pw_below_drewN | apply below_drew1) | exact HB.out)⟩⟩
            · rw [if_neg c14] at H
              have c14b0 : (t354 != (decide ((Go.bits .and .i64 a0 x9_4) ≤ (Go.bits .and .i64 a1 x9_4)))) = false := by simpa using c14
              (try (have c14b1 : decide (t354 = (decide ((Go.bits .and .i64 a0 x9_4) ≤ (Go.bits .and .i64 a1 x9_4)))) = true := by simpa using c14))
              (try (have c14b2 : (t354 == (decide ((Go.bits .and .i64 a0 x9_4) ≤ (Go.bits .and .i64 a1 x9_4)))) = true := by simpa using c14))
              clear c14
              replace H := Option.bind_eq_some_iff.mp H
              obtain ⟨t355, A150, H⟩ := H
              replace H : (emulatorlaw10_AluCompares.j1 kj4 t351 (Go.bits .and .i64 (wrap64 ((wrap64 ((Go.bits .and .i64 a0 x9_4) + (wrap64 (Int.tdiv x9_4 2)))) + 1)) x9_4) (Go.bits .and .i64 (wrap64 ((wrap64 ((Go.bits .and .i64 a1 x9_4) + (wrap64 (Int.tdiv x9_4 2)))) + 1)) x9_4) (t355 != ((Go.bits .and .i64 a0 x9_4) == (Go.bits .and .i64 a1 x9_4)))) = some r := H
              have A15 := Aside0.mk A150
              clear A150
              have H' := Aside0.mk H
              clear H
              go_wp2_with (first | (go_at_call 15; (with_reducible refine (alu_Taken.calls 40 t351 t353 _ A11.out).mono ?_); rintro e w' ⟨rfl, ⟨nd, rfl⟩⟩) | (go_at_call 15; (with_reducible refine (alu_Taken.calls 36 t351 t354 _ A13.out).mono ?_); rintro e w' ⟨rfl, ⟨nd, rfl⟩⟩) | (go_at_call 15; (with_reducible refine (alu_Taken.calls 28 t351 t355 _ A15.out).mono ?_); rintro e w' ⟨rfl, ⟨nd, rfl⟩⟩))
              go_meet
              case rel => exact ⟨_, ((t355 != ((Go.bits .and .i64 a0 x9_4) == (Go.bits .and .i64 a1 x9_4)))), (by first | rfl | (simp; done) | (simp [*]; done)), H', ⟨by have := HJ4.out; first | omega | exact Nat.le_refl _⟩, ⟨by repeat (first | (with_reducible first | exact HB.out | apply below_alloc | apply pw_below_drewN | apply below_drew1) | exact HB.out)⟩⟩
      case rest =>
        clear HC8
        try clear c1
        try clear p2
        try clear c6
        try clear p6
        try clear c8
        try clear c10
        try clear c12
        try clear c12b0
        try clear c12b1
        try clear c12b2
        try clear c14
        try clear c14b0
        try clear c14b1
        try clear c14b2
        try clear p2
        obtain ⟨kq, x71_7, rfl, HA, HJ7, HB⟩ := hcut
        cases kq with
        | zero => exact absurd HA.out (by simp [emulatorlaw10_AluCompares.j1])
        | succ kj7 =>
          have H := HA.out
          clear HA
          simp only [emulatorlaw10_AluCompares.j1] at H
          by_cases c16 : x71_7 = true
          · subst c16
            have H1 : (some false) = some r := by rw [if_pos rfl] at H; exact H
            clear H
            have H := H1
            clear H1
            exact absurd (H.trans (congrArg some hr_.out)) (by decide)
          · replace c16 := Bool.eq_false_iff.mpr c16
            subst c16
            have H1 : ((alu_Taken.f 30 t351).bind fun t356 => (if (t356 == (decide ((Go.bits .and .i64 (wrap64 ((wrap64 ((Go.bits .and .i64 a0 x9_4) + (wrap64 (Int.tdiv x9_4 2)))) + 1)) x9_4) < (Go.bits .and .i64 (wrap64 ((wrap64 ((Go.bits .and .i64 a1 x9_4) + (wrap64 (Int.tdiv x9_4 2)))) + 1)) x9_4)))) = true then ((alu_Taken.f 31 t351).bind fun t357 => (if (t357 == (decide ((Go.bits .and .i64 (wrap64 ((wrap64 ((Go.bits .and .i64 a0 x9_4) + (wrap64 (Int.tdiv x9_4 2)))) + 1)) x9_4) > (Go.bits .and .i64 (wrap64 ((wrap64 ((Go.bits .and .i64 a1 x9_4) + (wrap64 (Int.tdiv x9_4 2)))) + 1)) x9_4)))) = true then ((alu_Taken.f 32 t351).bind fun t358 => (if (t358 == (decide ((Go.bits .and .i64 (wrap64 ((wrap64 ((Go.bits .and .i64 a0 x9_4) + (wrap64 (Int.tdiv x9_4 2)))) + 1)) x9_4) ≤ (Go.bits .and .i64 (wrap64 ((wrap64 ((Go.bits .and .i64 a1 x9_4) + (wrap64 (Int.tdiv x9_4 2)))) + 1)) x9_4)))) = true then ((emulatorlaw10_alive.f kj7).bind fun t359 => (some t359)) else (some false))) else (some false))) else (some false))) = some r := by rw [if_neg (show ¬ (false = true) by decide)] at H; exact H
            clear H
            have H := H1
            clear H1
            replace H := Option.bind_eq_some_iff.mp H
            obtain ⟨t356, A170, H⟩ := H
            replace H : (if (t356 == (decide ((Go.bits .and .i64 (wrap64 ((wrap64 ((Go.bits .and .i64 a0 x9_4) + (wrap64 (Int.tdiv x9_4 2)))) + 1)) x9_4) < (Go.bits .and .i64 (wrap64 ((wrap64 ((Go.bits .and .i64 a1 x9_4) + (wrap64 (Int.tdiv x9_4 2)))) + 1)) x9_4)))) = true then ((alu_Taken.f 31 t351).bind fun t357 => (if (t357 == (decide ((Go.bits .and .i64 (wrap64 ((wrap64 ((Go.bits .and .i64 a0 x9_4) + (wrap64 (Int.tdiv x9_4 2)))) + 1)) x9_4) > (Go.bits .and .i64 (wrap64 ((wrap64 ((Go.bits .and .i64 a1 x9_4) + (wrap64 (Int.tdiv x9_4 2)))) + 1)) x9_4)))) = true then ((alu_Taken.f 32 t351).bind fun t358 => (if (t358 == (decide ((Go.bits .and .i64 (wrap64 ((wrap64 ((Go.bits .and .i64 a0 x9_4) + (wrap64 (Int.tdiv x9_4 2)))) + 1)) x9_4) ≤ (Go.bits .and .i64 (wrap64 ((wrap64 ((Go.bits .and .i64 a1 x9_4) + (wrap64 (Int.tdiv x9_4 2)))) + 1)) x9_4)))) = true then ((emulatorlaw10_alive.f kj7).bind fun t359 => (some t359)) else (some false))) else (some false))) else (some false)) = some r := H
            have A17 := Aside0.mk A170
            clear A170
            by_cases c18 : (t356 == (decide ((Go.bits .and .i64 (wrap64 ((wrap64 ((Go.bits .and .i64 a0 x9_4) + (wrap64 (Int.tdiv x9_4 2)))) + 1)) x9_4) < (Go.bits .and .i64 (wrap64 ((wrap64 ((Go.bits .and .i64 a1 x9_4) + (wrap64 (Int.tdiv x9_4 2)))) + 1)) x9_4)))) = true
            · rw [if_pos c18] at H
              have c18b0 : (t356 == (decide ((Go.bits .and .i64 (wrap64 ((wrap64 ((Go.bits .and .i64 a0 x9_4) + (wrap64 (Int.tdiv x9_4 2)))) + 1)) x9_4) < (Go.bits .and .i64 (wrap64 ((wrap64 ((Go.bits .and .i64 a1 x9_4) + (wrap64 (Int.tdiv x9_4 2)))) + 1)) x9_4)))) = true := c18
              (try (have c18b1 : decide (t356 = (decide ((Go.bits .and .i64 (wrap64 ((wrap64 ((Go.bits .and .i64 a0 x9_4) + (wrap64 (Int.tdiv x9_4 2)))) + 1)) x9_4) < (Go.bits .and .i64 (wrap64 ((wrap64 ((Go.bits .and .i64 a1 x9_4) + (wrap64 (Int.tdiv x9_4 2)))) + 1)) x9_4)))) = true := by simpa using c18))
              (try (have c18b2 : (t356 == (decide ((Go.bits .and .i64 (wrap64 ((wrap64 ((Go.bits .and .i64 a0 x9_4) + (wrap64 (Int.tdiv x9_4 2)))) + 1)) x9_4) < (Go.bits .and .i64 (wrap64 ((wrap64 ((Go.bits .and .i64 a1 x9_4) + (wrap64 (Int.tdiv x9_4 2)))) + 1)) x9_4)))) = true := by simpa using c18))
              clear c18
              replace H := Option.bind_eq_some_iff.mp H
              obtain ⟨t357, A190, H⟩ := H
              replace H : (if (t357 == (decide ((Go.bits .and .i64 (wrap64 ((wrap64 ((Go.bits .and .i64 a0 x9_4) + (wrap64 (Int.tdiv x9_4 2)))) + 1)) x9_4) > (Go.bits .and .i64 (wrap64 ((wrap64 ((Go.bits .and .i64 a1 x9_4) + (wrap64 (Int.tdiv x9_4 2)))) + 1)) x9_4)))) = true then ((alu_Taken.f 32 t351).bind fun t358 => (if (t358 == (decide ((Go.bits .and .i64 (wrap64 ((wrap64 ((Go.bits .and .i64 a0 x9_4) + (wrap64 (Int.tdiv x9_4 2)))) + 1)) x9_4) ≤ (Go.bits .and .i64 (wrap64 ((wrap64 ((Go.bits .and .i64 a1 x9_4) + (wrap64 (Int.tdiv x9_4 2)))) + 1)) x9_4)))) = true then ((emulatorlaw10_alive.f kj7).bind fun t359 => (some t359)) else (some false))) else (some false)) = some r := H
              have A19 := Aside0.mk A190
              clear A190
              by_cases c20 : (t357 == (decide ((Go.bits .and .i64 (wrap64 ((wrap64 ((Go.bits .and .i64 a0 x9_4) + (wrap64 (Int.tdiv x9_4 2)))) + 1)) x9_4) > (Go.bits .and .i64 (wrap64 ((wrap64 ((Go.bits .and .i64 a1 x9_4) + (wrap64 (Int.tdiv x9_4 2)))) + 1)) x9_4)))) = true
              · rw [if_pos c20] at H
                have c20b0 : (t357 == (decide ((Go.bits .and .i64 (wrap64 ((wrap64 ((Go.bits .and .i64 a0 x9_4) + (wrap64 (Int.tdiv x9_4 2)))) + 1)) x9_4) > (Go.bits .and .i64 (wrap64 ((wrap64 ((Go.bits .and .i64 a1 x9_4) + (wrap64 (Int.tdiv x9_4 2)))) + 1)) x9_4)))) = true := c20
                (try (have c20b1 : decide (t357 = (decide ((Go.bits .and .i64 (wrap64 ((wrap64 ((Go.bits .and .i64 a0 x9_4) + (wrap64 (Int.tdiv x9_4 2)))) + 1)) x9_4) > (Go.bits .and .i64 (wrap64 ((wrap64 ((Go.bits .and .i64 a1 x9_4) + (wrap64 (Int.tdiv x9_4 2)))) + 1)) x9_4)))) = true := by simpa using c20))
                (try (have c20b2 : (t357 == (decide ((Go.bits .and .i64 (wrap64 ((wrap64 ((Go.bits .and .i64 a0 x9_4) + (wrap64 (Int.tdiv x9_4 2)))) + 1)) x9_4) > (Go.bits .and .i64 (wrap64 ((wrap64 ((Go.bits .and .i64 a1 x9_4) + (wrap64 (Int.tdiv x9_4 2)))) + 1)) x9_4)))) = true := by simpa using c20))
                clear c20
                replace H := Option.bind_eq_some_iff.mp H
                obtain ⟨t358, A210, H⟩ := H
                replace H : (if (t358 == (decide ((Go.bits .and .i64 (wrap64 ((wrap64 ((Go.bits .and .i64 a0 x9_4) + (wrap64 (Int.tdiv x9_4 2)))) + 1)) x9_4) ≤ (Go.bits .and .i64 (wrap64 ((wrap64 ((Go.bits .and .i64 a1 x9_4) + (wrap64 (Int.tdiv x9_4 2)))) + 1)) x9_4)))) = true then ((emulatorlaw10_alive.f kj7).bind fun t359 => (some t359)) else (some false)) = some r := H
                have A21 := Aside0.mk A210
                clear A210
                by_cases c22 : (t358 == (decide ((Go.bits .and .i64 (wrap64 ((wrap64 ((Go.bits .and .i64 a0 x9_4) + (wrap64 (Int.tdiv x9_4 2)))) + 1)) x9_4) ≤ (Go.bits .and .i64 (wrap64 ((wrap64 ((Go.bits .and .i64 a1 x9_4) + (wrap64 (Int.tdiv x9_4 2)))) + 1)) x9_4)))) = true
                · rw [if_pos c22] at H
                  have c22b0 : (t358 == (decide ((Go.bits .and .i64 (wrap64 ((wrap64 ((Go.bits .and .i64 a0 x9_4) + (wrap64 (Int.tdiv x9_4 2)))) + 1)) x9_4) ≤ (Go.bits .and .i64 (wrap64 ((wrap64 ((Go.bits .and .i64 a1 x9_4) + (wrap64 (Int.tdiv x9_4 2)))) + 1)) x9_4)))) = true := c22
                  (try (have c22b1 : decide (t358 = (decide ((Go.bits .and .i64 (wrap64 ((wrap64 ((Go.bits .and .i64 a0 x9_4) + (wrap64 (Int.tdiv x9_4 2)))) + 1)) x9_4) ≤ (Go.bits .and .i64 (wrap64 ((wrap64 ((Go.bits .and .i64 a1 x9_4) + (wrap64 (Int.tdiv x9_4 2)))) + 1)) x9_4)))) = true := by simpa using c22))
                  (try (have c22b2 : (t358 == (decide ((Go.bits .and .i64 (wrap64 ((wrap64 ((Go.bits .and .i64 a0 x9_4) + (wrap64 (Int.tdiv x9_4 2)))) + 1)) x9_4) ≤ (Go.bits .and .i64 (wrap64 ((wrap64 ((Go.bits .and .i64 a1 x9_4) + (wrap64 (Int.tdiv x9_4 2)))) + 1)) x9_4)))) = true := by simpa using c22))
                  clear c22
                  replace H := Option.bind_eq_some_iff.mp H
                  obtain ⟨t359, A230, H⟩ := H
                  replace H : (some t359) = some r := H
                  have A23 := Aside0.mk A230
                  clear A230
                  obtain rfl := Option.some.inj H
                  go_wp2_with (first | ((with_reducible refine gate_callee (f := 15) rfl ?_); refine goesL_ (some 73) rfl rfl Tryd.func15 (by kernel_rfl) rfl #[.int .i64 30, .int .i64 t351] rfl (by (try simp only [List.map_toArray, List.map_cons, List.map_nil]); first | done | rfl | (simp only [List.length_drop, List.length_take]; rfl)) ?_; (with_reducible refine (alu_Taken.calls 30 t351 t356 _ A17.out).mono ?_); rintro e w' ⟨rfl, ⟨nd, rfl⟩⟩; refine ⟨_, rfl, ?_⟩) | (go_at_call 15; (with_reducible refine (alu_Taken.calls 31 t351 t357 _ A19.out).mono ?_); rintro e w' ⟨rfl, ⟨nd, rfl⟩⟩) | (go_at_call 15; (with_reducible refine (alu_Taken.calls 32 t351 t358 _ A21.out).mono ?_); rintro e w' ⟨rfl, ⟨nd, rfl⟩⟩) | (go_at_call 12; (with_reducible refine (emulatorlaw10_alive.calls kj7  t359 _ (hS.go (by repeat (first | (with_reducible first | exact HB.out | apply below_alloc | apply pw_below_drewN | apply below_drew1) | exact HB.out))) A23.out).mono ?_); rintro e w24 ⟨rfl, hb⟩; have n0_ := Aside0.mk (below_step (by repeat (first | (with_reducible first | exact HB.out | apply below_alloc | apply pw_below_drewN | apply below_drew1) | exact HB.out)) hb); clear HB; have HB := n0_; clear n0_; (try clear hb); (try clear hb2); (try clear hk); (try clear hi)))
                  go_ret
                  exact ⟨by first | rfl | (simp [errW_none, errW_some] <;> rfl) | (simp [*, errW_none, errW_some] <;> rfl), by repeat (first | (with_reducible first | exact HB.out | apply below_alloc | apply pw_below_drewN | apply below_drew1) | exact HB.out)⟩
                · rw [if_neg c22] at H
                  exact absurd (H.trans (congrArg some hr_.out)) (by decide)
              · rw [if_neg c20] at H
                exact absurd (H.trans (congrArg some hr_.out)) (by decide)
            · rw [if_neg c18] at H
              exact absurd (H.trans (congrArg some hr_.out)) (by decide)

end Go.Proofs.YtfeflghimnbhiaaDoor.A
