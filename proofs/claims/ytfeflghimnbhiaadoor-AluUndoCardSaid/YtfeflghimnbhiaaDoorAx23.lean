-- Written by a program of this session (mp.py) over the kit's print.py, with proofs by hand for what the print does not take.
import Derived.Test.YtfeflghimnbhiaaDoorAx0
import Derived.Test.YtfeflghimnbhiaaDoorAx10
import Derived.Test.YtfeflghimnbhiaaDoorAx13
namespace Go.Proofs.YtfeflghimnbhiaaDoor.A
open Go.RowKit Go.Proofs.YtfeflghimnbhiaaDoorW.PrintWords Go.Proofs.YtfeflghimnbhiaaDoorW.PrintLast Go.Proofs.YtfeflghimnbhiaaDoorW.PrintMore
attribute [local go_sem] max2_int min2_int max_two min_two max_three min_three max_four min_four   -- for this text's walks alone
set_option linter.unusedVariables false
set_option linter.unusedSimpArgs false

/-! ### emulatorlaw10_AluPairs: function 7 -/
def emulatorlaw10_AluPairs.l0 : Nat → Int → Int → Option (Bool)
  | 0, _, _ => none
  | k + 1, x0, x3 => if x3 < 40 then ((alu_Taken.f x3 x0).bind fun t348 => ((alu_Taken.f (wrap64 (x3 + 1)) x0).bind fun t349 => (if (t348 == t349) = true then (some false) else (emulatorlaw10_AluPairs.l0 k x0 (wrap64 (x3 + 2)))))) else ((alu_Taken.f 26 x0).bind fun t346 => (if t346 = true then ((emulatorlaw10_alive.f k).bind fun t347 => (some t347)) else (some false)))
def emulatorlaw10_AluPairs.f (k : Nat) (a0 : Int) : Option (Bool) := emulatorlaw10_AluPairs.l0 k a0 27
theorem emulatorlaw10_AluPairs.mono_l : ∀ k, (∀ y0 y1, LeO (emulatorlaw10_AluPairs.l0 k y0 y1) (emulatorlaw10_AluPairs.l0 (k + 1) y0 y1))
  | 0 => fun _ _ r h => by simp [emulatorlaw10_AluPairs.l0] at h
  | k + 1 => by
    have ih0 := emulatorlaw10_AluPairs.mono_l k
    · intro y0 y1
      unfold emulatorlaw10_AluPairs.l0
      repeat' first
      | (with_reducible exact ih0 _ _)
      | (with_reducible exact emulatorlaw10_alive.mono _)
      | (with_reducible exact LeO.refl _)
      | (with_reducible exact LeO.none _)
      | (with_reducible refine LeO.ite ?_ ?_)
      | (with_reducible refine LeO.bind ?_ (fun _ => ?_))
      | exact ih0 _ _
      | exact emulatorlaw10_alive.mono _
      | exact LeO.none _
      | refine LeO.ite ?_ ?_
      | refine LeO.bind ?_ (fun _ => ?_)
theorem emulatorlaw10_AluPairs.mono : ∀ a0 k, LeO (emulatorlaw10_AluPairs.f k a0) (emulatorlaw10_AluPairs.f (k + 1) a0) := by
  intro a0 k
  have ih0 := emulatorlaw10_AluPairs.mono_l k
  unfold emulatorlaw10_AluPairs.f
  repeat' first
      | (with_reducible exact ih0 _ _)
      | (with_reducible exact emulatorlaw10_alive.mono _)
      | (with_reducible exact LeO.refl _)
      | (with_reducible exact LeO.none _)
      | (with_reducible refine LeO.ite ?_ ?_)
      | (with_reducible refine LeO.bind ?_ (fun _ => ?_))
      | exact ih0 _ _
      | exact emulatorlaw10_alive.mono _
      | exact LeO.none _
      | refine LeO.ite ?_ ?_
      | refine LeO.bind ?_ (fun _ => ?_)
set_option maxHeartbeats 8000000 in
set_option maxRecDepth 100000 in
theorem emulatorlaw10_AluPairs.calls (k : Nat) (a0 : Int) (r : Bool) (w : World) (hS : Sz w) (h : emulatorlaw10_AluPairs.f k a0 = some r) (hr0 : r = true) :
    Calls Tryd.prog 7 #[.int .i64 a0] w fun e w' => e = .returned (.bool r) ∧ Below w.heap.size w w' := by
  have hr_ := Aside0.mk hr0
  clear hr0
  have HB := Aside0.mk (Below.refl w.heap.size w)
  have H : (emulatorlaw10_AluPairs.l0 k a0 27) = some r := h
  clear h
  have H' := Aside0.mk H
  clear H
  go_enter Tryd.func7, Tryd.ntmps7
  go_wp2
  go_loopg [3] k (fun kq v3 w' => ∃ (x3_1 : Int), v3 = .int .i64 x3_1 ∧ Aside0 (emulatorlaw10_AluPairs.l0 kq a0 x3_1 = some r) ∧ Aside0 (kq ≤ k) ∧ Aside0 (Below w.heap.size w w'))
  case atStart => exact ⟨(27), (by first | rfl | (simp; done) | (simp [*]; done)), H', ⟨Nat.le_refl _⟩, ⟨by repeat (first | (with_reducible first | exact HB.out | apply below_alloc | apply pw_below_drewN | apply below_drew1) | exact HB.out)⟩⟩
  case round =>
    clear H'
    obtain ⟨x3_1, rfl, HA, HK1, HB⟩ := hrel
    cases gk with
    | zero => exact absurd HA.out (by simp [emulatorlaw10_AluPairs.l0])
    | succ k1 =>
      have H := HA.out
      clear HA
      simp only [emulatorlaw10_AluPairs.l0] at H
      by_cases c2 : x3_1 < 40
      · rw [if_pos c2] at H
        have c2b0 : decide (x3_1 < 40) = true := decide_eq_true c2
        clear c2
        replace H := Option.bind_eq_some_iff.mp H
        obtain ⟨t348, A30, H⟩ := H
        replace H : ((alu_Taken.f (wrap64 (x3_1 + 1)) a0).bind fun t349 => (if (t348 == t349) = true then (some false) else (emulatorlaw10_AluPairs.l0 k1 a0 (wrap64 (x3_1 + 2))))) = some r := H
        have A3 := Aside0.mk A30
        clear A30
        replace H := Option.bind_eq_some_iff.mp H
        obtain ⟨t349, A40, H⟩ := H
        replace H : (if (t348 == t349) = true then (some false) else (emulatorlaw10_AluPairs.l0 k1 a0 (wrap64 (x3_1 + 2)))) = some r := H
        have A4 := Aside0.mk A40
        clear A40
        by_cases c5 : (t348 == t349) = true
        · rw [if_pos c5] at H
          exact absurd (H.trans (congrArg some hr_.out)) (by decide)
        · rw [if_neg c5] at H
          have c5b0 : (t348 == t349) = false := by simpa using c5
          (try (have c5b1 : decide (t348 = t349) = false := by simpa using c5))
          (try (have c5b2 : (t348 == t349) = false := by simpa using c5))
          (try (have c5b3 : ¬ (t348 = t349) := by simpa using c5))
          clear c5
          have H' := Aside0.mk H
          clear H
          go_wp2_with (first | ((with_reducible refine gate_callee (f := 15) rfl ?_); refine goesL_ (some 10) rfl rfl Tryd.func15 (by kernel_rfl) rfl #[.int .i64 x3_1, .int .i64 a0] rfl (by (try simp only [List.map_toArray, List.map_cons, List.map_nil]); first | done | rfl | (simp only [List.length_drop, List.length_take]; rfl)) ?_; (with_reducible refine (alu_Taken.calls x3_1 a0 t348 _ A3.out).mono ?_); rintro e w' ⟨rfl, ⟨nd, rfl⟩⟩; refine ⟨_, rfl, ?_⟩) | ((with_reducible refine gate_callee (f := 15) rfl ?_); refine goesL_ (some 14) rfl rfl Tryd.func15 (by kernel_rfl) rfl #[.int .i64 (wrap64 (x3_1 + 1)), .int .i64 a0] rfl (by (try simp only [List.map_toArray, List.map_cons, List.map_nil]); first | done | rfl | (simp only [List.length_drop, List.length_take]; rfl)) ?_; (with_reducible refine (alu_Taken.calls (wrap64 (x3_1 + 1)) a0 t349 _ A4.out).mono ?_); rintro e w' ⟨rfl, ⟨nd, rfl⟩⟩; refine ⟨_, rfl, ?_⟩))
          go_roundg k1
          case measure => have := HK1.out; omega
          case rel => exact ⟨(wrap64 (x3_1 + 2)), (by first | rfl | (simp; done) | (simp [*]; done)), H', ⟨by have := HK1.out; omega⟩, ⟨by repeat (first | (with_reducible first | exact HB.out | apply below_alloc | apply pw_below_drewN | apply below_drew1) | exact HB.out)⟩⟩
      · rw [if_neg c2] at H
        have c2b0 : decide (x3_1 < 40) = false := decide_eq_false c2
        clear c2
        replace H := Option.bind_eq_some_iff.mp H
        obtain ⟨t346, A60, H⟩ := H
        replace H : (if t346 = true then ((emulatorlaw10_alive.f k1).bind fun t347 => (some t347)) else (some false)) = some r := H
        have A6 := Aside0.mk A60
        clear A60
        by_cases c7 : t346 = true
        · subst c7
          have H1 : ((emulatorlaw10_alive.f k1).bind fun t347 => (some t347)) = some r := by rw [if_pos rfl] at H; exact H
          clear H
          have H := H1
          clear H1
          replace H := Option.bind_eq_some_iff.mp H
          obtain ⟨t347, A80, H⟩ := H
          replace H : (some t347) = some r := H
          have A8 := Aside0.mk A80
          clear A80
          obtain rfl := Option.some.inj H
          go_wp2_with (first | ((with_reducible refine gate_callee (f := 15) rfl ?_); refine goesL_ (some 17) rfl rfl Tryd.func15 (by kernel_rfl) rfl #[.int .i64 26, .int .i64 a0] rfl (by (try simp only [List.map_toArray, List.map_cons, List.map_nil]); first | done | rfl | (simp only [List.length_drop, List.length_take]; rfl)) ?_; (with_reducible refine (alu_Taken.calls 26 a0 true _ A6.out).mono ?_); rintro e w' ⟨rfl, ⟨nd, rfl⟩⟩; refine ⟨_, rfl, ?_⟩) | (go_at_call 12; (with_reducible refine (emulatorlaw10_alive.calls k1  t347 _ (hS.go (by repeat (first | (with_reducible first | exact HB.out | apply below_alloc | apply pw_below_drewN | apply below_drew1) | exact HB.out))) A8.out).mono ?_); rintro e w9 ⟨rfl, hb⟩; have n0_ := Aside0.mk (below_step (by repeat (first | (with_reducible first | exact HB.out | apply below_alloc | apply pw_below_drewN | apply below_drew1) | exact HB.out)) hb); clear HB; have HB := n0_; clear n0_; (try clear hb); (try clear hb2); (try clear hk); (try clear hi)))
          go_ret
          exact ⟨by first | rfl | (simp [errW_none, errW_some] <;> rfl) | (simp [*, errW_none, errW_some] <;> rfl), by repeat (first | (with_reducible first | exact HB.out | apply below_alloc | apply pw_below_drewN | apply below_drew1) | exact HB.out)⟩
        · replace c7 := Bool.eq_false_iff.mpr c7
          subst c7
          have H1 : (some false) = some r := by rw [if_neg (show ¬ (false = true) by decide)] at H; exact H
          clear H
          have H := H1
          clear H1
          exact absurd (H.trans (congrArg some hr_.out)) (by decide)

end Go.Proofs.YtfeflghimnbhiaaDoor.A
