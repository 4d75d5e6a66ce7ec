-- Written by a program of this session (mp.py) over the kit's print.py, with proofs by hand for what the print does not take.
import Derived.Test.YtiodpkkigjfkgaaDoorAx0
import Derived.Test.YtiodpkkigjfkgaaDoorAx9
import Derived.Test.YtiodpkkigjfkgaaDoorAx11
import Derived.Test.YtiodpkkigjfkgaaDoorAx17
namespace Go.Proofs.YtiodpkkigjfkgaaDoor.A
open Go.RowKit Go.Proofs.YtiodpkkigjfkgaaDoorW.PrintWords Go.Proofs.YtiodpkkigjfkgaaDoorW.PrintLast Go.Proofs.YtiodpkkigjfkgaaDoorW.PrintMore
attribute [local go_sem] max2_int min2_int max_two min_two max_three min_three max_four min_four   -- for this text's walks alone
set_option linter.unusedVariables false
set_option linter.unusedSimpArgs false

/-! ### emulatorlaw01_WordShifts: function 5 -/
def emulatorlaw01_WordShifts.f (k : Nat) (a0 : Int) (a1 : Int) : Option (Bool) := (word_Shift.f k a0 a1).bind fun bt230 => ((emulatorref01_Shift.f k a0 a1).bind fun bt232 => (if bt230.1 = bt232.1 then (if bt230.2 = bt232.2 then ((emulatorlaw01_alive.f k).bind fun t234 => (some t234)) else (some false)) else (some false)))
theorem emulatorlaw01_WordShifts.mono : ∀ a0 a1 k, LeO (emulatorlaw01_WordShifts.f k a0 a1) (emulatorlaw01_WordShifts.f (k + 1) a0 a1) := by
  intro a0 a1 k
  unfold emulatorlaw01_WordShifts.f
  repeat' first
      | (with_reducible exact emulatorlaw01_alive.mono _)
      | (with_reducible exact emulatorref01_Shift.mono _ _ _)
      | (with_reducible exact word_Shift.mono _ _ _)
      | (with_reducible exact LeO.refl _)
      | (with_reducible exact LeO.none _)
      | (with_reducible refine LeO.ite ?_ ?_)
      | (with_reducible refine LeO.bind ?_ (fun _ => ?_))
      | exact emulatorlaw01_alive.mono _
      | exact emulatorref01_Shift.mono _ _ _
      | exact word_Shift.mono _ _ _
      | exact LeO.none _
      | refine LeO.ite ?_ ?_
      | refine LeO.bind ?_ (fun _ => ?_)
set_option maxHeartbeats 8000000 in
set_option maxRecDepth 100000 in
theorem emulatorlaw01_WordShifts.calls (k : Nat) (a0 : Int) (a1 : Int) (r : Bool) (w : World) (hS : Sz w) (h : emulatorlaw01_WordShifts.f k a0 a1 = some r) (hr0 : r = true) :
    Calls Tryd.prog 5 #[.int .i64 a0, .int .i64 a1] w fun e w' => e = .returned (.bool r) ∧ Below w.heap.size w w' := by
  have hr_ := Aside0.mk hr0
  clear hr0
  have HB := Aside0.mk (Below.refl w.heap.size w)
  have H : ((word_Shift.f k a0 a1).bind fun bt230 => ((emulatorref01_Shift.f k a0 a1).bind fun bt232 => (if bt230.1 = bt232.1 then (if bt230.2 = bt232.2 then ((emulatorlaw01_alive.f k).bind fun t234 => (some t234)) else (some false)) else (some false)))) = some r := h
  clear h
  replace H := Option.bind_eq_some_iff.mp H
  obtain ⟨⟨t230, t231⟩, A30, H⟩ := H
  replace H : ((emulatorref01_Shift.f k a0 a1).bind fun bt232 => (if t230 = bt232.1 then (if t231 = bt232.2 then ((emulatorlaw01_alive.f k).bind fun t234 => (some t234)) else (some false)) else (some false))) = some r := H
  have A3 := Aside0.mk A30
  clear A30
  replace H := Option.bind_eq_some_iff.mp H
  obtain ⟨⟨t232, t233⟩, A40, H⟩ := H
  replace H : (if t230 = t232 then (if t231 = t233 then ((emulatorlaw01_alive.f k).bind fun t234 => (some t234)) else (some false)) else (some false)) = some r := H
  have A4 := Aside0.mk A40
  clear A40
  by_cases c5 : t230 = t232
  · rw [if_pos c5] at H
    have c5b0 : (t230 == t232) = true := beq_iff_eq.mpr c5
    have c5b1 : (t230 != t232) = false := bne_eq_false_iff_eq.mpr c5
    clear c5
    by_cases c6 : t231 = t233
    · rw [if_pos c6] at H
      have c6b0 : (t231 == t233) = true := beq_iff_eq.mpr c6
      have c6b1 : (t231 != t233) = false := bne_eq_false_iff_eq.mpr c6
      clear c6
      replace H := Option.bind_eq_some_iff.mp H
      obtain ⟨t234, A70, H⟩ := H
      replace H : (some t234) = some r := H
      have A7 := Aside0.mk A70
      clear A70
      obtain rfl := Option.some.inj H
      go_enter Tryd.func5, Tryd.ntmps5
      go_wp2_with (first | ((with_reducible refine gate_callee (f := 20) rfl ?_); refine goesL_ (some 12) rfl rfl Tryd.func20 (by kernel_rfl) rfl #[.int .i64 a0, .int .i64 a1] rfl (by (try simp only [List.map_toArray, List.map_cons, List.map_nil]); first | done | rfl | (simp only [List.length_drop, List.length_take]; rfl)) ?_; (with_reducible refine (word_Shift.calls k a0 a1 t230 t231 _ (hS.go (by repeat (first | (with_reducible first | exact HB.out | apply below_alloc | apply pw_below_drewN | apply below_drew1) | exact HB.out))) A3.out).mono ?_); rintro e w8 ⟨rfl, hb⟩; refine ⟨_, rfl, ?_⟩; have n0_ := Aside0.mk (below_step (by repeat (first | (with_reducible first | exact HB.out | apply below_alloc | apply pw_below_drewN | apply below_drew1) | exact HB.out)) hb); clear HB; have HB := n0_; clear n0_; (try clear hb); (try clear hb2); (try clear hk); (try clear hi)) | ((with_reducible refine gate_callee (f := 21) rfl ?_); refine goesL_ (some 18) rfl rfl Tryd.func21 (by kernel_rfl) rfl #[.int .i64 a0, .int .i64 a1] rfl (by (try simp only [List.map_toArray, List.map_cons, List.map_nil]); first | done | rfl | (simp only [List.length_drop, List.length_take]; rfl)) ?_; (with_reducible refine (emulatorref01_Shift.calls k a0 a1 t232 t233 _ A4.out).mono ?_); rintro e w' ⟨rfl, ⟨nd, rfl⟩⟩; refine ⟨_, rfl, ?_⟩) | (go_at_call 15; (with_reducible refine (emulatorlaw01_alive.calls k  t234 _ (hS.go (by repeat (first | (with_reducible first | exact HB.out | apply below_alloc | apply pw_below_drewN | apply below_drew1) | exact HB.out))) A7.out).mono ?_); rintro e w9 ⟨rfl, hb⟩; have n0_ := Aside0.mk (below_step (by repeat (first | (with_reducible first | exact HB.out | apply below_alloc | apply pw_below_drewN | apply below_drew1) | exact HB.out)) hb); clear HB; have HB := n0_; clear n0_; (try clear hb); (try clear hb2); (try clear hk); (try clear hi)))
      go_ret
      exact ⟨by first | rfl | (simp [errW_none, errW_some] <;> rfl) | (simp [*, errW_none, errW_some] <;> rfl), by repeat (first | (with_reducible first | exact HB.out | apply below_alloc | apply pw_below_drewN | apply below_drew1) | exact HB.out)⟩
    · rw [if_neg c6] at H
      exact absurd (H.trans (congrArg some hr_.out)) (by decide)
  · rw [if_neg c5] at H
    exact absurd (H.trans (congrArg some hr_.out)) (by decide)

end Go.Proofs.YtiodpkkigjfkgaaDoor.A
