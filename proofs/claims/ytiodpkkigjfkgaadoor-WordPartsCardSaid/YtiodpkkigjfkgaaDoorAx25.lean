-- Written by a program of this session (mp.py) over the kit's print.py, with proofs by hand for what the print does not take.
import Derived.Test.YtiodpkkigjfkgaaDoorAx0
import Derived.Test.YtiodpkkigjfkgaaDoorAx1
import Derived.Test.YtiodpkkigjfkgaaDoorAx3
import Derived.Test.YtiodpkkigjfkgaaDoorAx7
import Derived.Test.YtiodpkkigjfkgaaDoorAx11
import Derived.Test.YtiodpkkigjfkgaaDoorAx12
import Derived.Test.YtiodpkkigjfkgaaDoorAx13
import Derived.Test.YtiodpkkigjfkgaaDoorAx24
namespace Go.Proofs.YtiodpkkigjfkgaaDoor.A
open Go.RowKit Go.Proofs.YtiodpkkigjfkgaaDoorW.PrintWords Go.Proofs.YtiodpkkigjfkgaaDoorW.PrintLast Go.Proofs.YtiodpkkigjfkgaaDoorW.PrintMore
attribute [local go_sem] max2_int min2_int max_two min_two max_three min_three max_four min_four   -- for this text's walks alone
set_option linter.unusedVariables false
set_option linter.unusedSimpArgs false

/-! ### emulatorlaw01_WordParts: function 10 -/
def emulatorlaw01_WordParts.f (k : Nat) (a0 : Int) (a1 : Bool) : Option (Bool) := (word_Wrap.f a0).bind fun t299 => ((emulatorref01_Wrap.f a0).bind fun t300 => (if t299 = t300 then ((word_Signed.f a0).bind fun t301 => ((emulatorref01_Signed.f a0).bind fun t302 => (if t301 = t302 then ((word_Extend.f a0).bind fun t303 => ((emulatorref01_Extend.f a0).bind fun t304 => (if t303 = t304 then ((word_Flags.f a0 a1).bind fun t305 => ((emulatorref01_Flags.f a0 a1).bind fun t306 => (if t305 = t306 then ((emulatorlaw01_alive.f k).bind fun t307 => (some t307)) else (some false)))) else (some false)))) else (some false)))) else (some false)))
theorem emulatorlaw01_WordParts.mono : ∀ a0 a1 k, LeO (emulatorlaw01_WordParts.f k a0 a1) (emulatorlaw01_WordParts.f (k + 1) a0 a1) := by
  intro a0 a1 k
  unfold emulatorlaw01_WordParts.f
  repeat' first
      | (with_reducible exact emulatorlaw01_alive.mono _)
      | (with_reducible exact LeO.refl _)
      | (with_reducible exact LeO.none _)
      | (with_reducible refine LeO.ite ?_ ?_)
      | (with_reducible refine LeO.bind ?_ (fun _ => ?_))
      | exact emulatorlaw01_alive.mono _
      | exact LeO.none _
      | refine LeO.ite ?_ ?_
      | refine LeO.bind ?_ (fun _ => ?_)
set_option maxHeartbeats 8000000 in
set_option maxRecDepth 100000 in
theorem emulatorlaw01_WordParts.calls (k : Nat) (a0 : Int) (a1 : Bool) (r : Bool) (w : World) (hS : Sz w) (h : emulatorlaw01_WordParts.f k a0 a1 = some r) (hr0 : r = true) :
    Calls Tryd.prog 10 #[.int .i64 a0, .bool a1] w fun e w' => e = .returned (.bool r) ∧ Below w.heap.size w w' := by
  have hr_ := Aside0.mk hr0
  clear hr0
  have HB := Aside0.mk (Below.refl w.heap.size w)
  have H : ((word_Wrap.f a0).bind fun t299 => ((emulatorref01_Wrap.f a0).bind fun t300 => (if t299 = t300 then ((word_Signed.f a0).bind fun t301 => ((emulatorref01_Signed.f a0).bind fun t302 => (if t301 = t302 then ((word_Extend.f a0).bind fun t303 => ((emulatorref01_Extend.f a0).bind fun t304 => (if t303 = t304 then ((word_Flags.f a0 a1).bind fun t305 => ((emulatorref01_Flags.f a0 a1).bind fun t306 => (if t305 = t306 then ((emulatorlaw01_alive.f k).bind fun t307 => (some t307)) else (some false)))) else (some false)))) else (some false)))) else (some false)))) = some r := h
  clear h
  replace H := Option.bind_eq_some_iff.mp H
  obtain ⟨t299, A30, H⟩ := H
  replace H : ((emulatorref01_Wrap.f a0).bind fun t300 => (if t299 = t300 then ((word_Signed.f a0).bind fun t301 => ((emulatorref01_Signed.f a0).bind fun t302 => (if t301 = t302 then ((word_Extend.f a0).bind fun t303 => ((emulatorref01_Extend.f a0).bind fun t304 => (if t303 = t304 then ((word_Flags.f a0 a1).bind fun t305 => ((emulatorref01_Flags.f a0 a1).bind fun t306 => (if t305 = t306 then ((emulatorlaw01_alive.f k).bind fun t307 => (some t307)) else (some false)))) else (some false)))) else (some false)))) else (some false))) = some r := H
  have A3 := Aside0.mk A30
  clear A30
  replace H := Option.bind_eq_some_iff.mp H
  obtain ⟨t300, A40, H⟩ := H
  replace H : (if t299 = t300 then ((word_Signed.f a0).bind fun t301 => ((emulatorref01_Signed.f a0).bind fun t302 => (if t301 = t302 then ((word_Extend.f a0).bind fun t303 => ((emulatorref01_Extend.f a0).bind fun t304 => (if t303 = t304 then ((word_Flags.f a0 a1).bind fun t305 => ((emulatorref01_Flags.f a0 a1).bind fun t306 => (if t305 = t306 then ((emulatorlaw01_alive.f k).bind fun t307 => (some t307)) else (some false)))) else (some false)))) else (some false)))) else (some false)) = some r := H
  have A4 := Aside0.mk A40
  clear A40
  by_cases c5 : t299 = t300
  · rw [if_pos c5] at H
    have c5b0 : (t299 == t300) = true := beq_iff_eq.mpr c5
    have c5b1 : (t299 != t300) = false := bne_eq_false_iff_eq.mpr c5
    clear c5
    replace H := Option.bind_eq_some_iff.mp H
    obtain ⟨t301, A60, H⟩ := H
    replace H : ((emulatorref01_Signed.f a0).bind fun t302 => (if t301 = t302 then ((word_Extend.f a0).bind fun t303 => ((emulatorref01_Extend.f a0).bind fun t304 => (if t303 = t304 then ((word_Flags.f a0 a1).bind fun t305 => ((emulatorref01_Flags.f a0 a1).bind fun t306 => (if t305 = t306 then ((emulatorlaw01_alive.f k).bind fun t307 => (some t307)) else (some false)))) else (some false)))) else (some false))) = some r := H
    have A6 := Aside0.mk A60
    clear A60
    replace H := Option.bind_eq_some_iff.mp H
    obtain ⟨t302, A70, H⟩ := H
    replace H : (if t301 = t302 then ((word_Extend.f a0).bind fun t303 => ((emulatorref01_Extend.f a0).bind fun t304 => (if t303 = t304 then ((word_Flags.f a0 a1).bind fun t305 => ((emulatorref01_Flags.f a0 a1).bind fun t306 => (if t305 = t306 then ((emulatorlaw01_alive.f k).bind fun t307 => (some t307)) else (some false)))) else (some false)))) else (some false)) = some r := H
    have A7 := Aside0.mk A70
    clear A70
    by_cases c8 : t301 = t302
    · rw [if_pos c8] at H
      have c8b0 : (t301 == t302) = true := beq_iff_eq.mpr c8
      have c8b1 : (t301 != t302) = false := bne_eq_false_iff_eq.mpr c8
      clear c8
      replace H := Option.bind_eq_some_iff.mp H
      obtain ⟨t303, A90, H⟩ := H
      replace H : ((emulatorref01_Extend.f a0).bind fun t304 => (if t303 = t304 then ((word_Flags.f a0 a1).bind fun t305 => ((emulatorref01_Flags.f a0 a1).bind fun t306 => (if t305 = t306 then ((emulatorlaw01_alive.f k).bind fun t307 => (some t307)) else (some false)))) else (some false))) = some r := H
      have A9 := Aside0.mk A90
      clear A90
      replace H := Option.bind_eq_some_iff.mp H
      obtain ⟨t304, A100, H⟩ := H
      replace H : (if t303 = t304 then ((word_Flags.f a0 a1).bind fun t305 => ((emulatorref01_Flags.f a0 a1).bind fun t306 => (if t305 = t306 then ((emulatorlaw01_alive.f k).bind fun t307 => (some t307)) else (some false)))) else (some false)) = some r := H
      have A10 := Aside0.mk A100
      clear A100
      by_cases c11 : t303 = t304
      · rw [if_pos c11] at H
        have c11b0 : (t303 == t304) = true := beq_iff_eq.mpr c11
        have c11b1 : (t303 != t304) = false := bne_eq_false_iff_eq.mpr c11
        clear c11
        replace H := Option.bind_eq_some_iff.mp H
        obtain ⟨t305, A120, H⟩ := H
        replace H : ((emulatorref01_Flags.f a0 a1).bind fun t306 => (if t305 = t306 then ((emulatorlaw01_alive.f k).bind fun t307 => (some t307)) else (some false))) = some r := H
        have A12 := Aside0.mk A120
        clear A120
        replace H := Option.bind_eq_some_iff.mp H
        obtain ⟨t306, A130, H⟩ := H
        replace H : (if t305 = t306 then ((emulatorlaw01_alive.f k).bind fun t307 => (some t307)) else (some false)) = some r := H
        have A13 := Aside0.mk A130
        clear A130
        by_cases c14 : t305 = t306
        · rw [if_pos c14] at H
          have c14b0 : (t305 == t306) = true := beq_iff_eq.mpr c14
          have c14b1 : (t305 != t306) = false := bne_eq_false_iff_eq.mpr c14
          clear c14
          replace H := Option.bind_eq_some_iff.mp H
          obtain ⟨t307, A150, H⟩ := H
          replace H : (some t307) = some r := H
          have A15 := Aside0.mk A150
          clear A150
          obtain rfl := Option.some.inj H
          go_enter Tryd.func10, Tryd.ntmps10
          go_wp2_with (first | ((with_reducible refine gate_callee (f := 25) rfl ?_); refine goesL_ (some 6) rfl rfl Tryd.func25 (by kernel_rfl) rfl #[.int .i64 a0] rfl (by (try simp only [List.map_toArray, List.map_cons, List.map_nil]); first | done | rfl | (simp only [List.length_drop, List.length_take]; rfl)) ?_; (with_reducible refine (word_Wrap.calls a0 t299 _ A3.out).mono ?_); rintro e w' ⟨rfl, ⟨nd, rfl⟩⟩; refine ⟨_, rfl, ?_⟩) | ((with_reducible refine gate_callee (f := 26) rfl ?_); refine goesL_ (some 8) rfl rfl Tryd.func26 (by kernel_rfl) rfl #[.int .i64 a0] rfl (by (try simp only [List.map_toArray, List.map_cons, List.map_nil]); first | done | rfl | (simp only [List.length_drop, List.length_take]; rfl)) ?_; (with_reducible refine (emulatorref01_Wrap.calls a0 t300 _ A4.out).mono ?_); rintro e w' ⟨rfl, ⟨nd, rfl⟩⟩; refine ⟨_, rfl, ?_⟩) | (go_at_call 27; (with_reducible refine (word_Signed.calls a0 t301 _ A6.out).mono ?_); rintro e w' ⟨rfl, ⟨nd, rfl⟩⟩) | (go_at_call 28; (with_reducible refine (emulatorref01_Signed.calls a0 t302 _ A7.out).mono ?_); rintro e w' ⟨rfl, ⟨nd, rfl⟩⟩) | (go_at_call 29; (with_reducible refine (word_Extend.calls a0 t303 _ A9.out).mono ?_); rintro e w' ⟨rfl, ⟨nd, rfl⟩⟩) | (go_at_call 30; (with_reducible refine (emulatorref01_Extend.calls a0 t304 _ A10.out).mono ?_); rintro e w' ⟨rfl, ⟨nd, rfl⟩⟩) | (go_at_call 31; (with_reducible refine (word_Flags.calls a0 a1 t305 _ (hS.go (by repeat (first | (with_reducible first | exact HB.out | apply below_alloc | apply pw_below_drewN | apply below_drew1) | exact HB.out))) A12.out).mono ?_); rintro e w16 ⟨rfl, hb⟩; have n0_ := Aside0.mk (below_step (by repeat (first | (with_reducible first | exact HB.out | apply below_alloc | apply pw_below_drewN | apply below_drew1) | exact HB.out)) hb); clear HB; have HB := n0_; clear n0_; (try clear hb); (try clear hb2); (try clear hk); (try clear hi)) | (go_at_call 32; (with_reducible refine (emulatorref01_Flags.calls a0 a1 t306 _ A13.out).mono ?_); rintro e w' ⟨rfl, ⟨nd, rfl⟩⟩) | (go_at_call 15; (with_reducible refine (emulatorlaw01_alive.calls k  t307 _ (hS.go (by repeat (first | (with_reducible first | exact HB.out | apply below_alloc | apply pw_below_drewN | apply below_drew1) | exact HB.out))) A15.out).mono ?_); rintro e w17 ⟨rfl, hb⟩; have n0_ := Aside0.mk (below_step (by repeat (first | (with_reducible first | exact HB.out | apply below_alloc | apply pw_below_drewN | apply below_drew1) | exact HB.out)) hb); clear HB; have HB := n0_; clear n0_; (try clear hb); (try clear hb2); (try clear hk); (try clear hi)))
          go_ret
          exact ⟨by first | rfl | (simp [errW_none, errW_some] <;> rfl) | (simp [*, errW_none, errW_some] <;> rfl), by repeat (first | (with_reducible first | exact HB.out | apply below_alloc | apply pw_below_drewN | apply below_drew1) | exact HB.out)⟩
        · rw [if_neg c14] at H
          exact absurd (H.trans (congrArg some hr_.out)) (by decide)
      · rw [if_neg c11] at H
        exact absurd (H.trans (congrArg some hr_.out)) (by decide)
    · rw [if_neg c8] at H
      exact absurd (H.trans (congrArg some hr_.out)) (by decide)
  · rw [if_neg c5] at H
    exact absurd (H.trans (congrArg some hr_.out)) (by decide)

end Go.Proofs.YtiodpkkigjfkgaaDoor.A
