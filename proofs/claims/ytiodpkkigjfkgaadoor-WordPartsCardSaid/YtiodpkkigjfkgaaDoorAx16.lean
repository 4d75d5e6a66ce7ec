-- Written by a program of this session (mp.py) over the kit's print.py, with proofs by hand for what the print does not take.
import Derived.Test.YtiodpkkigjfkgaaDoorAx0
import Derived.Test.YtiodpkkigjfkgaaDoorAx7
import Derived.Test.YtiodpkkigjfkgaaDoorAx8
import Derived.Test.YtiodpkkigjfkgaaDoorAx11
import Derived.Test.YtiodpkkigjfkgaaDoorAx14
import Derived.Test.YtiodpkkigjfkgaaDoorAx15
namespace Go.Proofs.YtiodpkkigjfkgaaDoor.A
open Go.RowKit Go.Proofs.YtiodpkkigjfkgaaDoorW.PrintWords Go.Proofs.YtiodpkkigjfkgaaDoorW.PrintLast Go.Proofs.YtiodpkkigjfkgaaDoorW.PrintMore
attribute [local go_sem] max2_int min2_int max_two min_two max_three min_three max_four min_four   -- for this text's walks alone
set_option linter.unusedVariables false
set_option linter.unusedSimpArgs false

/-! ### emulatorlaw01_WordProducts: function 4 -/
def emulatorlaw01_WordProducts.j0 : Nat → Int → Int → Int → Bool → Option (Bool)
  | 0, _, _, _, _ => none
  | k + 1, x0, x1, x2, x47 => if x47 = true then (some false) else ((word_Div.f x0 x1 x2).bind fun bt214 => ((emulatorref01_Div.f k x0 x1 x2).bind fun bt218 => (if bt214.1 = bt218.1 then (if bt214.2.1 = bt218.2.1 then (if bt214.2.2.1 = bt218.2.2.1 then (if (bt214.2.2.2 == bt218.2.2.2) = true then ((emulatorlaw01_alive.f k).bind fun t222 => (some t222)) else (some false)) else (some false)) else (some false)) else (some false))))
def emulatorlaw01_WordProducts.f (k : Nat) (a0 : Int) (a1 : Int) (a2 : Int) : Option (Bool) := (word_Mul.f a0 a1).bind fun bt208 => ((emulatorref01_Mul.f k a0 a1).bind fun bt211 => (if bt208.1 = bt211.1 then (if bt208.2.1 = bt211.2.1 then (emulatorlaw01_WordProducts.j0 k a0 a1 a2 (bt208.2.2 != bt211.2.2)) else (emulatorlaw01_WordProducts.j0 k a0 a1 a2 true)) else (emulatorlaw01_WordProducts.j0 k a0 a1 a2 true)))
theorem emulatorlaw01_WordProducts.mono_l : ∀ k, (∀ y0 y1 y2 y3, LeO (emulatorlaw01_WordProducts.j0 k y0 y1 y2 y3) (emulatorlaw01_WordProducts.j0 (k + 1) y0 y1 y2 y3))
  | 0 => fun _ _ _ _ r h => by simp [emulatorlaw01_WordProducts.j0] at h
  | k + 1 => by
    have ih0 := emulatorlaw01_WordProducts.mono_l k
    · intro y0 y1 y2 y3
      unfold emulatorlaw01_WordProducts.j0
      repeat' first
      | (with_reducible exact ih0 _ _ _ _)
      | (with_reducible exact emulatorlaw01_alive.mono _)
      | (with_reducible exact emulatorref01_Div.mono _ _ _ _)
      | (with_reducible exact emulatorref01_Mul.mono _ _ _)
      | (with_reducible exact LeO.refl _)
      | (with_reducible exact LeO.none _)
      | (with_reducible refine LeO.ite ?_ ?_)
      | (with_reducible refine LeO.bind ?_ (fun _ => ?_))
      | exact ih0 _ _ _ _
      | exact emulatorlaw01_alive.mono _
      | exact emulatorref01_Div.mono _ _ _ _
      | exact emulatorref01_Mul.mono _ _ _
      | exact LeO.none _
      | refine LeO.ite ?_ ?_
      | refine LeO.bind ?_ (fun _ => ?_)
theorem emulatorlaw01_WordProducts.mono : ∀ a0 a1 a2 k, LeO (emulatorlaw01_WordProducts.f k a0 a1 a2) (emulatorlaw01_WordProducts.f (k + 1) a0 a1 a2) := by
  intro a0 a1 a2 k
  have ih0 := emulatorlaw01_WordProducts.mono_l k
  unfold emulatorlaw01_WordProducts.f
  repeat' first
      | (with_reducible exact ih0 _ _ _ _)
      | (with_reducible exact emulatorlaw01_alive.mono _)
      | (with_reducible exact emulatorref01_Div.mono _ _ _ _)
      | (with_reducible exact emulatorref01_Mul.mono _ _ _)
      | (with_reducible exact LeO.refl _)
      | (with_reducible exact LeO.none _)
      | (with_reducible refine LeO.ite ?_ ?_)
      | (with_reducible refine LeO.bind ?_ (fun _ => ?_))
      | exact ih0 _ _ _ _
      | exact emulatorlaw01_alive.mono _
      | exact emulatorref01_Div.mono _ _ _ _
      | exact emulatorref01_Mul.mono _ _ _
      | exact LeO.none _
      | refine LeO.ite ?_ ?_
      | refine LeO.bind ?_ (fun _ => ?_)
set_option maxHeartbeats 8000000 in
set_option maxRecDepth 100000 in
theorem emulatorlaw01_WordProducts.calls (k : Nat) (a0 : Int) (a1 : Int) (a2 : Int) (r : Bool) (w : World) (hS : Sz w) (h : emulatorlaw01_WordProducts.f k a0 a1 a2 = some r) (hr0 : r = true) :
    Calls Tryd.prog 4 #[.int .i64 a0, .int .i64 a1, .int .i64 a2] w fun e w' => e = .returned (.bool r) ∧ Below w.heap.size w w' := by
  have hr_ := Aside0.mk hr0
  clear hr0
  have HB := Aside0.mk (Below.refl w.heap.size w)
  have H : ((word_Mul.f a0 a1).bind fun bt208 => ((emulatorref01_Mul.f k a0 a1).bind fun bt211 => (if bt208.1 = bt211.1 then (if bt208.2.1 = bt211.2.1 then (emulatorlaw01_WordProducts.j0 k a0 a1 a2 (bt208.2.2 != bt211.2.2)) else (emulatorlaw01_WordProducts.j0 k a0 a1 a2 true)) else (emulatorlaw01_WordProducts.j0 k a0 a1 a2 true)))) = some r := h
  clear h
  replace H := Option.bind_eq_some_iff.mp H
  obtain ⟨⟨t208, t209, t210⟩, A40, H⟩ := H
  replace H : ((emulatorref01_Mul.f k a0 a1).bind fun bt211 => (if t208 = bt211.1 then (if t209 = bt211.2.1 then (emulatorlaw01_WordProducts.j0 k a0 a1 a2 (t210 != bt211.2.2)) else (emulatorlaw01_WordProducts.j0 k a0 a1 a2 true)) else (emulatorlaw01_WordProducts.j0 k a0 a1 a2 true))) = some r := H
  have A4 := Aside0.mk A40
  clear A40
  replace H := Option.bind_eq_some_iff.mp H
  obtain ⟨⟨t211, t212, t213⟩, A50, H⟩ := H
  replace H : (if t208 = t211 then (if t209 = t212 then (emulatorlaw01_WordProducts.j0 k a0 a1 a2 (t210 != t213)) else (emulatorlaw01_WordProducts.j0 k a0 a1 a2 true)) else (emulatorlaw01_WordProducts.j0 k a0 a1 a2 true)) = some r := H
  have A5 := Aside0.mk A50
  clear A50
  have HC6 := Aside0.mk H
  clear H
  go_enter Tryd.func4, Tryd.ntmps4
  go_upto_region 3 with (first | ((with_reducible refine gate_callee (f := 16) rfl ?_); refine goesL_ (some 24) rfl rfl Tryd.func16 (by kernel_rfl) rfl #[.int .i64 a0, .int .i64 a1] rfl (by (try simp only [List.map_toArray, List.map_cons, List.map_nil]); first | done | rfl | (simp only [List.length_drop, List.length_take]; rfl)) ?_; (with_reducible refine (word_Mul.calls a0 a1 t208 t209 t210 _ A4.out).mono ?_); rintro e w' ⟨rfl, ⟨nd, rfl⟩⟩; refine ⟨_, rfl, ?_⟩) | ((with_reducible refine gate_callee (f := 17) rfl ?_); refine goesL_ (some 31) rfl rfl Tryd.func17 (by kernel_rfl) rfl #[.int .i64 a0, .int .i64 a1] rfl (by (try simp only [List.map_toArray, List.map_cons, List.map_nil]); first | done | rfl | (simp only [List.length_drop, List.length_take]; rfl)) ?_; (with_reducible refine (emulatorref01_Mul.calls k a0 a1 t211 t212 t213 _ A5.out).mono ?_); rintro e w' ⟨rfl, ⟨nd, rfl⟩⟩; refine ⟨_, rfl, ?_⟩))
  (try simp only [Act.put, List.setIfInBounds_toArray, List.set_cons_zero, List.set_cons_succ])
  go_cut [47] (fun v47 wc => ∃ (kq : Nat) (x47_5 : Bool), v47 = .bool x47_5 ∧ Aside0 (emulatorlaw01_WordProducts.j0 kq a0 a1 a2 x47_5 = some r) ∧ Aside0 (kq ≤ k) ∧ Aside0 (Below w.heap.size w wc))
  case first =>
    have H := HC6.out
    clear HC6
    by_cases c7 : t208 = t211
    · rw [if_pos c7] at H
      have c7b0 : (t208 == t211) = true := beq_iff_eq.mpr c7
      have c7b1 : (t208 != t211) = false := bne_eq_false_iff_eq.mpr c7
      clear c7
      (first | rw [c7b0] | (simp only [i64_w, i32_w]; rw [c7b0]) | skip)
      by_cases c8 : t209 = t212
      · rw [if_pos c8] at H
        have c8b0 : (t209 == t212) = true := beq_iff_eq.mpr c8
        have c8b1 : (t209 != t212) = false := bne_eq_false_iff_eq.mpr c8
        clear c8
        have H' := Aside0.mk H
        clear H
        go_wp2
        go_meet
        case rel => exact ⟨_, ((t210 != t213)), (by first | rfl | (simp; done) | (simp [*]; done)), H', ⟨by first | omega | exact Nat.le_refl _⟩, ⟨by repeat (first | (with_reducible first | exact HB.out | apply below_alloc | apply pw_below_drewN | apply below_drew1) | exact HB.out)⟩⟩
      · rw [if_neg c8] at H
        have c8b0 : (t209 == t212) = false := beq_eq_false_iff_ne.mpr c8
        have c8b1 : (t209 != t212) = true := bne_iff_ne.mpr c8
        have H' := Aside0.mk H
        clear H
        go_wp2
        go_meet
        case rel => exact ⟨_, (true), (by first | rfl | (simp; done) | (simp [*]; done)), H', ⟨by first | omega | exact Nat.le_refl _⟩, ⟨by repeat (first | (with_reducible first | exact HB.out | apply below_alloc | apply pw_below_drewN | apply below_drew1) | exact HB.out)⟩⟩
    · rw [if_neg c7] at H
      have c7b0 : (t208 == t211) = false := beq_eq_false_iff_ne.mpr c7
      have c7b1 : (t208 != t211) = true := bne_iff_ne.mpr c7
      (first | rw [c7b0] | (simp only [i64_w, i32_w]; rw [c7b0]) | skip)
      have H' := Aside0.mk H
      clear H
      go_wp2
      go_meet
      case rel => exact ⟨_, (true), (by first | rfl | (simp; done) | (simp [*]; done)), H', ⟨by first | omega | exact Nat.le_refl _⟩, ⟨by repeat (first | (with_reducible first | exact HB.out | apply below_alloc | apply pw_below_drewN | apply below_drew1) | exact HB.out)⟩⟩
  case rest =>
    clear HC6
    try clear c1
    try clear p2
    try clear c4
    try clear c7
    try clear c7b0
    try clear c7b1
    try clear c8
    try clear c8b0
    try clear c8b1
    obtain ⟨kq, x47_5, rfl, HA, HJ5, HB⟩ := hcut
    cases kq with
    | zero => exact absurd HA.out (by simp [emulatorlaw01_WordProducts.j0])
    | succ kj5 =>
      have H := HA.out
      clear HA
      simp only [emulatorlaw01_WordProducts.j0] at H
      by_cases c9 : x47_5 = true
      · subst c9
        have H1 : (some false) = some r := by rw [if_pos rfl] at H; exact H
        clear H
        have H := H1
        clear H1
        exact absurd (H.trans (congrArg some hr_.out)) (by decide)
      · replace c9 := Bool.eq_false_iff.mpr c9
        subst c9
        have H1 : ((word_Div.f a0 a1 a2).bind fun bt214 => ((emulatorref01_Div.f kj5 a0 a1 a2).bind fun bt218 => (if bt214.1 = bt218.1 then (if bt214.2.1 = bt218.2.1 then (if bt214.2.2.1 = bt218.2.2.1 then (if (bt214.2.2.2 == bt218.2.2.2) = true then ((emulatorlaw01_alive.f kj5).bind fun t222 => (some t222)) else (some false)) else (some false)) else (some false)) else (some false)))) = some r := by rw [if_neg (show ¬ (false = true) by decide)] at H; exact H
        clear H
        have H := H1
        clear H1
        replace H := Option.bind_eq_some_iff.mp H
        obtain ⟨⟨t214, t215, t216, t217⟩, A100, H⟩ := H
        replace H : ((emulatorref01_Div.f kj5 a0 a1 a2).bind fun bt218 => (if t214 = bt218.1 then (if t215 = bt218.2.1 then (if t216 = bt218.2.2.1 then (if (t217 == bt218.2.2.2) = true then ((emulatorlaw01_alive.f kj5).bind fun t222 => (some t222)) else (some false)) else (some false)) else (some false)) else (some false))) = some r := H
        have A10 := Aside0.mk A100
        clear A100
        replace H := Option.bind_eq_some_iff.mp H
        obtain ⟨⟨t218, t219, t220, t221⟩, A110, H⟩ := H
        replace H : (if t214 = t218 then (if t215 = t219 then (if t216 = t220 then (if (t217 == t221) = true then ((emulatorlaw01_alive.f kj5).bind fun t222 => (some t222)) else (some false)) else (some false)) else (some false)) else (some false)) = some r := H
        have A11 := Aside0.mk A110
        clear A110
        by_cases c12 : t214 = t218
        · rw [if_pos c12] at H
          have c12b0 : (t214 == t218) = true := beq_iff_eq.mpr c12
          have c12b1 : (t214 != t218) = false := bne_eq_false_iff_eq.mpr c12
          clear c12
          by_cases c13 : t215 = t219
          · rw [if_pos c13] at H
            have c13b0 : (t215 == t219) = true := beq_iff_eq.mpr c13
            have c13b1 : (t215 != t219) = false := bne_eq_false_iff_eq.mpr c13
            clear c13
            by_cases c14 : t216 = t220
            · rw [if_pos c14] at H
              have c14b0 : (t216 == t220) = true := beq_iff_eq.mpr c14
              have c14b1 : (t216 != t220) = false := bne_eq_false_iff_eq.mpr c14
              clear c14
              by_cases c15 : (t217 == t221) = true
              · rw [if_pos c15] at H
                have c15b0 : (t217 == t221) = true := c15
                (try (have c15b1 : decide (t217 = t221) = true := by simpa using c15))
                (try (have c15b2 : (t217 == t221) = true := by simpa using c15))
                clear c15
                replace H := Option.bind_eq_some_iff.mp H
                obtain ⟨t222, A160, H⟩ := H
                replace H : (some t222) = some r := H
                have A16 := Aside0.mk A160
                clear A160
                obtain rfl := Option.some.inj H
                go_wp2_with (first | ((with_reducible refine gate_callee (f := 18) rfl ?_); refine goesL_ (some 52) rfl rfl Tryd.func18 (by kernel_rfl) rfl #[.int .i64 a0, .int .i64 a1, .int .i64 a2] rfl (by (try simp only [List.map_toArray, List.map_cons, List.map_nil]); first | done | rfl | (simp only [List.length_drop, List.length_take]; rfl)) ?_; (with_reducible refine (word_Div.calls a0 a1 a2 t214 t215 t216 t217 _ (hS.go (by repeat (first | (with_reducible first | exact HB.out | apply below_alloc | apply pw_below_drewN | apply below_drew1) | exact HB.out))) A10.out).mono ?_); rintro e w17 ⟨rfl, hb⟩; refine ⟨_, rfl, ?_⟩; have n0_ := Aside0.mk (below_step (by repeat (first | (with_reducible first | exact HB.out | apply below_alloc | apply pw_below_drewN | apply below_drew1) | exact HB.out)) hb); clear HB; have HB := n0_; clear n0_; (try clear hb); (try clear hb2); (try clear hk); (try clear hi)) | ((with_reducible refine gate_callee (f := 19) rfl ?_); refine goesL_ (some 61) rfl rfl Tryd.func19 (by kernel_rfl) rfl #[.int .i64 a0, .int .i64 a1, .int .i64 a2] rfl (by (try simp only [List.map_toArray, List.map_cons, List.map_nil]); first | done | rfl | (simp only [List.length_drop, List.length_take]; rfl)) ?_; (with_reducible refine (emulatorref01_Div.calls kj5 a0 a1 a2 t218 t219 t220 t221 _ A11.out).mono ?_); rintro e w' ⟨rfl, ⟨nd, rfl⟩⟩; refine ⟨_, rfl, ?_⟩) | (go_at_call 15; (with_reducible refine (emulatorlaw01_alive.calls kj5  t222 _ (hS.go (by repeat (first | (with_reducible first | exact HB.out | apply below_alloc | apply pw_below_drewN | apply below_drew1) | exact HB.out))) A16.out).mono ?_); rintro e w18 ⟨rfl, hb⟩; have n0_ := Aside0.mk (below_step (by repeat (first | (with_reducible first | exact HB.out | apply below_alloc | apply pw_below_drewN | apply below_drew1) | exact HB.out)) hb); clear HB; have HB := n0_; clear n0_; (try clear hb); (try clear hb2); (try clear hk); (try clear hi)))
                go_ret
                exact ⟨by first | rfl | (simp [errW_none, errW_some] <;> rfl) | (simp [*, errW_none, errW_some] <;> rfl), by repeat (first | (with_reducible first | exact HB.out | apply below_alloc | apply pw_below_drewN | apply below_drew1) | exact HB.out)⟩
              · rw [if_neg c15] at H
                exact absurd (H.trans (congrArg some hr_.out)) (by decide)
            · rw [if_neg c14] at H
              exact absurd (H.trans (congrArg some hr_.out)) (by decide)
          · rw [if_neg c13] at H
            exact absurd (H.trans (congrArg some hr_.out)) (by decide)
        · rw [if_neg c12] at H
          exact absurd (H.trans (congrArg some hr_.out)) (by decide)

end Go.Proofs.YtiodpkkigjfkgaaDoor.A
