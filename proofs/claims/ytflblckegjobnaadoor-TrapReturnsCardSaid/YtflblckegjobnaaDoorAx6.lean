-- Written by a program of this session (mp.py) over the kit's print.py, with proofs by hand for what the print does not take.
import Derived.Test.YtflblckegjobnaaDoorAx0
import Derived.Test.YtflblckegjobnaaDoorAx1
import Derived.Test.YtflblckegjobnaaDoorAx2
import Derived.Test.YtflblckegjobnaaDoorAx3
namespace Go.Proofs.YtflblckegjobnaaDoor.A
open Go.RowKit Go.Proofs.YtflblckegjobnaaDoorW.PrintWords Go.Proofs.YtflblckegjobnaaDoorW.PrintLast Go.Proofs.YtflblckegjobnaaDoorW.PrintMore
attribute [local go_sem] max2_int min2_int max_two min_two max_three min_three max_four min_four   -- for this text's walks alone
set_option linter.unusedVariables false
set_option linter.unusedSimpArgs false

/-! ### emulatorlaw11_TrapReturns: function 6 -/
mutual
def emulatorlaw11_TrapReturns.j0 : Nat → Int → Int → Bool → Option (Bool)
  | 0, _, _, _ => none
  | k + 1, x5, x6, x31 => if x31 = true then (some false) else (if x5 = x6 then (emulatorlaw11_TrapReturns.j1 k x5 false) else ((trap_Vector.f x5).bind fun t177 => ((trap_Vector.f x6).bind fun t178 => (if t177 = t178 then (emulatorlaw11_TrapReturns.j1 k x5 true) else ((trap_Name.f x5).bind fun t179 => ((trap_Name.f x6).bind fun t180 => (emulatorlaw11_TrapReturns.j1 k x5 (t179.toList == t180.toList))))))))
def emulatorlaw11_TrapReturns.j1 : Nat → Int → Bool → Option (Bool)
  | 0, _, _ => none
  | k + 1, x5, x48 => if x48 = true then (some false) else ((trap_Vector.f x5).bind fun t181 => ((trap_Name.f x5).bind fun t182 => (if ((t181 != 0) == (t182.toList != ([] : List UInt8))) = true then ((emulatorlaw11_alive.f k).bind fun t183 => (some t183)) else (some false))))
end
def emulatorlaw11_TrapReturns.f (k : Nat) (a0 : Int) (a1 : Int) : Option (Bool) := (trap_Vector.f a0).bind fun t169 => (if t169 = 0 then ((trap_Vector.f a0).bind fun t170 => ((trap_Name.f a0).bind fun t171 => (if ((t170 != 0) == (t171.toList != ([] : List UInt8))) = true then ((emulatorlaw11_alive.f k).bind fun t172 => (some t172)) else (some false)))) else ((trap_Vector.f a0).bind fun t173 => ((trap_ByVector.f t173).bind fun bt174 => (if bt174.2 = true then (if bt174.1 = a0 then ((trap_Name.f a0).bind fun t176 => (emulatorlaw11_TrapReturns.j0 k a0 a1 (t176.toList == ([] : List UInt8)))) else (emulatorlaw11_TrapReturns.j0 k a0 a1 true)) else (emulatorlaw11_TrapReturns.j0 k a0 a1 true)))))
theorem emulatorlaw11_TrapReturns.mono_l : ∀ k, (∀ y0 y1 y2, LeO (emulatorlaw11_TrapReturns.j0 k y0 y1 y2) (emulatorlaw11_TrapReturns.j0 (k + 1) y0 y1 y2)) ∧ (∀ y0 y1, LeO (emulatorlaw11_TrapReturns.j1 k y0 y1) (emulatorlaw11_TrapReturns.j1 (k + 1) y0 y1))
  | 0 => ⟨fun _ _ _ r h => by simp [emulatorlaw11_TrapReturns.j0] at h, fun _ _ r h => by simp [emulatorlaw11_TrapReturns.j1] at h⟩
  | k + 1 => by
    obtain ⟨ih0, ih1⟩ := emulatorlaw11_TrapReturns.mono_l k
    refine ⟨?_, ?_⟩
    · intro y0 y1 y2
      unfold emulatorlaw11_TrapReturns.j0
      repeat' first
      | (with_reducible exact ih0 _ _ _)
      | (with_reducible exact ih1 _ _)
      | (with_reducible exact emulatorlaw11_alive.mono _)
      | (with_reducible exact LeO.refl _)
      | (with_reducible exact LeO.none _)
      | (with_reducible refine LeO.ite ?_ ?_)
      | (with_reducible refine LeO.bind ?_ (fun _ => ?_))
      | exact ih0 _ _ _
      | exact ih1 _ _
      | exact emulatorlaw11_alive.mono _
      | exact LeO.none _
      | refine LeO.ite ?_ ?_
      | refine LeO.bind ?_ (fun _ => ?_)
    · intro y0 y1
      unfold emulatorlaw11_TrapReturns.j1
      repeat' first
      | (with_reducible exact ih0 _ _ _)
      | (with_reducible exact ih1 _ _)
      | (with_reducible exact emulatorlaw11_alive.mono _)
      | (with_reducible exact LeO.refl _)
      | (with_reducible exact LeO.none _)
      | (with_reducible refine LeO.ite ?_ ?_)
      | (with_reducible refine LeO.bind ?_ (fun _ => ?_))
      | exact ih0 _ _ _
      | exact ih1 _ _
      | exact emulatorlaw11_alive.mono _
      | exact LeO.none _
      | refine LeO.ite ?_ ?_
      | refine LeO.bind ?_ (fun _ => ?_)
theorem emulatorlaw11_TrapReturns.mono : ∀ a0 a1 k, LeO (emulatorlaw11_TrapReturns.f k a0 a1) (emulatorlaw11_TrapReturns.f (k + 1) a0 a1) := by
  intro a0 a1 k
  obtain ⟨ih0, ih1⟩ := emulatorlaw11_TrapReturns.mono_l k
  unfold emulatorlaw11_TrapReturns.f
  repeat' first
      | (with_reducible exact ih0 _ _ _)
      | (with_reducible exact ih1 _ _)
      | (with_reducible exact emulatorlaw11_alive.mono _)
      | (with_reducible exact LeO.refl _)
      | (with_reducible exact LeO.none _)
      | (with_reducible refine LeO.ite ?_ ?_)
      | (with_reducible refine LeO.bind ?_ (fun _ => ?_))
      | exact ih0 _ _ _
      | exact ih1 _ _
      | exact emulatorlaw11_alive.mono _
      | exact LeO.none _
      | refine LeO.ite ?_ ?_
      | refine LeO.bind ?_ (fun _ => ?_)
set_option maxHeartbeats 8000000 in
set_option maxRecDepth 100000 in
theorem emulatorlaw11_TrapReturns.calls (k : Nat) (a0 : Int) (a1 : Int) (r : Bool) (w : World) (hS : Sz w) (h : emulatorlaw11_TrapReturns.f k a0 a1 = some r) (hr0 : r = true) :
    Calls Tryd.prog 6 #[.int .i64 a0, .int .i64 a1] w fun e w' => e = .returned (.bool r) ∧ Below w.heap.size w w' := by
  have hr_ := Aside0.mk hr0
  clear hr0
  have HB := Aside0.mk (Below.refl w.heap.size w)
  have H : ((trap_Vector.f a0).bind fun t169 => (if t169 = 0 then ((trap_Vector.f a0).bind fun t170 => ((trap_Name.f a0).bind fun t171 => (if ((t170 != 0) == (t171.toList != ([] : List UInt8))) = true then ((emulatorlaw11_alive.f k).bind fun t172 => (some t172)) else (some false)))) else ((trap_Vector.f a0).bind fun t173 => ((trap_ByVector.f t173).bind fun bt174 => (if bt174.2 = true then (if bt174.1 = a0 then ((trap_Name.f a0).bind fun t176 => (emulatorlaw11_TrapReturns.j0 k a0 a1 (t176.toList == ([] : List UInt8)))) else (emulatorlaw11_TrapReturns.j0 k a0 a1 true)) else (emulatorlaw11_TrapReturns.j0 k a0 a1 true)))))) = some r := h
  clear h
  replace H := Option.bind_eq_some_iff.mp H
  obtain ⟨t169, A30, H⟩ := H
  replace H : (if t169 = 0 then ((trap_Vector.f a0).bind fun t170 => ((trap_Name.f a0).bind fun t171 => (if ((t170 != 0) == (t171.toList != ([] : List UInt8))) = true then ((emulatorlaw11_alive.f k).bind fun t172 => (some t172)) else (some false)))) else ((trap_Vector.f a0).bind fun t173 => ((trap_ByVector.f t173).bind fun bt174 => (if bt174.2 = true then (if bt174.1 = a0 then ((trap_Name.f a0).bind fun t176 => (emulatorlaw11_TrapReturns.j0 k a0 a1 (t176.toList == ([] : List UInt8)))) else (emulatorlaw11_TrapReturns.j0 k a0 a1 true)) else (emulatorlaw11_TrapReturns.j0 k a0 a1 true))))) = some r := H
  have A3 := Aside0.mk A30
  clear A30
  by_cases c4 : t169 = 0
  · rw [if_pos c4] at H
    have c4b0 : (t169 == 0) = true := beq_iff_eq.mpr c4
    have c4b1 : (t169 != 0) = false := bne_eq_false_iff_eq.mpr c4
    clear c4
    replace H := Option.bind_eq_some_iff.mp H
    obtain ⟨t170, A50, H⟩ := H
    replace H : ((trap_Name.f a0).bind fun t171 => (if ((t170 != 0) == (t171.toList != ([] : List UInt8))) = true then ((emulatorlaw11_alive.f k).bind fun t172 => (some t172)) else (some false))) = some r := H
    have A5 := Aside0.mk A50
    clear A50
    replace H := Option.bind_eq_some_iff.mp H
    obtain ⟨t171, A60, H⟩ := H
    replace H : (if ((t170 != 0) == (t171.toList != ([] : List UInt8))) = true then ((emulatorlaw11_alive.f k).bind fun t172 => (some t172)) else (some false)) = some r := H
    have A6 := Aside0.mk A60
    clear A60
    by_cases c7 : ((t170 != 0) == (t171.toList != ([] : List UInt8))) = true
    · rw [if_pos c7] at H
      have c7b0 : ((t170 != 0) == (t171.toList != ([] : List UInt8))) = true := c7
      (try (have c7b1 : decide ((t170 != 0) = (t171.toList != ([] : List UInt8))) = true := by simpa using c7))
      (try (have c7b2 : ((t170 != 0) == (t171.toList != ([] : List UInt8))) = true := by simpa using c7))
      clear c7
      replace H := Option.bind_eq_some_iff.mp H
      obtain ⟨t172, A80, H⟩ := H
      replace H : (some t172) = some r := H
      have A8 := Aside0.mk A80
      clear A80
      obtain rfl := Option.some.inj H
      go_enter Tryd.func6, Tryd.ntmps6
      go_wp2_with (first | ((with_reducible refine gate_callee (f := 9) rfl ?_); refine goesL_ (some 12) rfl rfl Tryd.func9 (by kernel_rfl) rfl #[.int .i64 a0] rfl (by (try simp only [List.map_toArray, List.map_cons, List.map_nil]); first | done | rfl | (simp only [List.length_drop, List.length_take]; rfl)) ?_; (with_reducible refine (trap_Vector.calls a0 t169 _ A3.out).mono ?_); rintro e w' ⟨rfl, ⟨nd, rfl⟩⟩; refine ⟨_, rfl, ?_⟩) | ((with_reducible refine gate_callee (f := 9) rfl ?_); refine goesL_ (some 50) rfl rfl Tryd.func9 (by kernel_rfl) rfl #[.int .i64 a0] rfl (by (try simp only [List.map_toArray, List.map_cons, List.map_nil]); first | done | rfl | (simp only [List.length_drop, List.length_take]; rfl)) ?_; (with_reducible refine (trap_Vector.calls a0 t170 _ A5.out).mono ?_); rintro e w' ⟨rfl, ⟨nd, rfl⟩⟩; refine ⟨_, rfl, ?_⟩) | ((with_reducible refine gate_callee (f := 12) rfl ?_); refine goesL_ (some 53) rfl rfl Tryd.func12 (by kernel_rfl) rfl #[.int .i64 a0] rfl (by (try simp only [List.map_toArray, List.map_cons, List.map_nil]); first | done | rfl | (simp only [List.length_drop, List.length_take]; rfl)) ?_; (with_reducible refine (trap_Name.calls a0 t171 _ (hS.go (by repeat (first | (with_reducible first | exact HB.out | apply below_alloc | apply pw_below_drewN | apply below_drew1) | exact HB.out))) A6.out).mono ?_); rintro e w9 ⟨rfl, hb⟩; refine ⟨_, rfl, ?_⟩; have n0_ := Aside0.mk (below_step (by repeat (first | (with_reducible first | exact HB.out | apply below_alloc | apply pw_below_drewN | apply below_drew1) | exact HB.out)) hb); clear HB; have HB := n0_; clear n0_; (try clear hb); (try clear hb2); (try clear hk); (try clear hi)) | (go_at_call 11; (with_reducible refine (emulatorlaw11_alive.calls k  t172 _ (hS.go (by repeat (first | (with_reducible first | exact HB.out | apply below_alloc | apply pw_below_drewN | apply below_drew1) | exact HB.out))) A8.out).mono ?_); rintro e w10 ⟨rfl, hb⟩; have n0_ := Aside0.mk (below_step (by repeat (first | (with_reducible first | exact HB.out | apply below_alloc | apply pw_below_drewN | apply below_drew1) | exact HB.out)) hb); clear HB; have HB := n0_; clear n0_; (try clear hb); (try clear hb2); (try clear hk); (try clear hi)))
      go_ret
      exact ⟨by first | rfl | (simp [errW_none, errW_some] <;> rfl) | (simp [*, errW_none, errW_some] <;> rfl), by repeat (first | (with_reducible first | exact HB.out | apply below_alloc | apply pw_below_drewN | apply below_drew1) | exact HB.out)⟩
      all_goals (exfalso; rename_i hx; exact hx ((beq_iff_eq.1 c7b0).trans (ne_nil_ _)))
    · rw [if_neg c7] at H
      exact absurd (H.trans (congrArg some hr_.out)) (by decide)
  · rw [if_neg c4] at H
    have c4b0 : (t169 == 0) = false := beq_eq_false_iff_ne.mpr c4
    have c4b1 : (t169 != 0) = true := bne_iff_ne.mpr c4
    replace H := Option.bind_eq_some_iff.mp H
    obtain ⟨t173, A120, H⟩ := H
    replace H : ((trap_ByVector.f t173).bind fun bt174 => (if bt174.2 = true then (if bt174.1 = a0 then ((trap_Name.f a0).bind fun t176 => (emulatorlaw11_TrapReturns.j0 k a0 a1 (t176.toList == ([] : List UInt8)))) else (emulatorlaw11_TrapReturns.j0 k a0 a1 true)) else (emulatorlaw11_TrapReturns.j0 k a0 a1 true))) = some r := H
    have A12 := Aside0.mk A120
    clear A120
    replace H := Option.bind_eq_some_iff.mp H
    obtain ⟨⟨t174, t175⟩, A130, H⟩ := H
    replace H : (if t175 = true then (if t174 = a0 then ((trap_Name.f a0).bind fun t176 => (emulatorlaw11_TrapReturns.j0 k a0 a1 (t176.toList == ([] : List UInt8)))) else (emulatorlaw11_TrapReturns.j0 k a0 a1 true)) else (emulatorlaw11_TrapReturns.j0 k a0 a1 true)) = some r := H
    have A13 := Aside0.mk A130
    clear A130
    have HC14 := Aside0.mk H
    clear H
    go_enter Tryd.func6, Tryd.ntmps6
    go_upto_region 4 with (first | ((with_reducible refine gate_callee (f := 9) rfl ?_); refine goesL_ (some 12) rfl rfl Tryd.func9 (by kernel_rfl) rfl #[.int .i64 a0] rfl (by (try simp only [List.map_toArray, List.map_cons, List.map_nil]); first | done | rfl | (simp only [List.length_drop, List.length_take]; rfl)) ?_; (with_reducible refine (trap_Vector.calls a0 t169 _ A3.out).mono ?_); rintro e w' ⟨rfl, ⟨nd, rfl⟩⟩; refine ⟨_, rfl, ?_⟩) | ((with_reducible refine gate_callee (f := 9) rfl ?_); refine goesL_ (some 16) rfl rfl Tryd.func9 (by kernel_rfl) rfl #[.int .i64 a0] rfl (by (try simp only [List.map_toArray, List.map_cons, List.map_nil]); first | done | rfl | (simp only [List.length_drop, List.length_take]; rfl)) ?_; (with_reducible refine (trap_Vector.calls a0 t173 _ A12.out).mono ?_); rintro e w' ⟨rfl, ⟨nd, rfl⟩⟩; refine ⟨_, rfl, ?_⟩) | ((with_reducible refine gate_callee (f := 7) rfl ?_); refine goesL_ (some 17) rfl rfl Tryd.func7 (by kernel_rfl) rfl #[.int .i64 t173] rfl (by (try simp only [List.map_toArray, List.map_cons, List.map_nil]); first | done | rfl | (simp only [List.length_drop, List.length_take]; rfl)) ?_; (with_reducible refine (trap_ByVector.calls t173 t174 t175 _ A13.out).mono ?_); rintro e w' ⟨rfl, ⟨nd, rfl⟩⟩; refine ⟨_, rfl, ?_⟩))
    (try simp only [Act.put, List.setIfInBounds_toArray, List.set_cons_zero, List.set_cons_succ])
    go_cut [31] (fun v31 wc => ∃ (kq : Nat) (x31_13 : Bool), v31 = .bool x31_13 ∧ Aside0 (emulatorlaw11_TrapReturns.j0 kq a0 a1 x31_13 = some r) ∧ Aside0 (kq ≤ k) ∧ Aside0 (Below w.heap.size w wc))
    case first =>
      have H := HC14.out
      clear HC14
      by_cases c15 : t175 = true
      · subst c15
        have H1 : (if t174 = a0 then ((trap_Name.f a0).bind fun t176 => (emulatorlaw11_TrapReturns.j0 k a0 a1 (t176.toList == ([] : List UInt8)))) else (emulatorlaw11_TrapReturns.j0 k a0 a1 true)) = some r := by rw [if_pos rfl] at H; exact H
        clear H
        have H := H1
        clear H1
        by_cases c16 : t174 = a0
        · rw [if_pos c16] at H
          have c16b0 : (t174 == a0) = true := beq_iff_eq.mpr c16
          have c16b1 : (t174 != a0) = false := bne_eq_false_iff_eq.mpr c16
          clear c16
          (first | rw [c16b0] | (simp only [i64_w, i32_w]; rw [c16b0]) | skip)
          replace H := Option.bind_eq_some_iff.mp H
          obtain ⟨t176, A170, H⟩ := H
          replace H : (emulatorlaw11_TrapReturns.j0 k a0 a1 (t176.toList == ([] : List UInt8))) = some r := H
          have A17 := Aside0.mk A170
          clear A170
          have H' := Aside0.mk H
          clear H
          go_wp2_with (first | (go_at_call 12; (with_reducible refine (trap_Name.calls a0 t176 _ (hS.go (by repeat (first | (with_reducible first | exact HB.out | apply below_alloc | apply pw_below_drewN | apply below_drew1) | exact HB.out))) A17.out).mono ?_); rintro e w18 ⟨rfl, hb⟩; have n0_ := Aside0.mk (below_step (by repeat (first | (with_reducible first | exact HB.out | apply below_alloc | apply pw_below_drewN | apply below_drew1) | exact HB.out)) hb); clear HB; have HB := n0_; clear n0_; (try clear hb); (try clear hb2); (try clear hk); (try clear hi)))
          go_meet
          case rel => exact ⟨_, ((t176.toList == ([] : List UInt8))), (by first | rfl | (simp; done) | (simp [*]; done)), H', ⟨by first | omega | exact Nat.le_refl _⟩, ⟨by repeat (first | (with_reducible first | exact HB.out | apply below_alloc | apply pw_below_drewN | apply below_drew1) | exact HB.out)⟩⟩
        · rw [if_neg c16] at H
          have c16b0 : (t174 == a0) = false := beq_eq_false_iff_ne.mpr c16
          have c16b1 : (t174 != a0) = true := bne_iff_ne.mpr c16
          (first | rw [c16b0] | (simp only [i64_w, i32_w]; rw [c16b0]) | skip)
          have H' := Aside0.mk H
          clear H
          go_wp2
          go_meet
          case rel => exact ⟨_, (true), (by first | rfl | (simp; done) | (simp [*]; done)), H', ⟨by first | omega | exact Nat.le_refl _⟩, ⟨by repeat (first | (with_reducible first | exact HB.out | apply below_alloc | apply pw_below_drewN | apply below_drew1) | exact HB.out)⟩⟩
      · replace c15 := Bool.eq_false_iff.mpr c15
        subst c15
        have H1 : (emulatorlaw11_TrapReturns.j0 k a0 a1 true) = some r := by rw [if_neg (show ¬ (false = true) by decide)] at H; exact H
        clear H
        have H := H1
        clear H1
        have H' := Aside0.mk H
        clear H
        go_wp2
        go_meet
        case rel => exact ⟨_, (true), (by first | rfl | (simp; done) | (simp [*]; done)), H', ⟨by first | omega | exact Nat.le_refl _⟩, ⟨by repeat (first | (with_reducible first | exact HB.out | apply below_alloc | apply pw_below_drewN | apply below_drew1) | exact HB.out)⟩⟩
    case rest =>
      clear HC14
      try clear c1
      try clear p2
      try clear c4
      try clear c4b0
      try clear c4b1
      try clear c6
      try clear c7
      try clear c7b0
      try clear c7b1
      try clear c7b2
      try clear c9
      try clear c12
      try clear c15
      try clear c16
      try clear c16b0
      try clear c16b1
      obtain ⟨kq, x31_13, rfl, HA, HJ13, HB⟩ := hcut
      cases kq with
      | zero => exact absurd HA.out (by simp [emulatorlaw11_TrapReturns.j0])
      | succ kj13 =>
        have H := HA.out
        clear HA
        simp only [emulatorlaw11_TrapReturns.j0] at H
        by_cases c19 : x31_13 = true
        · subst c19
          have H1 : (some false) = some r := by rw [if_pos rfl] at H; exact H
          clear H
          have H := H1
          clear H1
          exact absurd (H.trans (congrArg some hr_.out)) (by decide)
        · replace c19 := Bool.eq_false_iff.mpr c19
          subst c19
          have H1 : (if a0 = a1 then (emulatorlaw11_TrapReturns.j1 kj13 a0 false) else ((trap_Vector.f a0).bind fun t177 => ((trap_Vector.f a1).bind fun t178 => (if t177 = t178 then (emulatorlaw11_TrapReturns.j1 kj13 a0 true) else ((trap_Name.f a0).bind fun t179 => ((trap_Name.f a1).bind fun t180 => (emulatorlaw11_TrapReturns.j1 kj13 a0 (t179.toList == t180.toList)))))))) = some r := by rw [if_neg (show ¬ (false = true) by decide)] at H; exact H
          clear H
          have H := H1
          clear H1
          have HC20 := Aside0.mk H
          clear H
          go_upto_region 6 with (fail)
          go_cut [48] (fun v48 wc => ∃ (kq : Nat) (x48_19 : Bool), v48 = .bool x48_19 ∧ Aside0 (emulatorlaw11_TrapReturns.j1 kq a0 x48_19 = some r) ∧ Aside0 (kq ≤ kj13) ∧ Aside0 (Below w.heap.size w wc))
          case first =>
            have H := HC20.out
            clear HC20
            by_cases c21 : a0 = a1
            · rw [if_pos c21] at H
              have c21b0 : (a0 == a1) = true := beq_iff_eq.mpr c21
              have c21b1 : (a0 != a1) = false := bne_eq_false_iff_eq.mpr c21
              clear c21
              (first | rw [c21b0] | (simp only [i64_w, i32_w]; rw [c21b0]) | skip)
              have H' := Aside0.mk H
              clear H
              go_wp2
              go_meet
              case rel => exact ⟨_, (false), (by first | rfl | (simp; done) | (simp [*]; done)), H', ⟨by have := HJ13.out; first | omega | exact Nat.le_refl _⟩, ⟨by repeat (first | (with_reducible first | exact HB.out | apply below_alloc | apply pw_below_drewN | apply below_drew1) | exact HB.out)⟩⟩
            · rw [if_neg c21] at H
              have c21b0 : (a0 == a1) = false := beq_eq_false_iff_ne.mpr c21
              have c21b1 : (a0 != a1) = true := bne_iff_ne.mpr c21
              (first | rw [c21b0] | (simp only [i64_w, i32_w]; rw [c21b0]) | skip)
              replace H := Option.bind_eq_some_iff.mp H
              obtain ⟨t177, A220, H⟩ := H
              replace H : ((trap_Vector.f a1).bind fun t178 => (if t177 = t178 then (emulatorlaw11_TrapReturns.j1 kj13 a0 true) else ((trap_Name.f a0).bind fun t179 => ((trap_Name.f a1).bind fun t180 => (emulatorlaw11_TrapReturns.j1 kj13 a0 (t179.toList == t180.toList)))))) = some r := H
              have A22 := Aside0.mk A220
              clear A220
              replace H := Option.bind_eq_some_iff.mp H
              obtain ⟨t178, A230, H⟩ := H
              replace H : (if t177 = t178 then (emulatorlaw11_TrapReturns.j1 kj13 a0 true) else ((trap_Name.f a0).bind fun t179 => ((trap_Name.f a1).bind fun t180 => (emulatorlaw11_TrapReturns.j1 kj13 a0 (t179.toList == t180.toList))))) = some r := H
              have A23 := Aside0.mk A230
              clear A230
              by_cases c24 : t177 = t178
              · rw [if_pos c24] at H
                have c24b0 : (t177 == t178) = true := beq_iff_eq.mpr c24
                have c24b1 : (t177 != t178) = false := bne_eq_false_iff_eq.mpr c24
                clear c24
                have H' := Aside0.mk H
                clear H
                go_wp2_with (first | (go_at_call 9; (with_reducible refine (trap_Vector.calls a0 t177 _ A22.out).mono ?_); rintro e w' ⟨rfl, ⟨nd, rfl⟩⟩) | (go_at_call 9; (with_reducible refine (trap_Vector.calls a1 t178 _ A23.out).mono ?_); rintro e w' ⟨rfl, ⟨nd, rfl⟩⟩))
                go_meet
                case rel => exact ⟨_, (true), (by first | rfl | (simp; done) | (simp [*]; done)), H', ⟨by have := HJ13.out; first | omega | exact Nat.le_refl _⟩, ⟨by repeat (first | (with_reducible first | exact HB.out | apply below_alloc | apply pw_below_drewN | apply below_drew1) | exact HB.out)⟩⟩
              · rw [if_neg c24] at H
                have c24b0 : (t177 == t178) = false := beq_eq_false_iff_ne.mpr c24
                have c24b1 : (t177 != t178) = true := bne_iff_ne.mpr c24
                replace H := Option.bind_eq_some_iff.mp H
                obtain ⟨t179, A250, H⟩ := H
                replace H : ((trap_Name.f a1).bind fun t180 => (emulatorlaw11_TrapReturns.j1 kj13 a0 (t179.toList == t180.toList))) = some r := H
                have A25 := Aside0.mk A250
                clear A250
                replace H := Option.bind_eq_some_iff.mp H
                obtain ⟨t180, A260, H⟩ := H
                replace H : (emulatorlaw11_TrapReturns.j1 kj13 a0 (t179.toList == t180.toList)) = some r := H
                have A26 := Aside0.mk A260
                clear A260
                have H' := Aside0.mk H
                clear H
                go_wp2_with (first | (go_at_call 9; (with_reducible refine (trap_Vector.calls a0 t177 _ A22.out).mono ?_); rintro e w' ⟨rfl, ⟨nd, rfl⟩⟩) | (go_at_call 9; (with_reducible refine (trap_Vector.calls a1 t178 _ A23.out).mono ?_); rintro e w' ⟨rfl, ⟨nd, rfl⟩⟩) | (go_at_call 12; (with_reducible refine (trap_Name.calls a0 t179 _ (hS.go (by repeat (first | (with_reducible first | exact HB.out | apply below_alloc | apply pw_below_drewN | apply below_drew1) | exact HB.out))) A25.out).mono ?_); rintro e w27 ⟨rfl, hb⟩; have n0_ := Aside0.mk (below_step (by repeat (first | (with_reducible first | exact HB.out | apply below_alloc | apply pw_below_drewN | apply below_drew1) | exact HB.out)) hb); clear HB; have HB := n0_; clear n0_; (try clear hb); (try clear hb2); (try clear hk); (try clear hi)) | (go_at_call 12; (with_reducible refine (trap_Name.calls a1 t180 _ (hS.go (by repeat (first | (with_reducible first | exact HB.out | apply below_alloc | apply pw_below_drewN | apply below_drew1) | exact HB.out))) A26.out).mono ?_); rintro e w28 ⟨rfl, hb⟩; have n0_ := Aside0.mk (below_step (by repeat (first | (with_reducible first | exact HB.out | apply below_alloc | apply pw_below_drewN | apply below_drew1) | exact HB.out)) hb); clear HB; have HB := n0_; clear n0_; (try clear hb); (try clear hb2); (try clear hk); (try clear hi)))
                go_meet
                case rel => exact ⟨_, ((t179.toList == t180.toList)), (by first | rfl | (simp; done) | (simp [*]; done)), H', ⟨by have := HJ13.out; first | omega | exact Nat.le_refl _⟩, ⟨by repeat (first | (with_reducible first | exact HB.out | apply below_alloc | apply pw_below_drewN | apply below_drew1) | exact HB.out)⟩⟩
          case rest =>
            clear HC20
            try clear c1
            try clear c2
            try clear p2
            try clear c4
            try clear c4b0
            try clear c4b1
            try clear c6
            try clear c7
            try clear c7b0
            try clear c7b1
            try clear c7b2
            try clear c9
            try clear c12
            try clear c15
            try clear c16
            try clear c16b0
            try clear c16b1
            try clear c19
            try clear c21
            try clear c21b0
            try clear c21b1
            try clear c24
            try clear c24b0
            try clear c24b1
            try clear p2
            obtain ⟨kq, x48_19, rfl, HA, HJ19, HB⟩ := hcut
            cases kq with
            | zero => exact absurd HA.out (by simp [emulatorlaw11_TrapReturns.j1])
            | succ kj19 =>
              have H := HA.out
              clear HA
              simp only [emulatorlaw11_TrapReturns.j1] at H
              by_cases c29 : x48_19 = true
              · subst c29
                have H1 : (some false) = some r := by rw [if_pos rfl] at H; exact H
                clear H
                have H := H1
                clear H1
                exact absurd (H.trans (congrArg some hr_.out)) (by decide)
              · replace c29 := Bool.eq_false_iff.mpr c29
                subst c29
                have H1 : ((trap_Vector.f a0).bind fun t181 => ((trap_Name.f a0).bind fun t182 => (if ((t181 != 0) == (t182.toList != ([] : List UInt8))) = true then ((emulatorlaw11_alive.f kj19).bind fun t183 => (some t183)) else (some false)))) = some r := by rw [if_neg (show ¬ (false = true) by decide)] at H; exact H
                clear H
                have H := H1
                clear H1
                replace H := Option.bind_eq_some_iff.mp H
                obtain ⟨t181, A300, H⟩ := H
                replace H : ((trap_Name.f a0).bind fun t182 => (if ((t181 != 0) == (t182.toList != ([] : List UInt8))) = true then ((emulatorlaw11_alive.f kj19).bind fun t183 => (some t183)) else (some false))) = some r := H
                have A30 := Aside0.mk A300
                clear A300
                replace H := Option.bind_eq_some_iff.mp H
                obtain ⟨t182, A310, H⟩ := H
                replace H : (if ((t181 != 0) == (t182.toList != ([] : List UInt8))) = true then ((emulatorlaw11_alive.f kj19).bind fun t183 => (some t183)) else (some false)) = some r := H
                have A31 := Aside0.mk A310
                clear A310
                by_cases c32 : ((t181 != 0) == (t182.toList != ([] : List UInt8))) = true
                · rw [if_pos c32] at H
                  have c32b0 : ((t181 != 0) == (t182.toList != ([] : List UInt8))) = true := c32
                  (try (have c32b1 : decide ((t181 != 0) = (t182.toList != ([] : List UInt8))) = true := by simpa using c32))
                  (try (have c32b2 : ((t181 != 0) == (t182.toList != ([] : List UInt8))) = true := by simpa using c32))
                  clear c32
                  replace H := Option.bind_eq_some_iff.mp H
                  obtain ⟨t183, A330, H⟩ := H
                  replace H : (some t183) = some r := H
                  have A33 := Aside0.mk A330
                  clear A330
                  obtain rfl := Option.some.inj H
                  go_wp2_with (first | ((with_reducible refine gate_callee (f := 9) rfl ?_); refine goesL_ (some 50) rfl rfl Tryd.func9 (by kernel_rfl) rfl #[.int .i64 a0] rfl (by (try simp only [List.map_toArray, List.map_cons, List.map_nil]); first | done | rfl | (simp only [List.length_drop, List.length_take]; rfl)) ?_; (with_reducible refine (trap_Vector.calls a0 t181 _ A30.out).mono ?_); rintro e w' ⟨rfl, ⟨nd, rfl⟩⟩; refine ⟨_, rfl, ?_⟩) | ((with_reducible refine gate_callee (f := 12) rfl ?_); refine goesL_ (some 53) rfl rfl Tryd.func12 (by kernel_rfl) rfl #[.int .i64 a0] rfl (by (try simp only [List.map_toArray, List.map_cons, List.map_nil]); first | done | rfl | (simp only [List.length_drop, List.length_take]; rfl)) ?_; (with_reducible refine (trap_Name.calls a0 t182 _ (hS.go (by repeat (first | (with_reducible first | exact HB.out | apply below_alloc | apply pw_below_drewN | apply below_drew1) | exact HB.out))) A31.out).mono ?_); rintro e w34 ⟨rfl, hb⟩; refine ⟨_, rfl, ?_⟩; have n0_ := Aside0.mk (below_step (by repeat (first | (with_reducible first | exact HB.out | apply below_alloc | apply pw_below_drewN | apply below_drew1) | exact HB.out)) hb); clear HB; have HB := n0_; clear n0_; (try clear hb); (try clear hb2); (try clear hk); (try clear hi)) | (go_at_call 11; (with_reducible refine (emulatorlaw11_alive.calls kj19  t183 _ (hS.go (by repeat (first | (with_reducible first | exact HB.out | apply below_alloc | apply pw_below_drewN | apply below_drew1) | exact HB.out))) A33.out).mono ?_); rintro e w35 ⟨rfl, hb⟩; have n0_ := Aside0.mk (below_step (by repeat (first | (with_reducible first | exact HB.out | apply below_alloc | apply pw_below_drewN | apply below_drew1) | exact HB.out)) hb); clear HB; have HB := n0_; clear n0_; (try clear hb); (try clear hb2); (try clear hk); (try clear hi)))
                  go_ret
                  exact ⟨by first | rfl | (simp [errW_none, errW_some] <;> rfl) | (simp [*, errW_none, errW_some] <;> rfl), by repeat (first | (with_reducible first | exact HB.out | apply below_alloc | apply pw_below_drewN | apply below_drew1) | exact HB.out)⟩
                  all_goals (exfalso; rename_i hx; exact hx ((beq_iff_eq.1 c32b0).trans (ne_nil_ _)))
                · rw [if_neg c32] at H
                  exact absurd (H.trans (congrArg some hr_.out)) (by decide)

end Go.Proofs.YtflblckegjobnaaDoor.A
