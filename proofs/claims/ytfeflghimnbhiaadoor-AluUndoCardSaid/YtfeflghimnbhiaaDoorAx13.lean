-- Written by a program of this session (mp.py) over the kit's print.py, with proofs by hand for what the print does not take.
import Derived.Test.YtfeflghimnbhiaaDoorAx0
import Derived.Test.YtfeflghimnbhiaaDoorAx4
import Derived.Test.YtfeflghimnbhiaaDoorAx9
import Derived.Test.YtfeflghimnbhiaaDoorAx10
import Derived.Test.YtfeflghimnbhiaaDoorAx12
namespace Go.Proofs.YtfeflghimnbhiaaDoor.A
open Go.RowKit Go.Proofs.YtfeflghimnbhiaaDoorW.PrintWords Go.Proofs.YtfeflghimnbhiaaDoorW.PrintLast Go.Proofs.YtfeflghimnbhiaaDoorW.PrintMore
attribute [local go_sem] max2_int min2_int max_two min_two max_three min_three max_four min_four   -- for this text's walks alone
set_option linter.unusedVariables false
set_option linter.unusedSimpArgs false

/-! ### emulatorlaw10_alive: function 12 -/
def emulatorlaw10_alive.f (k : Nat)  : Option (Bool) := (alu_Double.f 6 false 1 32767 0).bind fun bt242 => ((alu_Double.f 2 true 5 261 2).bind fun bt245 => ((alu_Single.f k 16 true 128 0).bind fun bt248 => ((alu_Long.f k 9 0 7 0 9).bind fun bt251 => (if bt242.1 = 32768 then (if bt242.2.1 = 10 then (if bt242.2.2 = true then (if bt245.1 = 0 then (if bt245.2.1 = 4 then (if bt245.2.2 = true then (some false) else (if bt248.1 = 128 then (if bt248.2.1 = 11 then (if bt248.2.2 = true then (if bt251.1 = 0 then (if bt251.2.1 = 7 then (if bt251.2.2.1 = 3 then (if bt251.2.2.2 = true then (some false) else ((alu_Taken.f 31 10).bind fun t255 => (if t255 = true then ((alu_Taken.f 1 0).bind fun t256 => (some (!t256))) else (some false)))) else (some false)) else (some false)) else (some false)) else (some false)) else (some false)) else (some false))) else (some false)) else (some false)) else (some false)) else (some false)) else (some false)))))
theorem emulatorlaw10_alive.mono : ∀ k, LeO (emulatorlaw10_alive.f k ) (emulatorlaw10_alive.f (k + 1) ) := by
  intro  k
  unfold emulatorlaw10_alive.f
  repeat' first
      | (with_reducible exact alu_Long.mono _ _ _ _ _ _)
      | (with_reducible exact alu_Single.mono _ _ _ _ _)
      | (with_reducible exact LeO.refl _)
      | (with_reducible exact LeO.none _)
      | (with_reducible refine LeO.ite ?_ ?_)
      | (with_reducible refine LeO.bind ?_ (fun _ => ?_))
      | exact alu_Long.mono _ _ _ _ _ _
      | exact alu_Single.mono _ _ _ _ _
      | exact LeO.none _
      | refine LeO.ite ?_ ?_
      | refine LeO.bind ?_ (fun _ => ?_)
theorem alive_K : emulatorlaw10_alive.f 40 = some true := by decide +kernel
theorem alive_val (k : Nat) (r : Bool) (h : emulatorlaw10_alive.f k = some r) : r = true := by
  have h1 : ∀ n, LeO (emulatorlaw10_alive.f k) (emulatorlaw10_alive.f (k + n)) := by
    intro n
    induction n with
    | zero => exact LeO.refl _
    | succ n ih => exact fun r h => emulatorlaw10_alive.mono (k + n) r (ih r h)
  have h2 : ∀ n, LeO (emulatorlaw10_alive.f 40) (emulatorlaw10_alive.f (40 + n)) := by
    intro n
    induction n with
    | zero => exact LeO.refl _
    | succ n ih => exact fun r h => emulatorlaw10_alive.mono (40 + n) r (ih r h)
  have e1 := h1 40 r h
  have e2 := h2 k true alive_K
  rw [Nat.add_comm] at e2
  exact Option.some.inj (e1.symm.trans e2)
set_option maxHeartbeats 8000000 in
set_option maxRecDepth 100000 in
theorem emulatorlaw10_alive.calls (k : Nat)  (r : Bool) (w : World) (hS : Sz w) (h : emulatorlaw10_alive.f k  = some r) :
    Calls Tryd.prog 12 #[] w fun e w' => e = .returned (.bool r) ∧ Below w.heap.size w w' := by
  have hr_ := Aside0.mk (alive_val k r h)
  have HB := Aside0.mk (Below.refl w.heap.size w)
  have H : ((alu_Double.f 6 false 1 32767 0).bind fun bt242 => ((alu_Double.f 2 true 5 261 2).bind fun bt245 => ((alu_Single.f k 16 true 128 0).bind fun bt248 => ((alu_Long.f k 9 0 7 0 9).bind fun bt251 => (if bt242.1 = 32768 then (if bt242.2.1 = 10 then (if bt242.2.2 = true then (if bt245.1 = 0 then (if bt245.2.1 = 4 then (if bt245.2.2 = true then (some false) else (if bt248.1 = 128 then (if bt248.2.1 = 11 then (if bt248.2.2 = true then (if bt251.1 = 0 then (if bt251.2.1 = 7 then (if bt251.2.2.1 = 3 then (if bt251.2.2.2 = true then (some false) else ((alu_Taken.f 31 10).bind fun t255 => (if t255 = true then ((alu_Taken.f 1 0).bind fun t256 => (some (!t256))) else (some false)))) else (some false)) else (some false)) else (some false)) else (some false)) else (some false)) else (some false))) else (some false)) else (some false)) else (some false)) else (some false)) else (some false)))))) = some r := h
  clear h
  replace H := Option.bind_eq_some_iff.mp H
  obtain ⟨⟨t242, t243, t244⟩, A10, H⟩ := H
  replace H : ((alu_Double.f 2 true 5 261 2).bind fun bt245 => ((alu_Single.f k 16 true 128 0).bind fun bt248 => ((alu_Long.f k 9 0 7 0 9).bind fun bt251 => (if t242 = 32768 then (if t243 = 10 then (if t244 = true then (if bt245.1 = 0 then (if bt245.2.1 = 4 then (if bt245.2.2 = true then (some false) else (if bt248.1 = 128 then (if bt248.2.1 = 11 then (if bt248.2.2 = true then (if bt251.1 = 0 then (if bt251.2.1 = 7 then (if bt251.2.2.1 = 3 then (if bt251.2.2.2 = true then (some false) else ((alu_Taken.f 31 10).bind fun t255 => (if t255 = true then ((alu_Taken.f 1 0).bind fun t256 => (some (!t256))) else (some false)))) else (some false)) else (some false)) else (some false)) else (some false)) else (some false)) else (some false))) else (some false)) else (some false)) else (some false)) else (some false)) else (some false))))) = some r := H
  have A1 := Aside0.mk A10
  clear A10
  replace H := Option.bind_eq_some_iff.mp H
  obtain ⟨⟨t245, t246, t247⟩, A20, H⟩ := H
  replace H : ((alu_Single.f k 16 true 128 0).bind fun bt248 => ((alu_Long.f k 9 0 7 0 9).bind fun bt251 => (if t242 = 32768 then (if t243 = 10 then (if t244 = true then (if t245 = 0 then (if t246 = 4 then (if t247 = true then (some false) else (if bt248.1 = 128 then (if bt248.2.1 = 11 then (if bt248.2.2 = true then (if bt251.1 = 0 then (if bt251.2.1 = 7 then (if bt251.2.2.1 = 3 then (if bt251.2.2.2 = true then (some false) else ((alu_Taken.f 31 10).bind fun t255 => (if t255 = true then ((alu_Taken.f 1 0).bind fun t256 => (some (!t256))) else (some false)))) else (some false)) else (some false)) else (some false)) else (some false)) else (some false)) else (some false))) else (some false)) else (some false)) else (some false)) else (some false)) else (some false)))) = some r := H
  have A2 := Aside0.mk A20
  clear A20
  replace H := Option.bind_eq_some_iff.mp H
  obtain ⟨⟨t248, t249, t250⟩, A30, H⟩ := H
  replace H : ((alu_Long.f k 9 0 7 0 9).bind fun bt251 => (if t242 = 32768 then (if t243 = 10 then (if t244 = true then (if t245 = 0 then (if t246 = 4 then (if t247 = true then (some false) else (if t248 = 128 then (if t249 = 11 then (if t250 = true then (if bt251.1 = 0 then (if bt251.2.1 = 7 then (if bt251.2.2.1 = 3 then (if bt251.2.2.2 = true then (some false) else ((alu_Taken.f 31 10).bind fun t255 => (if t255 = true then ((alu_Taken.f 1 0).bind fun t256 => (some (!t256))) else (some false)))) else (some false)) else (some false)) else (some false)) else (some false)) else (some false)) else (some false))) else (some false)) else (some false)) else (some false)) else (some false)) else (some false))) = some r := H
  have A3 := Aside0.mk A30
  clear A30
  replace H := Option.bind_eq_some_iff.mp H
  obtain ⟨⟨t251, t252, t253, t254⟩, A40, H⟩ := H
  replace H : (if t242 = 32768 then (if t243 = 10 then (if t244 = true then (if t245 = 0 then (if t246 = 4 then (if t247 = true then (some false) else (if t248 = 128 then (if t249 = 11 then (if t250 = true then (if t251 = 0 then (if t252 = 7 then (if t253 = 3 then (if t254 = true then (some false) else ((alu_Taken.f 31 10).bind fun t255 => (if t255 = true then ((alu_Taken.f 1 0).bind fun t256 => (some (!t256))) else (some false)))) else (some false)) else (some false)) else (some false)) else (some false)) else (some false)) else (some false))) else (some false)) else (some false)) else (some false)) else (some false)) else (some false)) = some r := H
  have A4 := Aside0.mk A40
  clear A40
  by_cases c5 : t242 = 32768
  · rw [if_pos c5] at H
    have c5b0 : (t242 == 32768) = true := beq_iff_eq.mpr c5
    have c5b1 : (t242 != 32768) = false := bne_eq_false_iff_eq.mpr c5
    clear c5
    by_cases c6 : t243 = 10
    · rw [if_pos c6] at H
      have c6b0 : (t243 == 10) = true := beq_iff_eq.mpr c6
      have c6b1 : (t243 != 10) = false := bne_eq_false_iff_eq.mpr c6
      clear c6
      by_cases c7 : t244 = true
      · subst c7
        have H1 : (if t245 = 0 then (if t246 = 4 then (if t247 = true then (some false) else (if t248 = 128 then (if t249 = 11 then (if t250 = true then (if t251 = 0 then (if t252 = 7 then (if t253 = 3 then (if t254 = true then (some false) else ((alu_Taken.f 31 10).bind fun t255 => (if t255 = true then ((alu_Taken.f 1 0).bind fun t256 => (some (!t256))) else (some false)))) else (some false)) else (some false)) else (some false)) else (some false)) else (some false)) else (some false))) else (some false)) else (some false)) = some r := by rw [if_pos rfl] at H; exact H
        clear H
        have H := H1
        clear H1
        by_cases c8 : t245 = 0
        · rw [if_pos c8] at H
          have c8b0 : (t245 == 0) = true := beq_iff_eq.mpr c8
          have c8b1 : (t245 != 0) = false := bne_eq_false_iff_eq.mpr c8
          clear c8
          by_cases c9 : t246 = 4
          · rw [if_pos c9] at H
            have c9b0 : (t246 == 4) = true := beq_iff_eq.mpr c9
            have c9b1 : (t246 != 4) = false := bne_eq_false_iff_eq.mpr c9
            clear c9
            by_cases c10 : t247 = true
            · subst c10
              have H1 : (some false) = some r := by rw [if_pos rfl] at H; exact H
              clear H
              have H := H1
              clear H1
              exact absurd (H.trans (congrArg some hr_.out)) (by decide)
            · replace c10 := Bool.eq_false_iff.mpr c10
              subst c10
              have H1 : (if t248 = 128 then (if t249 = 11 then (if t250 = true then (if t251 = 0 then (if t252 = 7 then (if t253 = 3 then (if t254 = true then (some false) else ((alu_Taken.f 31 10).bind fun t255 => (if t255 = true then ((alu_Taken.f 1 0).bind fun t256 => (some (!t256))) else (some false)))) else (some false)) else (some false)) else (some false)) else (some false)) else (some false)) else (some false)) = some r := by rw [if_neg (show ¬ (false = true) by decide)] at H; exact H
              clear H
              have H := H1
              clear H1
              by_cases c15 : t248 = 128
              · rw [if_pos c15] at H
                have c15b0 : (t248 == 128) = true := beq_iff_eq.mpr c15
                have c15b1 : (t248 != 128) = false := bne_eq_false_iff_eq.mpr c15
                clear c15
                by_cases c16 : t249 = 11
                · rw [if_pos c16] at H
                  have c16b0 : (t249 == 11) = true := beq_iff_eq.mpr c16
                  have c16b1 : (t249 != 11) = false := bne_eq_false_iff_eq.mpr c16
                  clear c16
                  by_cases c17 : t250 = true
                  · subst c17
                    have H1 : (if t251 = 0 then (if t252 = 7 then (if t253 = 3 then (if t254 = true then (some false) else ((alu_Taken.f 31 10).bind fun t255 => (if t255 = true then ((alu_Taken.f 1 0).bind fun t256 => (some (!t256))) else (some false)))) else (some false)) else (some false)) else (some false)) = some r := by rw [if_pos rfl] at H; exact H
                    clear H
                    have H := H1
                    clear H1
                    by_cases c18 : t251 = 0
                    · rw [if_pos c18] at H
                      have c18b0 : (t251 == 0) = true := beq_iff_eq.mpr c18
                      have c18b1 : (t251 != 0) = false := bne_eq_false_iff_eq.mpr c18
                      clear c18
                      by_cases c19 : t252 = 7
                      · rw [if_pos c19] at H
                        have c19b0 : (t252 == 7) = true := beq_iff_eq.mpr c19
                        have c19b1 : (t252 != 7) = false := bne_eq_false_iff_eq.mpr c19
                        clear c19
                        by_cases c20 : t253 = 3
                        · rw [if_pos c20] at H
                          have c20b0 : (t253 == 3) = true := beq_iff_eq.mpr c20
                          have c20b1 : (t253 != 3) = false := bne_eq_false_iff_eq.mpr c20
                          clear c20
                          by_cases c21 : t254 = true
                          · subst c21
                            have H1 : (some false) = some r := by rw [if_pos rfl] at H; exact H
                            clear H
                            have H := H1
                            clear H1
                            exact absurd (H.trans (congrArg some hr_.out)) (by decide)
                          · replace c21 := Bool.eq_false_iff.mpr c21
                            subst c21
                            have H1 : ((alu_Taken.f 31 10).bind fun t255 => (if t255 = true then ((alu_Taken.f 1 0).bind fun t256 => (some (!t256))) else (some false))) = some r := by rw [if_neg (show ¬ (false = true) by decide)] at H; exact H
                            clear H
                            have H := H1
                            clear H1
                            replace H := Option.bind_eq_some_iff.mp H
                            obtain ⟨t255, A260, H⟩ := H
                            replace H : (if t255 = true then ((alu_Taken.f 1 0).bind fun t256 => (some (!t256))) else (some false)) = some r := H
                            have A26 := Aside0.mk A260
                            clear A260
                            by_cases c27 : t255 = true
                            · subst c27
                              have H1 : ((alu_Taken.f 1 0).bind fun t256 => (some (!t256))) = some r := by rw [if_pos rfl] at H; exact H
                              clear H
                              have H := H1
                              clear H1
                              replace H := Option.bind_eq_some_iff.mp H
                              obtain ⟨t256, A280, H⟩ := H
                              replace H : (some (!t256)) = some r := H
                              have A28 := Aside0.mk A280
                              clear A280
                              obtain rfl := Option.some.inj H
                              go_enter Tryd.func12, Tryd.ntmps12
                              go_wp2_with (first | ((with_reducible refine gate_callee (f := 10) rfl ?_); refine goesL_ (some 15) rfl rfl Tryd.func10 (by kernel_rfl) rfl #[.int .i64 6, .bool false, .int .i64 1, .int .i64 32767, .int .i64 0] rfl (by (try simp only [List.map_toArray, List.map_cons, List.map_nil]); first | done | rfl | (simp only [List.length_drop, List.length_take]; rfl)) ?_; (with_reducible refine (alu_Double.calls 6 false 1 32767 0 t242 t243 true _ (hS.go (by repeat (first | (with_reducible first | exact HB.out | apply below_alloc | apply pw_below_drewN | apply below_drew1) | exact HB.out))) A1.out).mono ?_); rintro e w29 ⟨rfl, hb⟩; refine ⟨_, rfl, ?_⟩; have n0_ := Aside0.mk (below_step (by repeat (first | (with_reducible first | exact HB.out | apply below_alloc | apply pw_below_drewN | apply below_drew1) | exact HB.out)) hb); clear HB; have HB := n0_; clear n0_; (try clear hb); (try clear hb2); (try clear hk); (try clear hi)) | ((with_reducible refine gate_callee (f := 10) rfl ?_); refine goesL_ (some 20) rfl rfl Tryd.func10 (by kernel_rfl) rfl #[.int .i64 2, .bool true, .int .i64 5, .int .i64 261, .int .i64 2] rfl (by (try simp only [List.map_toArray, List.map_cons, List.map_nil]); first | done | rfl | (simp only [List.length_drop, List.length_take]; rfl)) ?_; (with_reducible refine (alu_Double.calls 2 true 5 261 2 t245 t246 false _ (hS.go (by repeat (first | (with_reducible first | exact HB.out | apply below_alloc | apply pw_below_drewN | apply below_drew1) | exact HB.out))) A2.out).mono ?_); rintro e w30 ⟨rfl, hb⟩; refine ⟨_, rfl, ?_⟩; have n0_ := Aside0.mk (below_step (by repeat (first | (with_reducible first | exact HB.out | apply below_alloc | apply pw_below_drewN | apply below_drew1) | exact HB.out)) hb); clear HB; have HB := n0_; clear n0_; (try clear hb); (try clear hb2); (try clear hk); (try clear hi)) | ((with_reducible refine gate_callee (f := 13) rfl ?_); refine goesL_ (some 25) rfl rfl Tryd.func13 (by kernel_rfl) rfl #[.int .i64 16, .bool true, .int .i64 128, .int .i64 0] rfl (by (try simp only [List.map_toArray, List.map_cons, List.map_nil]); first | done | rfl | (simp only [List.length_drop, List.length_take]; rfl)) ?_; (with_reducible refine (alu_Single.calls k 16 true 128 0 t248 t249 true _ (hS.go (by repeat (first | (with_reducible first | exact HB.out | apply below_alloc | apply pw_below_drewN | apply below_drew1) | exact HB.out))) A3.out).mono ?_); rintro e w31 ⟨rfl, hb⟩; refine ⟨_, rfl, ?_⟩; have n0_ := Aside0.mk (below_step (by repeat (first | (with_reducible first | exact HB.out | apply below_alloc | apply pw_below_drewN | apply below_drew1) | exact HB.out)) hb); clear HB; have HB := n0_; clear n0_; (try clear hb); (try clear hb2); (try clear hk); (try clear hi)) | ((with_reducible refine gate_callee (f := 17) rfl ?_); refine goesL_ (some 30) rfl rfl Tryd.func17 (by kernel_rfl) rfl #[.int .i64 9, .int .i64 0, .int .i64 7, .int .i64 0, .int .i64 9] rfl (by (try simp only [List.map_toArray, List.map_cons, List.map_nil]); first | done | rfl | (simp only [List.length_drop, List.length_take]; rfl)) ?_; (with_reducible refine (alu_Long.calls k 9 0 7 0 9 t251 t252 t253 false _ (hS.go (by repeat (first | (with_reducible first | exact HB.out | apply below_alloc | apply pw_below_drewN | apply below_drew1) | exact HB.out))) A4.out).mono ?_); rintro e w32 ⟨rfl, hb⟩; refine ⟨_, rfl, ?_⟩; have n0_ := Aside0.mk (below_step (by repeat (first | (with_reducible first | exact HB.out | apply below_alloc | apply pw_below_drewN | apply below_drew1) | exact HB.out)) hb); clear HB; have HB := n0_; clear n0_; (try clear hb); (try clear hb2); (try clear hk); (try clear hi)) | (go_at_call 15; (with_reducible refine (alu_Taken.calls 31 10 true _ A26.out).mono ?_); rintro e w' ⟨rfl, ⟨nd, rfl⟩⟩) | (go_at_call 15; (with_reducible refine (alu_Taken.calls 1 0 t256 _ A28.out).mono ?_); rintro e w' ⟨rfl, ⟨nd, rfl⟩⟩))
                              go_ret
                              exact ⟨by first | rfl | (simp [errW_none, errW_some] <;> rfl) | (simp [*, errW_none, errW_some] <;> rfl), by repeat (first | (with_reducible first | exact HB.out | apply below_alloc | apply pw_below_drewN | apply below_drew1) | exact HB.out)⟩
                            · replace c27 := Bool.eq_false_iff.mpr c27
                              subst c27
                              have H1 : (some false) = some r := by rw [if_neg (show ¬ (false = true) by decide)] at H; exact H
                              clear H
                              have H := H1
                              clear H1
                              exact absurd (H.trans (congrArg some hr_.out)) (by decide)
                        · rw [if_neg c20] at H
                          exact absurd (H.trans (congrArg some hr_.out)) (by decide)
                      · rw [if_neg c19] at H
                        exact absurd (H.trans (congrArg some hr_.out)) (by decide)
                    · rw [if_neg c18] at H
                      exact absurd (H.trans (congrArg some hr_.out)) (by decide)
                  · replace c17 := Bool.eq_false_iff.mpr c17
                    subst c17
                    have H1 : (some false) = some r := by rw [if_neg (show ¬ (false = true) by decide)] at H; exact H
                    clear H
                    have H := H1
                    clear H1
                    exact absurd (H.trans (congrArg some hr_.out)) (by decide)
                · rw [if_neg c16] at H
                  exact absurd (H.trans (congrArg some hr_.out)) (by decide)
              · rw [if_neg c15] at H
                exact absurd (H.trans (congrArg some hr_.out)) (by decide)
          · rw [if_neg c9] at H
            exact absurd (H.trans (congrArg some hr_.out)) (by decide)
        · rw [if_neg c8] at H
          exact absurd (H.trans (congrArg some hr_.out)) (by decide)
      · replace c7 := Bool.eq_false_iff.mpr c7
        subst c7
        have H1 : (some false) = some r := by rw [if_neg (show ¬ (false = true) by decide)] at H; exact H
        clear H
        have H := H1
        clear H1
        exact absurd (H.trans (congrArg some hr_.out)) (by decide)
    · rw [if_neg c6] at H
      exact absurd (H.trans (congrArg some hr_.out)) (by decide)
  · rw [if_neg c5] at H
    exact absurd (H.trans (congrArg some hr_.out)) (by decide)end Go.Proofs.YtfeflghimnbhiaaDoor.A
