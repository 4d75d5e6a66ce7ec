-- Written by a program of this session (mp.py) over the kit's print.py, with proofs by hand for what the print does not take.
import Derived.Test.YtfeflghimnbhiaaDoorAx0
namespace Go.Proofs.YtfeflghimnbhiaaDoor.A
open Go.RowKit Go.Proofs.YtfeflghimnbhiaaDoorW.PrintWords Go.Proofs.YtfeflghimnbhiaaDoorW.PrintLast Go.Proofs.YtfeflghimnbhiaaDoorW.PrintMore
attribute [local go_sem] max2_int min2_int max_two min_two max_three min_three max_four min_four   -- for this text's walks alone
set_option linter.unusedVariables false
set_option linter.unusedSimpArgs false

/-! ### alu_Taken: function 15 -/
def alu_Taken.f (a0 : Int) (a1 : Int) : Option (Bool) := if a0 = 26 then (some true) else (if a0 = 27 then (some (!((Go.bits .and .i64 a1 4) != 0))) else (if a0 = 28 then (some ((Go.bits .and .i64 a1 4) != 0)) else (if a0 = 29 then (some (((Go.bits .and .i64 a1 8) != 0) == ((Go.bits .and .i64 a1 2) != 0))) else (if a0 = 30 then (some (((Go.bits .and .i64 a1 8) != 0) != ((Go.bits .and .i64 a1 2) != 0))) else (if a0 = 31 then (if (¬ (Go.bits .and .i64 a1 4) = 0) then (some false) else (some (((Go.bits .and .i64 a1 8) != 0) == ((Go.bits .and .i64 a1 2) != 0)))) else (if a0 = 32 then (if (Go.bits .and .i64 a1 4) = 0 then (some (((Go.bits .and .i64 a1 8) != 0) != ((Go.bits .and .i64 a1 2) != 0))) else (some true)) else (if a0 = 33 then (some (!((Go.bits .and .i64 a1 8) != 0))) else (if a0 = 34 then (some ((Go.bits .and .i64 a1 8) != 0)) else (if a0 = 35 then (if (¬ (Go.bits .and .i64 a1 1) = 0) then (some false) else (some (!((Go.bits .and .i64 a1 4) != 0)))) else (if a0 = 36 then (if (Go.bits .and .i64 a1 1) = 0 then (some ((Go.bits .and .i64 a1 4) != 0)) else (some true)) else (if a0 = 37 then (some (!((Go.bits .and .i64 a1 2) != 0))) else (if a0 = 38 then (some ((Go.bits .and .i64 a1 2) != 0)) else (if a0 = 39 then (some (!((Go.bits .and .i64 a1 1) != 0))) else (if a0 = 40 then (some ((Go.bits .and .i64 a1 1) != 0)) else (some false)))))))))))))))
set_option maxHeartbeats 8000000 in
set_option maxRecDepth 100000 in
theorem alu_Taken.calls (a0 : Int) (a1 : Int) (r : Bool) (w : World) (h : alu_Taken.f a0 a1 = some r) :
    Calls Tryd.prog 15 #[.int .i64 a0, .int .i64 a1] w fun e w' => e = .returned (.bool r) ∧ Drawn0 w w' := by
  have H : (if a0 = 26 then (some true) else (if a0 = 27 then (some (!((Go.bits .and .i64 a1 4) != 0))) else (if a0 = 28 then (some ((Go.bits .and .i64 a1 4) != 0)) else (if a0 = 29 then (some (((Go.bits .and .i64 a1 8) != 0) == ((Go.bits .and .i64 a1 2) != 0))) else (if a0 = 30 then (some (((Go.bits .and .i64 a1 8) != 0) != ((Go.bits .and .i64 a1 2) != 0))) else (if a0 = 31 then (if (¬ (Go.bits .and .i64 a1 4) = 0) then (some false) else (some (((Go.bits .and .i64 a1 8) != 0) == ((Go.bits .and .i64 a1 2) != 0)))) else (if a0 = 32 then (if (Go.bits .and .i64 a1 4) = 0 then (some (((Go.bits .and .i64 a1 8) != 0) != ((Go.bits .and .i64 a1 2) != 0))) else (some true)) else (if a0 = 33 then (some (!((Go.bits .and .i64 a1 8) != 0))) else (if a0 = 34 then (some ((Go.bits .and .i64 a1 8) != 0)) else (if a0 = 35 then (if (¬ (Go.bits .and .i64 a1 1) = 0) then (some false) else (some (!((Go.bits .and .i64 a1 4) != 0)))) else (if a0 = 36 then (if (Go.bits .and .i64 a1 1) = 0 then (some ((Go.bits .and .i64 a1 4) != 0)) else (some true)) else (if a0 = 37 then (some (!((Go.bits .and .i64 a1 2) != 0))) else (if a0 = 38 then (some ((Go.bits .and .i64 a1 2) != 0)) else (if a0 = 39 then (some (!((Go.bits .and .i64 a1 1) != 0))) else (if a0 = 40 then (some ((Go.bits .and .i64 a1 1) != 0)) else (some false)))))))))))))))) = some r := h
  clear h
  by_cases c3 : a0 = 26
  · rw [if_pos c3] at H
    have c3b0 : (a0 == 26) = true := beq_iff_eq.mpr c3
    have c3b1 : (a0 != 26) = false := bne_eq_false_iff_eq.mpr c3
    clear c3
    obtain rfl := Option.some.inj H
    go_enter Tryd.func15, Tryd.ntmps15
    go_wp2
    go_ret
    exact ⟨by first | rfl | (simp; done) | (simp [*]; done), by repeat (first | exact Drawn0.refl _ | apply Drawn0.step)⟩
  · rw [if_neg c3] at H
    have c3b0 : (a0 == 26) = false := beq_eq_false_iff_ne.mpr c3
    have c3b1 : (a0 != 26) = true := bne_iff_ne.mpr c3
    by_cases c4 : a0 = 27
    · rw [if_pos c4] at H
      have c4b0 : (a0 == 27) = true := beq_iff_eq.mpr c4
      have c4b1 : (a0 != 27) = false := bne_eq_false_iff_eq.mpr c4
      clear c4
      obtain rfl := Option.some.inj H
      go_enter Tryd.func15, Tryd.ntmps15
      go_wp2
      go_ret
      exact ⟨by first | rfl | (simp; done) | (simp [*]; done), by repeat (first | exact Drawn0.refl _ | apply Drawn0.step)⟩
    · rw [if_neg c4] at H
      have c4b0 : (a0 == 27) = false := beq_eq_false_iff_ne.mpr c4
      have c4b1 : (a0 != 27) = true := bne_iff_ne.mpr c4
      by_cases c5 : a0 = 28
      · rw [if_pos c5] at H
        have c5b0 : (a0 == 28) = true := beq_iff_eq.mpr c5
        have c5b1 : (a0 != 28) = false := bne_eq_false_iff_eq.mpr c5
        clear c5
        obtain rfl := Option.some.inj H
        go_enter Tryd.func15, Tryd.ntmps15
        go_wp2
        go_ret
        exact ⟨by first | rfl | (simp; done) | (simp [*]; done), by repeat (first | exact Drawn0.refl _ | apply Drawn0.step)⟩
      · rw [if_neg c5] at H
        have c5b0 : (a0 == 28) = false := beq_eq_false_iff_ne.mpr c5
        have c5b1 : (a0 != 28) = true := bne_iff_ne.mpr c5
        by_cases c6 : a0 = 29
        · rw [if_pos c6] at H
          have c6b0 : (a0 == 29) = true := beq_iff_eq.mpr c6
          have c6b1 : (a0 != 29) = false := bne_eq_false_iff_eq.mpr c6
          clear c6
          obtain rfl := Option.some.inj H
          go_enter Tryd.func15, Tryd.ntmps15
          go_wp2
          go_ret
          exact ⟨by first | rfl | (simp; done) | (simp [*]; done), by repeat (first | exact Drawn0.refl _ | apply Drawn0.step)⟩
        · rw [if_neg c6] at H
          have c6b0 : (a0 == 29) = false := beq_eq_false_iff_ne.mpr c6
          have c6b1 : (a0 != 29) = true := bne_iff_ne.mpr c6
          by_cases c7 : a0 = 30
          · rw [if_pos c7] at H
            have c7b0 : (a0 == 30) = true := beq_iff_eq.mpr c7
            have c7b1 : (a0 != 30) = false := bne_eq_false_iff_eq.mpr c7
            clear c7
            obtain rfl := Option.some.inj H
            go_enter Tryd.func15, Tryd.ntmps15
            go_wp2
            go_ret
            exact ⟨by first | rfl | (simp; done) | (simp [*]; done), by repeat (first | exact Drawn0.refl _ | apply Drawn0.step)⟩
          · rw [if_neg c7] at H
            have c7b0 : (a0 == 30) = false := beq_eq_false_iff_ne.mpr c7
            have c7b1 : (a0 != 30) = true := bne_iff_ne.mpr c7
            by_cases c8 : a0 = 31
            · rw [if_pos c8] at H
              have c8b0 : (a0 == 31) = true := beq_iff_eq.mpr c8
              have c8b1 : (a0 != 31) = false := bne_eq_false_iff_eq.mpr c8
              clear c8
              by_cases c9 : (¬ (Go.bits .and .i64 a1 4) = 0)
              · rw [if_pos c9] at H
                have c9b0 : ((Go.bits .and .i64 a1 4) == 0) = false := beq_eq_false_iff_ne.mpr c9
                have c9b1 : ((Go.bits .and .i64 a1 4) != 0) = true := bne_iff_ne.mpr c9
                clear c9
                obtain rfl := Option.some.inj H
                go_enter Tryd.func15, Tryd.ntmps15
                go_wp2
                go_ret
                exact ⟨by first | rfl | (simp; done) | (simp [*]; done), by repeat (first | exact Drawn0.refl _ | apply Drawn0.step)⟩
              · rw [if_neg c9] at H
                have c9b0 : ((Go.bits .and .i64 a1 4) == 0) = true := beq_iff_eq.mpr (Decidable.not_not.mp c9)
                have c9b1 : ((Go.bits .and .i64 a1 4) != 0) = false := bne_eq_false_iff_eq.mpr (Decidable.not_not.mp c9)
                obtain rfl := Option.some.inj H
                go_enter Tryd.func15, Tryd.ntmps15
                go_wp2
                go_ret
                exact ⟨by first | rfl | (simp; done) | (simp [*]; done), by repeat (first | exact Drawn0.refl _ | apply Drawn0.step)⟩
            · rw [if_neg c8] at H
              have c8b0 : (a0 == 31) = false := beq_eq_false_iff_ne.mpr c8
              have c8b1 : (a0 != 31) = true := bne_iff_ne.mpr c8
              by_cases c10 : a0 = 32
              · rw [if_pos c10] at H
                have c10b0 : (a0 == 32) = true := beq_iff_eq.mpr c10
                have c10b1 : (a0 != 32) = false := bne_eq_false_iff_eq.mpr c10
                clear c10
                by_cases c11 : (Go.bits .and .i64 a1 4) = 0
                · rw [if_pos c11] at H
                  have c11b0 : ((Go.bits .and .i64 a1 4) == 0) = true := beq_iff_eq.mpr c11
                  have c11b1 : ((Go.bits .and .i64 a1 4) != 0) = false := bne_eq_false_iff_eq.mpr c11
                  clear c11
                  obtain rfl := Option.some.inj H
                  go_enter Tryd.func15, Tryd.ntmps15
                  go_wp2
                  go_ret
                  exact ⟨by first | rfl | (simp; done) | (simp [*]; done), by repeat (first | exact Drawn0.refl _ | apply Drawn0.step)⟩
                · rw [if_neg c11] at H
                  have c11b0 : ((Go.bits .and .i64 a1 4) == 0) = false := beq_eq_false_iff_ne.mpr c11
                  have c11b1 : ((Go.bits .and .i64 a1 4) != 0) = true := bne_iff_ne.mpr c11
                  obtain rfl := Option.some.inj H
                  go_enter Tryd.func15, Tryd.ntmps15
                  go_wp2
                  go_ret
                  exact ⟨by first | rfl | (simp; done) | (simp [*]; done), by repeat (first | exact Drawn0.refl _ | apply Drawn0.step)⟩
              · rw [if_neg c10] at H
                have c10b0 : (a0 == 32) = false := beq_eq_false_iff_ne.mpr c10
                have c10b1 : (a0 != 32) = true := bne_iff_ne.mpr c10
                by_cases c12 : a0 = 33
                · rw [if_pos c12] at H
                  have c12b0 : (a0 == 33) = true := beq_iff_eq.mpr c12
                  have c12b1 : (a0 != 33) = false := bne_eq_false_iff_eq.mpr c12
                  clear c12
                  obtain rfl := Option.some.inj H
                  go_enter Tryd.func15, Tryd.ntmps15
                  go_wp2
                  go_ret
                  exact ⟨by first | rfl | (simp; done) | (simp [*]; done), by repeat (first | exact Drawn0.refl _ | apply Drawn0.step)⟩
                · rw [if_neg c12] at H
                  have c12b0 : (a0 == 33) = false := beq_eq_false_iff_ne.mpr c12
                  have c12b1 : (a0 != 33) = true := bne_iff_ne.mpr c12
                  by_cases c13 : a0 = 34
                  · rw [if_pos c13] at H
                    have c13b0 : (a0 == 34) = true := beq_iff_eq.mpr c13
                    have c13b1 : (a0 != 34) = false := bne_eq_false_iff_eq.mpr c13
                    clear c13
                    obtain rfl := Option.some.inj H
                    go_enter Tryd.func15, Tryd.ntmps15
                    go_wp2
                    go_ret
                    exact ⟨by first | rfl | (simp; done) | (simp [*]; done), by repeat (first | exact Drawn0.refl _ | apply Drawn0.step)⟩
                  · rw [if_neg c13] at H
                    have c13b0 : (a0 == 34) = false := beq_eq_false_iff_ne.mpr c13
                    have c13b1 : (a0 != 34) = true := bne_iff_ne.mpr c13
                    by_cases c14 : a0 = 35
                    · rw [if_pos c14] at H
                      have c14b0 : (a0 == 35) = true := beq_iff_eq.mpr c14
                      have c14b1 : (a0 != 35) = false := bne_eq_false_iff_eq.mpr c14
                      clear c14
                      by_cases c15 : (¬ (Go.bits .and .i64 a1 1) = 0)
                      · rw [if_pos c15] at H
                        have c15b0 : ((Go.bits .and .i64 a1 1) == 0) = false := beq_eq_false_iff_ne.mpr c15
                        have c15b1 : ((Go.bits .and .i64 a1 1) != 0) = true := bne_iff_ne.mpr c15
                        clear c15
                        obtain rfl := Option.some.inj H
                        go_enter Tryd.func15, Tryd.ntmps15
                        go_wp2
                        go_ret
                        exact ⟨by first | rfl | (simp; done) | (simp [*]; done), by repeat (first | exact Drawn0.refl _ | apply Drawn0.step)⟩
                      · rw [if_neg c15] at H
                        have c15b0 : ((Go.bits .and .i64 a1 1) == 0) = true := beq_iff_eq.mpr (Decidable.not_not.mp c15)
                        have c15b1 : ((Go.bits .and .i64 a1 1) != 0) = false := bne_eq_false_iff_eq.mpr (Decidable.not_not.mp c15)
                        obtain rfl := Option.some.inj H
                        go_enter Tryd.func15, Tryd.ntmps15
                        go_wp2
                        go_ret
                        exact ⟨by first | rfl | (simp; done) | (simp [*]; done), by repeat (first | exact Drawn0.refl _ | apply Drawn0.step)⟩
                    · rw [if_neg c14] at H
                      have c14b0 : (a0 == 35) = false := beq_eq_false_iff_ne.mpr c14
                      have c14b1 : (a0 != 35) = true := bne_iff_ne.mpr c14
                      by_cases c16 : a0 = 36
                      · rw [if_pos c16] at H
                        have c16b0 : (a0 == 36) = true := beq_iff_eq.mpr c16
                        have c16b1 : (a0 != 36) = false := bne_eq_false_iff_eq.mpr c16
                        clear c16
                        by_cases c17 : (Go.bits .and .i64 a1 1) = 0
                        · rw [if_pos c17] at H
                          have c17b0 : ((Go.bits .and .i64 a1 1) == 0) = true := beq_iff_eq.mpr c17
                          have c17b1 : ((Go.bits .and .i64 a1 1) != 0) = false := bne_eq_false_iff_eq.mpr c17
                          clear c17
                          obtain rfl := Option.some.inj H
                          go_enter Tryd.func15, Tryd.ntmps15
                          go_wp2
                          go_ret
                          exact ⟨by first | rfl | (simp; done) | (simp [*]; done), by repeat (first | exact Drawn0.refl _ | apply Drawn0.step)⟩
                        · rw [if_neg c17] at H
                          have c17b0 : ((Go.bits .and .i64 a1 1) == 0) = false := beq_eq_false_iff_ne.mpr c17
                          have c17b1 : ((Go.bits .and .i64 a1 1) != 0) = true := bne_iff_ne.mpr c17
                          obtain rfl := Option.some.inj H
                          go_enter Tryd.func15, Tryd.ntmps15
                          go_wp2
                          go_ret
                          exact ⟨by first | rfl | (simp; done) | (simp [*]; done), by repeat (first | exact Drawn0.refl _ | apply Drawn0.step)⟩
                      · rw [if_neg c16] at H
                        have c16b0 : (a0 == 36) = false := beq_eq_false_iff_ne.mpr c16
                        have c16b1 : (a0 != 36) = true := bne_iff_ne.mpr c16
                        by_cases c18 : a0 = 37
                        · rw [if_pos c18] at H
                          have c18b0 : (a0 == 37) = true := beq_iff_eq.mpr c18
                          have c18b1 : (a0 != 37) = false := bne_eq_false_iff_eq.mpr c18
                          clear c18
                          obtain rfl := Option.some.inj H
                          go_enter Tryd.func15, Tryd.ntmps15
                          go_wp2
                          go_ret
                          exact ⟨by first | rfl | (simp; done) | (simp [*]; done), by repeat (first | exact Drawn0.refl _ | apply Drawn0.step)⟩
                        · rw [if_neg c18] at H
                          have c18b0 : (a0 == 37) = false := beq_eq_false_iff_ne.mpr c18
                          have c18b1 : (a0 != 37) = true := bne_iff_ne.mpr c18
                          by_cases c19 : a0 = 38
                          · rw [if_pos c19] at H
                            have c19b0 : (a0 == 38) = true := beq_iff_eq.mpr c19
                            have c19b1 : (a0 != 38) = false := bne_eq_false_iff_eq.mpr c19
                            clear c19
                            obtain rfl := Option.some.inj H
                            go_enter Tryd.func15, Tryd.ntmps15
                            go_wp2
                            go_ret
                            exact ⟨by first | rfl | (simp; done) | (simp [*]; done), by repeat (first | exact Drawn0.refl _ | apply Drawn0.step)⟩
                          · rw [if_neg c19] at H
                            have c19b0 : (a0 == 38) = false := beq_eq_false_iff_ne.mpr c19
                            have c19b1 : (a0 != 38) = true := bne_iff_ne.mpr c19
                            by_cases c20 : a0 = 39
                            · rw [if_pos c20] at H
                              have c20b0 : (a0 == 39) = true := beq_iff_eq.mpr c20
                              have c20b1 : (a0 != 39) = false := bne_eq_false_iff_eq.mpr c20
                              clear c20
                              obtain rfl := Option.some.inj H
                              go_enter Tryd.func15, Tryd.ntmps15
                              go_wp2
                              go_ret
                              exact ⟨by first | rfl | (simp; done) | (simp [*]; done), by repeat (first | exact Drawn0.refl _ | apply Drawn0.step)⟩
                            · rw [if_neg c20] at H
                              have c20b0 : (a0 == 39) = false := beq_eq_false_iff_ne.mpr c20
                              have c20b1 : (a0 != 39) = true := bne_iff_ne.mpr c20
                              by_cases c21 : a0 = 40
                              · rw [if_pos c21] at H
                                have c21b0 : (a0 == 40) = true := beq_iff_eq.mpr c21
                                have c21b1 : (a0 != 40) = false := bne_eq_false_iff_eq.mpr c21
                                clear c21
                                obtain rfl := Option.some.inj H
                                go_enter Tryd.func15, Tryd.ntmps15
                                go_wp2
                                go_ret
                                exact ⟨by first | rfl | (simp; done) | (simp [*]; done), by repeat (first | exact Drawn0.refl _ | apply Drawn0.step)⟩
                              · rw [if_neg c21] at H
                                have c21b0 : (a0 == 40) = false := beq_eq_false_iff_ne.mpr c21
                                have c21b1 : (a0 != 40) = true := bne_iff_ne.mpr c21
                                obtain rfl := Option.some.inj H
                                go_enter Tryd.func15, Tryd.ntmps15
                                go_wp2
                                go_ret
                                exact ⟨by first | rfl | (simp; done) | (simp [*]; done), by repeat (first | exact Drawn0.refl _ | apply Drawn0.step)⟩

/-! ### word_Signed: function 45 -/
def word_Signed.f (a0 : Int) : Option (Int) := some (wrap64 (IntKind.i16.wrap (a0)))
set_option maxHeartbeats 8000000 in
set_option maxRecDepth 100000 in
theorem word_Signed.calls (a0 : Int) (r : Int) (w : World) (h : word_Signed.f a0 = some r) :
    Calls Tryd.prog 45 #[.int .i64 a0] w fun e w' => e = .returned (.int .i64 r) ∧ Drawn0 w w' := by
  have H : (some (wrap64 (IntKind.i16.wrap (a0)))) = some r := h
  clear h
  obtain rfl := Option.some.inj H
  go_enter Tryd.func45, Tryd.ntmps45
  go_wp2
  go_ret
  exact ⟨by first | rfl | (simp; done) | (simp [*]; done), by repeat (first | exact Drawn0.refl _ | apply Drawn0.step)⟩

/-! ### word_Wrap: function 46 -/
def word_Wrap.f (a0 : Int) : Option (Int) := some (Go.bits .and .i64 a0 65535)
set_option maxHeartbeats 8000000 in
set_option maxRecDepth 100000 in
theorem word_Wrap.calls (a0 : Int) (r : Int) (w : World) (h : word_Wrap.f a0 = some r) :
    Calls Tryd.prog 46 #[.int .i64 a0] w fun e w' => e = .returned (.int .i64 r) ∧ Drawn0 w w' := by
  have H : (some (Go.bits .and .i64 a0 65535)) = some r := h
  clear h
  obtain rfl := Option.some.inj H
  go_enter Tryd.func46, Tryd.ntmps46
  go_wp2
  go_ret
  exact ⟨by first | rfl | (simp; done) | (simp [*]; done), by repeat (first | exact Drawn0.refl _ | apply Drawn0.step)⟩

end Go.Proofs.YtfeflghimnbhiaaDoor.A
