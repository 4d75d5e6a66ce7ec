-- Written by a program of this session (mp.py) over the kit's print.py, with proofs by hand for what the print does not take.
import Derived.Test.YtiodpkkigjfkgaaDoorAx0
import Derived.Test.YtiodpkkigjfkgaaDoorAx2
import Derived.Test.YtiodpkkigjfkgaaDoorAx5
import Derived.Test.YtiodpkkigjfkgaaDoorAx7
import Derived.Test.YtiodpkkigjfkgaaDoorAx8
import Derived.Test.YtiodpkkigjfkgaaDoorAx9
import Derived.Test.YtiodpkkigjfkgaaDoorAx10
namespace Go.Proofs.YtiodpkkigjfkgaaDoor.A
open Go.RowKit Go.Proofs.YtiodpkkigjfkgaaDoorW.PrintWords Go.Proofs.YtiodpkkigjfkgaaDoorW.PrintLast Go.Proofs.YtiodpkkigjfkgaaDoorW.PrintMore
attribute [local go_sem] max2_int min2_int max_two min_two max_three min_three max_four min_four   -- for this text's walks alone
set_option linter.unusedVariables false
set_option linter.unusedSimpArgs false

/-! ### emulatorlaw01_alive: function 15 -/
def emulatorlaw01_alive.f (k : Nat)  : Option (Bool) := (word_Add.f 32767 1 0 false).bind fun bt167 => ((word_Sub.f 128 1 0 true).bind fun bt169 => ((word_Mul.f 65535 2).bind fun bt171 => ((word_Div.f 0 7 65534).bind fun bt174 => ((word_Shift.f k 32769 1).bind fun bt178 => ((word_Rotate.f 1 1 false false).bind fun bt180 => (if bt167.1 = 32768 then (if bt167.2 = 10 then (if bt169.1 = 127 then (if bt169.2 = 2 then (if bt171.1 = 65535 then (if bt171.2.1 = 65534 then (if bt171.2.2 = 8 then (if bt174.1 = 65533 then (if bt174.2.1 = 1 then (if bt174.2.2.1 = 8 then (if bt174.2.2.2 = true then (if bt178.1 = 2 then (if bt178.2 = 3 then (if bt180.1 = 32768 then (some (bt180.2 == 9)) else (some false)) else (some false)) else (some false)) else (some false)) else (some false)) else (some false)) else (some false)) else (some false)) else (some false)) else (some false)) else (some false)) else (some false)) else (some false)) else (some false)))))))
theorem emulatorlaw01_alive.mono : ∀ k, LeO (emulatorlaw01_alive.f k ) (emulatorlaw01_alive.f (k + 1) ) := by
  intro  k
  unfold emulatorlaw01_alive.f
  repeat' first
      | (with_reducible exact word_Shift.mono _ _ _)
      | (with_reducible exact LeO.refl _)
      | (with_reducible exact LeO.none _)
      | (with_reducible refine LeO.ite ?_ ?_)
      | (with_reducible refine LeO.bind ?_ (fun _ => ?_))
      | exact word_Shift.mono _ _ _
      | exact LeO.none _
      | refine LeO.ite ?_ ?_
      | refine LeO.bind ?_ (fun _ => ?_)
theorem alive_K : emulatorlaw01_alive.f 40 = some true := by decide +kernel
theorem alive_val (k : Nat) (r : Bool) (h : emulatorlaw01_alive.f k = some r) : r = true := by
  have h1 : ∀ n, LeO (emulatorlaw01_alive.f k) (emulatorlaw01_alive.f (k + n)) := by
    intro n
    induction n with
    | zero => exact LeO.refl _
    | succ n ih => exact fun r h => emulatorlaw01_alive.mono (k + n) r (ih r h)
  have h2 : ∀ n, LeO (emulatorlaw01_alive.f 40) (emulatorlaw01_alive.f (40 + n)) := by
    intro n
    induction n with
    | zero => exact LeO.refl _
    | succ n ih => exact fun r h => emulatorlaw01_alive.mono (40 + n) r (ih r h)
  have e1 := h1 40 r h
  have e2 := h2 k true alive_K
  rw [Nat.add_comm] at e2
  exact Option.some.inj (e1.symm.trans e2)
set_option maxHeartbeats 8000000 in
set_option maxRecDepth 100000 in
theorem emulatorlaw01_alive.calls (k : Nat)  (r : Bool) (w : World) (hS : Sz w) (h : emulatorlaw01_alive.f k  = some r) :
    Calls Tryd.prog 15 #[] w fun e w' => e = .returned (.bool r) ∧ Below w.heap.size w w' := by
  have hr_ := Aside0.mk (alive_val k r h)
  have HB := Aside0.mk (Below.refl w.heap.size w)
  have H : ((word_Add.f 32767 1 0 false).bind fun bt167 => ((word_Sub.f 128 1 0 true).bind fun bt169 => ((word_Mul.f 65535 2).bind fun bt171 => ((word_Div.f 0 7 65534).bind fun bt174 => ((word_Shift.f k 32769 1).bind fun bt178 => ((word_Rotate.f 1 1 false false).bind fun bt180 => (if bt167.1 = 32768 then (if bt167.2 = 10 then (if bt169.1 = 127 then (if bt169.2 = 2 then (if bt171.1 = 65535 then (if bt171.2.1 = 65534 then (if bt171.2.2 = 8 then (if bt174.1 = 65533 then (if bt174.2.1 = 1 then (if bt174.2.2.1 = 8 then (if bt174.2.2.2 = true then (if bt178.1 = 2 then (if bt178.2 = 3 then (if bt180.1 = 32768 then (some (bt180.2 == 9)) else (some false)) else (some false)) else (some false)) else (some false)) else (some false)) else (some false)) else (some false)) else (some false)) else (some false)) else (some false)) else (some false)) else (some false)) else (some false)) else (some false)))))))) = some r := h
  clear h
  replace H := Option.bind_eq_some_iff.mp H
  obtain ⟨⟨t167, t168⟩, A10, H⟩ := H
  replace H : ((word_Sub.f 128 1 0 true).bind fun bt169 => ((word_Mul.f 65535 2).bind fun bt171 => ((word_Div.f 0 7 65534).bind fun bt174 => ((word_Shift.f k 32769 1).bind fun bt178 => ((word_Rotate.f 1 1 false false).bind fun bt180 => (if t167 = 32768 then (if t168 = 10 then (if bt169.1 = 127 then (if bt169.2 = 2 then (if bt171.1 = 65535 then (if bt171.2.1 = 65534 then (if bt171.2.2 = 8 then (if bt174.1 = 65533 then (if bt174.2.1 = 1 then (if bt174.2.2.1 = 8 then (if bt174.2.2.2 = true then (if bt178.1 = 2 then (if bt178.2 = 3 then (if bt180.1 = 32768 then (some (bt180.2 == 9)) else (some false)) else (some false)) else (some false)) else (some false)) else (some false)) else (some false)) else (some false)) else (some false)) else (some false)) else (some false)) else (some false)) else (some false)) else (some false)) else (some false))))))) = some r := H
  have A1 := Aside0.mk A10
  clear A10
  replace H := Option.bind_eq_some_iff.mp H
  obtain ⟨⟨t169, t170⟩, A20, H⟩ := H
  replace H : ((word_Mul.f 65535 2).bind fun bt171 => ((word_Div.f 0 7 65534).bind fun bt174 => ((word_Shift.f k 32769 1).bind fun bt178 => ((word_Rotate.f 1 1 false false).bind fun bt180 => (if t167 = 32768 then (if t168 = 10 then (if t169 = 127 then (if t170 = 2 then (if bt171.1 = 65535 then (if bt171.2.1 = 65534 then (if bt171.2.2 = 8 then (if bt174.1 = 65533 then (if bt174.2.1 = 1 then (if bt174.2.2.1 = 8 then (if bt174.2.2.2 = true then (if bt178.1 = 2 then (if bt178.2 = 3 then (if bt180.1 = 32768 then (some (bt180.2 == 9)) else (some false)) else (some false)) else (some false)) else (some false)) else (some false)) else (some false)) else (some false)) else (some false)) else (some false)) else (some false)) else (some false)) else (some false)) else (some false)) else (some false)))))) = some r := H
  have A2 := Aside0.mk A20
  clear A20
  replace H := Option.bind_eq_some_iff.mp H
  obtain ⟨⟨t171, t172, t173⟩, A30, H⟩ := H
  replace H : ((word_Div.f 0 7 65534).bind fun bt174 => ((word_Shift.f k 32769 1).bind fun bt178 => ((word_Rotate.f 1 1 false false).bind fun bt180 => (if t167 = 32768 then (if t168 = 10 then (if t169 = 127 then (if t170 = 2 then (if t171 = 65535 then (if t172 = 65534 then (if t173 = 8 then (if bt174.1 = 65533 then (if bt174.2.1 = 1 then (if bt174.2.2.1 = 8 then (if bt174.2.2.2 = true then (if bt178.1 = 2 then (if bt178.2 = 3 then (if bt180.1 = 32768 then (some (bt180.2 == 9)) else (some false)) else (some false)) else (some false)) else (some false)) else (some false)) else (some false)) else (some false)) else (some false)) else (some false)) else (some false)) else (some false)) else (some false)) else (some false)) else (some false))))) = some r := H
  have A3 := Aside0.mk A30
  clear A30
  replace H := Option.bind_eq_some_iff.mp H
  obtain ⟨⟨t174, t175, t176, t177⟩, A40, H⟩ := H
  replace H : ((word_Shift.f k 32769 1).bind fun bt178 => ((word_Rotate.f 1 1 false false).bind fun bt180 => (if t167 = 32768 then (if t168 = 10 then (if t169 = 127 then (if t170 = 2 then (if t171 = 65535 then (if t172 = 65534 then (if t173 = 8 then (if t174 = 65533 then (if t175 = 1 then (if t176 = 8 then (if t177 = true then (if bt178.1 = 2 then (if bt178.2 = 3 then (if bt180.1 = 32768 then (some (bt180.2 == 9)) else (some false)) else (some false)) else (some false)) else (some false)) else (some false)) else (some false)) else (some false)) else (some false)) else (some false)) else (some false)) else (some false)) else (some false)) else (some false)) else (some false)))) = some r := H
  have A4 := Aside0.mk A40
  clear A40
  replace H := Option.bind_eq_some_iff.mp H
  obtain ⟨⟨t178, t179⟩, A50, H⟩ := H
  replace H : ((word_Rotate.f 1 1 false false).bind fun bt180 => (if t167 = 32768 then (if t168 = 10 then (if t169 = 127 then (if t170 = 2 then (if t171 = 65535 then (if t172 = 65534 then (if t173 = 8 then (if t174 = 65533 then (if t175 = 1 then (if t176 = 8 then (if t177 = true then (if t178 = 2 then (if t179 = 3 then (if bt180.1 = 32768 then (some (bt180.2 == 9)) else (some false)) else (some false)) else (some false)) else (some false)) else (some false)) else (some false)) else (some false)) else (some false)) else (some false)) else (some false)) else (some false)) else (some false)) else (some false)) else (some false))) = some r := H
  have A5 := Aside0.mk A50
  clear A50
  replace H := Option.bind_eq_some_iff.mp H
  obtain ⟨⟨t180, t181⟩, A60, H⟩ := H
  replace H : (if t167 = 32768 then (if t168 = 10 then (if t169 = 127 then (if t170 = 2 then (if t171 = 65535 then (if t172 = 65534 then (if t173 = 8 then (if t174 = 65533 then (if t175 = 1 then (if t176 = 8 then (if t177 = true then (if t178 = 2 then (if t179 = 3 then (if t180 = 32768 then (some (t181 == 9)) else (some false)) else (some false)) else (some false)) else (some false)) else (some false)) else (some false)) else (some false)) else (some false)) else (some false)) else (some false)) else (some false)) else (some false)) else (some false)) else (some false)) = some r := H
  have A6 := Aside0.mk A60
  clear A60
  by_cases c7 : t167 = 32768
  · rw [if_pos c7] at H
    have c7b0 : (t167 == 32768) = true := beq_iff_eq.mpr c7
    have c7b1 : (t167 != 32768) = false := bne_eq_false_iff_eq.mpr c7
    clear c7
    by_cases c8 : t168 = 10
    · rw [if_pos c8] at H
      have c8b0 : (t168 == 10) = true := beq_iff_eq.mpr c8
      have c8b1 : (t168 != 10) = false := bne_eq_false_iff_eq.mpr c8
      clear c8
      by_cases c9 : t169 = 127
      · rw [if_pos c9] at H
        have c9b0 : (t169 == 127) = true := beq_iff_eq.mpr c9
        have c9b1 : (t169 != 127) = false := bne_eq_false_iff_eq.mpr c9
        clear c9
        by_cases c10 : t170 = 2
        · rw [if_pos c10] at H
          have c10b0 : (t170 == 2) = true := beq_iff_eq.mpr c10
          have c10b1 : (t170 != 2) = false := bne_eq_false_iff_eq.mpr c10
          clear c10
          by_cases c11 : t171 = 65535
          · rw [if_pos c11] at H
            have c11b0 : (t171 == 65535) = true := beq_iff_eq.mpr c11
            have c11b1 : (t171 != 65535) = false := bne_eq_false_iff_eq.mpr c11
            clear c11
            by_cases c12 : t172 = 65534
            · rw [if_pos c12] at H
              have c12b0 : (t172 == 65534) = true := beq_iff_eq.mpr c12
              have c12b1 : (t172 != 65534) = false := bne_eq_false_iff_eq.mpr c12
              clear c12
              by_cases c13 : t173 = 8
              · rw [if_pos c13] at H
                have c13b0 : (t173 == 8) = true := beq_iff_eq.mpr c13
                have c13b1 : (t173 != 8) = false := bne_eq_false_iff_eq.mpr c13
                clear c13
                by_cases c14 : t174 = 65533
                · rw [if_pos c14] at H
                  have c14b0 : (t174 == 65533) = true := beq_iff_eq.mpr c14
                  have c14b1 : (t174 != 65533) = false := bne_eq_false_iff_eq.mpr c14
                  clear c14
                  by_cases c15 : t175 = 1
                  · rw [if_pos c15] at H
                    have c15b0 : (t175 == 1) = true := beq_iff_eq.mpr c15
                    have c15b1 : (t175 != 1) = false := bne_eq_false_iff_eq.mpr c15
                    clear c15
                    by_cases c16 : t176 = 8
                    · rw [if_pos c16] at H
                      have c16b0 : (t176 == 8) = true := beq_iff_eq.mpr c16
                      have c16b1 : (t176 != 8) = false := bne_eq_false_iff_eq.mpr c16
                      clear c16
                      by_cases c17 : t177 = true
                      · subst c17
                        have H1 : (if t178 = 2 then (if t179 = 3 then (if t180 = 32768 then (some (t181 == 9)) else (some false)) else (some false)) else (some false)) = some r := by rw [if_pos rfl] at H; exact H
                        clear H
                        have H := H1
                        clear H1
                        by_cases c18 : t178 = 2
                        · rw [if_pos c18] at H
                          have c18b0 : (t178 == 2) = true := beq_iff_eq.mpr c18
                          have c18b1 : (t178 != 2) = false := bne_eq_false_iff_eq.mpr c18
                          clear c18
                          by_cases c19 : t179 = 3
                          · rw [if_pos c19] at H
                            have c19b0 : (t179 == 3) = true := beq_iff_eq.mpr c19
                            have c19b1 : (t179 != 3) = false := bne_eq_false_iff_eq.mpr c19
                            clear c19
                            by_cases c20 : t180 = 32768
                            · rw [if_pos c20] at H
                              have c20b0 : (t180 == 32768) = true := beq_iff_eq.mpr c20
                              have c20b1 : (t180 != 32768) = false := bne_eq_false_iff_eq.mpr c20
                              clear c20
                              obtain rfl := Option.some.inj H
                              go_enter Tryd.func15, Tryd.ntmps15
                              go_wp2_with (first | ((with_reducible refine gate_callee (f := 11) rfl ?_); refine goesL_ (some 17) rfl rfl Tryd.func11 (by kernel_rfl) rfl #[.int .i64 32767, .int .i64 1, .int .i64 0, .bool false] rfl (by (try simp only [List.map_toArray, List.map_cons, List.map_nil]); first | done | rfl | (simp only [List.length_drop, List.length_take]; rfl)) ?_; (with_reducible refine (word_Add.calls 32767 1 0 false t167 t168 _ (hS.go (by repeat (first | (with_reducible first | exact HB.out | apply below_alloc | apply pw_below_drewN | apply below_drew1) | exact HB.out))) A1.out).mono ?_); rintro e w21 ⟨rfl, hb⟩; refine ⟨_, rfl, ?_⟩; have n0_ := Aside0.mk (below_step (by repeat (first | (with_reducible first | exact HB.out | apply below_alloc | apply pw_below_drewN | apply below_drew1) | exact HB.out)) hb); clear HB; have HB := n0_; clear n0_; (try clear hb); (try clear hb2); (try clear hk); (try clear hi)) | ((with_reducible refine gate_callee (f := 13) rfl ?_); refine goesL_ (some 21) rfl rfl Tryd.func13 (by kernel_rfl) rfl #[.int .i64 128, .int .i64 1, .int .i64 0, .bool true] rfl (by (try simp only [List.map_toArray, List.map_cons, List.map_nil]); first | done | rfl | (simp only [List.length_drop, List.length_take]; rfl)) ?_; (with_reducible refine (word_Sub.calls 128 1 0 true t169 t170 _ (hS.go (by repeat (first | (with_reducible first | exact HB.out | apply below_alloc | apply pw_below_drewN | apply below_drew1) | exact HB.out))) A2.out).mono ?_); rintro e w22 ⟨rfl, hb⟩; refine ⟨_, rfl, ?_⟩; have n0_ := Aside0.mk (below_step (by repeat (first | (with_reducible first | exact HB.out | apply below_alloc | apply pw_below_drewN | apply below_drew1) | exact HB.out)) hb); clear HB; have HB := n0_; clear n0_; (try clear hb); (try clear hb2); (try clear hk); (try clear hi)) | ((with_reducible refine gate_callee (f := 16) rfl ?_); refine goesL_ (some 25) rfl rfl Tryd.func16 (by kernel_rfl) rfl #[.int .i64 65535, .int .i64 2] rfl (by (try simp only [List.map_toArray, List.map_cons, List.map_nil]); first | done | rfl | (simp only [List.length_drop, List.length_take]; rfl)) ?_; (with_reducible refine (word_Mul.calls 65535 2 t171 t172 t173 _ A3.out).mono ?_); rintro e w' ⟨rfl, ⟨nd, rfl⟩⟩; refine ⟨_, rfl, ?_⟩) | ((with_reducible refine gate_callee (f := 18) rfl ?_); refine goesL_ (some 30) rfl rfl Tryd.func18 (by kernel_rfl) rfl #[.int .i64 0, .int .i64 7, .int .i64 65534] rfl (by (try simp only [List.map_toArray, List.map_cons, List.map_nil]); first | done | rfl | (simp only [List.length_drop, List.length_take]; rfl)) ?_; (with_reducible refine (word_Div.calls 0 7 65534 t174 t175 t176 true _ (hS.go (by repeat (first | (with_reducible first | exact HB.out | apply below_alloc | apply pw_below_drewN | apply below_drew1) | exact HB.out))) A4.out).mono ?_); rintro e w23 ⟨rfl, hb⟩; refine ⟨_, rfl, ?_⟩; have n0_ := Aside0.mk (below_step (by repeat (first | (with_reducible first | exact HB.out | apply below_alloc | apply pw_below_drewN | apply below_drew1) | exact HB.out)) hb); clear HB; have HB := n0_; clear n0_; (try clear hb); (try clear hb2); (try clear hk); (try clear hi)) | ((with_reducible refine gate_callee (f := 20) rfl ?_); refine goesL_ (some 36) rfl rfl Tryd.func20 (by kernel_rfl) rfl #[.int .i64 32769, .int .i64 1] rfl (by (try simp only [List.map_toArray, List.map_cons, List.map_nil]); first | done | rfl | (simp only [List.length_drop, List.length_take]; rfl)) ?_; (with_reducible refine (word_Shift.calls k 32769 1 t178 t179 _ (hS.go (by repeat (first | (with_reducible first | exact HB.out | apply below_alloc | apply pw_below_drewN | apply below_drew1) | exact HB.out))) A5.out).mono ?_); rintro e w24 ⟨rfl, hb⟩; refine ⟨_, rfl, ?_⟩; have n0_ := Aside0.mk (below_step (by repeat (first | (with_reducible first | exact HB.out | apply below_alloc | apply pw_below_drewN | apply below_drew1) | exact HB.out)) hb); clear HB; have HB := n0_; clear n0_; (try clear hb); (try clear hb2); (try clear hk); (try clear hi)) | ((with_reducible refine gate_callee (f := 22) rfl ?_); refine goesL_ (some 40) rfl rfl Tryd.func22 (by kernel_rfl) rfl #[.int .i64 1, .int .i64 1, .bool false, .bool false] rfl (by (try simp only [List.map_toArray, List.map_cons, List.map_nil]); first | done | rfl | (simp only [List.length_drop, List.length_take]; rfl)) ?_; (with_reducible refine (word_Rotate.calls 1 1 false false t180 t181 _ (hS.go (by repeat (first | (with_reducible first | exact HB.out | apply below_alloc | apply pw_below_drewN | apply below_drew1) | exact HB.out))) A6.out).mono ?_); rintro e w25 ⟨rfl, hb⟩; refine ⟨_, rfl, ?_⟩; have n0_ := Aside0.mk (below_step (by repeat (first | (with_reducible first | exact HB.out | apply below_alloc | apply pw_below_drewN | apply below_drew1) | exact HB.out)) hb); clear HB; have HB := n0_; clear n0_; (try clear hb); (try clear hb2); (try clear hk); (try clear hi)))
                              go_ret
                              exact ⟨by first | rfl | (simp [errW_none, errW_some] <;> rfl) | (simp [*, errW_none, errW_some] <;> rfl), by repeat (first | (with_reducible first | exact HB.out | apply below_alloc | apply pw_below_drewN | apply below_drew1) | exact HB.out)⟩
                            · rw [if_neg c20] at H
                              exact absurd (H.trans (congrArg some hr_.out)) (by decide)
                          · rw [if_neg c19] at H
                            exact absurd (H.trans (congrArg some hr_.out)) (by decide)
                        · rw [if_neg c18] at H
                          exact absurd (H.trans (congrArg some hr_.out)) (by decide)
                      · replace c17 := Bool.eq_false_iff.mpr c17
                        subst c17
                        have H1 : (some false) = some r := by rw [if_neg (show ¬ (false = true) by decide)] at H; exact H
                        clear H
                        have H := H1
                        clear H1
                        exact absurd (H.trans (congrArg some hr_.out)) (by decide)
                    · rw [if_neg c16] at H
                      exact absurd (H.trans (congrArg some hr_.out)) (by decide)
                  · rw [if_neg c15] at H
                    exact absurd (H.trans (congrArg some hr_.out)) (by decide)
                · rw [if_neg c14] at H
                  exact absurd (H.trans (congrArg some hr_.out)) (by decide)
              · rw [if_neg c13] at H
                exact absurd (H.trans (congrArg some hr_.out)) (by decide)
            · rw [if_neg c12] at H
              exact absurd (H.trans (congrArg some hr_.out)) (by decide)
          · rw [if_neg c11] at H
            exact absurd (H.trans (congrArg some hr_.out)) (by decide)
        · rw [if_neg c10] at H
          exact absurd (H.trans (congrArg some hr_.out)) (by decide)
      · rw [if_neg c9] at H
        exact absurd (H.trans (congrArg some hr_.out)) (by decide)
    · rw [if_neg c8] at H
      exact absurd (H.trans (congrArg some hr_.out)) (by decide)
  · rw [if_neg c7] at H
    exact absurd (H.trans (congrArg some hr_.out)) (by decide)end Go.Proofs.YtiodpkkigjfkgaaDoor.A
