-- Written by a program of this session (mp.py) over the kit's print.py, with proofs by hand for what the print does not take.
import Derived.Test.YtflblckegjobnaaDoorAx0
import Derived.Test.YtflblckegjobnaaDoorAx1
import Derived.Test.YtflblckegjobnaaDoorAx2
namespace Go.Proofs.YtflblckegjobnaaDoor.A
open Go.RowKit Go.Proofs.YtflblckegjobnaaDoorW.PrintWords Go.Proofs.YtflblckegjobnaaDoorW.PrintLast Go.Proofs.YtflblckegjobnaaDoorW.PrintMore
attribute [local go_sem] max2_int min2_int max_two min_two max_three min_three max_four min_four   -- for this text's walks alone
set_option linter.unusedVariables false
set_option linter.unusedSimpArgs false

/-! ### emulatorlaw11_alive: function 11 -/
def emulatorlaw11_alive.f (k : Nat)  : Option (Bool) := (trap_ByVector.f 16).bind fun bt115 => ((trap_ByVector.f 14).bind fun bt117 => ((trap_Vector.f 4).bind fun t119 => (if t119 = 16 then (if bt115.1 = 4 then (if bt115.2 = true then (if bt117.2 = true then (some false) else ((trap_Name.f 8).bind fun t120 => (if t120.toList = ([109, 109, 117] : List UInt8) then ((trap_Name.f 0).bind fun t121 => (if t121.toList = ([] : List UInt8) then ((trap_Aborts.f 6).bind fun t122 => (if t122 = true then (some false) else ((trap_Aborts.f 9).bind fun t123 => (if t123 = true then ((trap_Vectors.f k).bind fun t124 => (some ((t124.length : Int) == 9))) else (some false))))) else (some false))) else (some false)))) else (some false)) else (some false)) else (some false))))
theorem emulatorlaw11_alive.mono : ∀ k, LeO (emulatorlaw11_alive.f k ) (emulatorlaw11_alive.f (k + 1) ) := by
  intro  k
  unfold emulatorlaw11_alive.f
  repeat' first
      | (with_reducible exact trap_Vectors.mono _)
      | (with_reducible exact LeO.refl _)
      | (with_reducible exact LeO.none _)
      | (with_reducible refine LeO.ite ?_ ?_)
      | (with_reducible refine LeO.bind ?_ (fun _ => ?_))
      | exact trap_Vectors.mono _
      | exact LeO.none _
      | refine LeO.ite ?_ ?_
      | refine LeO.bind ?_ (fun _ => ?_)
theorem alive_K : emulatorlaw11_alive.f 40 = some true := by decide +kernel
theorem alive_val (k : Nat) (r : Bool) (h : emulatorlaw11_alive.f k = some r) : r = true := by
  have h1 : ∀ n, LeO (emulatorlaw11_alive.f k) (emulatorlaw11_alive.f (k + n)) := by
    intro n
    induction n with
    | zero => exact LeO.refl _
    | succ n ih => exact fun r h => emulatorlaw11_alive.mono (k + n) r (ih r h)
  have h2 : ∀ n, LeO (emulatorlaw11_alive.f 40) (emulatorlaw11_alive.f (40 + n)) := by
    intro n
    induction n with
    | zero => exact LeO.refl _
    | succ n ih => exact fun r h => emulatorlaw11_alive.mono (40 + n) r (ih r h)
  have e1 := h1 40 r h
  have e2 := h2 k true alive_K
  rw [Nat.add_comm] at e2
  exact Option.some.inj (e1.symm.trans e2)
set_option maxHeartbeats 8000000 in
set_option maxRecDepth 100000 in
theorem emulatorlaw11_alive.calls (k : Nat)  (r : Bool) (w : World) (hS : Sz w) (h : emulatorlaw11_alive.f k  = some r) :
    Calls Tryd.prog 11 #[] w fun e w' => e = .returned (.bool r) ∧ Below w.heap.size w w' := by
  have hr_ := Aside0.mk (alive_val k r h)
  have HB := Aside0.mk (Below.refl w.heap.size w)
  have H : ((trap_ByVector.f 16).bind fun bt115 => ((trap_ByVector.f 14).bind fun bt117 => ((trap_Vector.f 4).bind fun t119 => (if t119 = 16 then (if bt115.1 = 4 then (if bt115.2 = true then (if bt117.2 = true then (some false) else ((trap_Name.f 8).bind fun t120 => (if t120.toList = ([109, 109, 117] : List UInt8) then ((trap_Name.f 0).bind fun t121 => (if t121.toList = ([] : List UInt8) then ((trap_Aborts.f 6).bind fun t122 => (if t122 = true then (some false) else ((trap_Aborts.f 9).bind fun t123 => (if t123 = true then ((trap_Vectors.f k).bind fun t124 => (some ((t124.length : Int) == 9))) else (some false))))) else (some false))) else (some false)))) else (some false)) else (some false)) else (some false))))) = some r := h
  clear h
  replace H := Option.bind_eq_some_iff.mp H
  obtain ⟨⟨t115, t116⟩, A10, H⟩ := H
  replace H : ((trap_ByVector.f 14).bind fun bt117 => ((trap_Vector.f 4).bind fun t119 => (if t119 = 16 then (if t115 = 4 then (if t116 = true then (if bt117.2 = true then (some false) else ((trap_Name.f 8).bind fun t120 => (if t120.toList = ([109, 109, 117] : List UInt8) then ((trap_Name.f 0).bind fun t121 => (if t121.toList = ([] : List UInt8) then ((trap_Aborts.f 6).bind fun t122 => (if t122 = true then (some false) else ((trap_Aborts.f 9).bind fun t123 => (if t123 = true then ((trap_Vectors.f k).bind fun t124 => (some ((t124.length : Int) == 9))) else (some false))))) else (some false))) else (some false)))) else (some false)) else (some false)) else (some false)))) = some r := H
  have A1 := Aside0.mk A10
  clear A10
  replace H := Option.bind_eq_some_iff.mp H
  obtain ⟨⟨t117, t118⟩, A20, H⟩ := H
  replace H : ((trap_Vector.f 4).bind fun t119 => (if t119 = 16 then (if t115 = 4 then (if t116 = true then (if t118 = true then (some false) else ((trap_Name.f 8).bind fun t120 => (if t120.toList = ([109, 109, 117] : List UInt8) then ((trap_Name.f 0).bind fun t121 => (if t121.toList = ([] : List UInt8) then ((trap_Aborts.f 6).bind fun t122 => (if t122 = true then (some false) else ((trap_Aborts.f 9).bind fun t123 => (if t123 = true then ((trap_Vectors.f k).bind fun t124 => (some ((t124.length : Int) == 9))) else (some false))))) else (some false))) else (some false)))) else (some false)) else (some false)) else (some false))) = some r := H
  have A2 := Aside0.mk A20
  clear A20
  replace H := Option.bind_eq_some_iff.mp H
  obtain ⟨t119, A30, H⟩ := H
  replace H : (if t119 = 16 then (if t115 = 4 then (if t116 = true then (if t118 = true then (some false) else ((trap_Name.f 8).bind fun t120 => (if t120.toList = ([109, 109, 117] : List UInt8) then ((trap_Name.f 0).bind fun t121 => (if t121.toList = ([] : List UInt8) then ((trap_Aborts.f 6).bind fun t122 => (if t122 = true then (some false) else ((trap_Aborts.f 9).bind fun t123 => (if t123 = true then ((trap_Vectors.f k).bind fun t124 => (some ((t124.length : Int) == 9))) else (some false))))) else (some false))) else (some false)))) else (some false)) else (some false)) else (some false)) = some r := H
  have A3 := Aside0.mk A30
  clear A30
  by_cases c4 : t119 = 16
  · rw [if_pos c4] at H
    have c4b0 : (t119 == 16) = true := beq_iff_eq.mpr c4
    have c4b1 : (t119 != 16) = false := bne_eq_false_iff_eq.mpr c4
    clear c4
    by_cases c5 : t115 = 4
    · rw [if_pos c5] at H
      have c5b0 : (t115 == 4) = true := beq_iff_eq.mpr c5
      have c5b1 : (t115 != 4) = false := bne_eq_false_iff_eq.mpr c5
      clear c5
      by_cases c6 : t116 = true
      · subst c6
        have H1 : (if t118 = true then (some false) else ((trap_Name.f 8).bind fun t120 => (if t120.toList = ([109, 109, 117] : List UInt8) then ((trap_Name.f 0).bind fun t121 => (if t121.toList = ([] : List UInt8) then ((trap_Aborts.f 6).bind fun t122 => (if t122 = true then (some false) else ((trap_Aborts.f 9).bind fun t123 => (if t123 = true then ((trap_Vectors.f k).bind fun t124 => (some ((t124.length : Int) == 9))) else (some false))))) else (some false))) else (some false)))) = some r := by rw [if_pos rfl] at H; exact H
        clear H
        have H := H1
        clear H1
        by_cases c7 : t118 = true
        · subst c7
          have H1 : (some false) = some r := by rw [if_pos rfl] at H; exact H
          clear H
          have H := H1
          clear H1
          exact absurd (H.trans (congrArg some hr_.out)) (by decide)
        · replace c7 := Bool.eq_false_iff.mpr c7
          subst c7
          have H1 : ((trap_Name.f 8).bind fun t120 => (if t120.toList = ([109, 109, 117] : List UInt8) then ((trap_Name.f 0).bind fun t121 => (if t121.toList = ([] : List UInt8) then ((trap_Aborts.f 6).bind fun t122 => (if t122 = true then (some false) else ((trap_Aborts.f 9).bind fun t123 => (if t123 = true then ((trap_Vectors.f k).bind fun t124 => (some ((t124.length : Int) == 9))) else (some false))))) else (some false))) else (some false))) = some r := by rw [if_neg (show ¬ (false = true) by decide)] at H; exact H
          clear H
          have H := H1
          clear H1
          replace H := Option.bind_eq_some_iff.mp H
          obtain ⟨t120, A80, H⟩ := H
          replace H : (if t120.toList = ([109, 109, 117] : List UInt8) then ((trap_Name.f 0).bind fun t121 => (if t121.toList = ([] : List UInt8) then ((trap_Aborts.f 6).bind fun t122 => (if t122 = true then (some false) else ((trap_Aborts.f 9).bind fun t123 => (if t123 = true then ((trap_Vectors.f k).bind fun t124 => (some ((t124.length : Int) == 9))) else (some false))))) else (some false))) else (some false)) = some r := H
          have A8 := Aside0.mk A80
          clear A80
          by_cases c9 : t120.toList = ([109, 109, 117] : List UInt8)
          · rw [if_pos c9] at H
            have c9b0 : (t120.toList == ([109, 109, 117] : List UInt8)) = true := beq_iff_eq.mpr c9
            have c9b1 : (t120.toList != ([109, 109, 117] : List UInt8)) = false := bne_eq_false_iff_eq.mpr c9
            clear c9
            replace H := Option.bind_eq_some_iff.mp H
            obtain ⟨t121, A100, H⟩ := H
            replace H : (if t121.toList = ([] : List UInt8) then ((trap_Aborts.f 6).bind fun t122 => (if t122 = true then (some false) else ((trap_Aborts.f 9).bind fun t123 => (if t123 = true then ((trap_Vectors.f k).bind fun t124 => (some ((t124.length : Int) == 9))) else (some false))))) else (some false)) = some r := H
            have A10 := Aside0.mk A100
            clear A100
            by_cases c11 : t121.toList = ([] : List UInt8)
            · rw [if_pos c11] at H
              have c11b0 : (t121.toList == ([] : List UInt8)) = true := beq_iff_eq.mpr c11
              have c11b1 : (t121.toList != ([] : List UInt8)) = false := bne_eq_false_iff_eq.mpr c11
              clear c11
              replace H := Option.bind_eq_some_iff.mp H
              obtain ⟨t122, A120, H⟩ := H
              replace H : (if t122 = true then (some false) else ((trap_Aborts.f 9).bind fun t123 => (if t123 = true then ((trap_Vectors.f k).bind fun t124 => (some ((t124.length : Int) == 9))) else (some false)))) = some r := H
              have A12 := Aside0.mk A120
              clear A120
              by_cases c13 : t122 = true
              · subst c13
                have H1 : (some false) = some r := by rw [if_pos rfl] at H; exact H
                clear H
                have H := H1
                clear H1
                exact absurd (H.trans (congrArg some hr_.out)) (by decide)
              · replace c13 := Bool.eq_false_iff.mpr c13
                subst c13
                have H1 : ((trap_Aborts.f 9).bind fun t123 => (if t123 = true then ((trap_Vectors.f k).bind fun t124 => (some ((t124.length : Int) == 9))) else (some false))) = some r := by rw [if_neg (show ¬ (false = true) by decide)] at H; exact H
                clear H
                have H := H1
                clear H1
                replace H := Option.bind_eq_some_iff.mp H
                obtain ⟨t123, A160, H⟩ := H
                replace H : (if t123 = true then ((trap_Vectors.f k).bind fun t124 => (some ((t124.length : Int) == 9))) else (some false)) = some r := H
                have A16 := Aside0.mk A160
                clear A160
                by_cases c17 : t123 = true
                · subst c17
                  have H1 : ((trap_Vectors.f k).bind fun t124 => (some ((t124.length : Int) == 9))) = some r := by rw [if_pos rfl] at H; exact H
                  clear H
                  have H := H1
                  clear H1
                  replace H := Option.bind_eq_some_iff.mp H
                  obtain ⟨t124, A180, H⟩ := H
                  replace H : (some ((t124.length : Int) == 9)) = some r := H
                  have A18 := Aside0.mk A180
                  clear A180
                  obtain rfl := Option.some.inj H
                  go_enter Tryd.func11, Tryd.ntmps11
                  go_wp2_with (first | ((with_reducible refine gate_callee (f := 7) rfl ?_); refine goesL_ (some 6) rfl rfl Tryd.func7 (by kernel_rfl) rfl #[.int .i64 16] rfl (by (try simp only [List.map_toArray, List.map_cons, List.map_nil]); first | done | rfl | (simp only [List.length_drop, List.length_take]; rfl)) ?_; (with_reducible refine (trap_ByVector.calls 16 t115 true _ A1.out).mono ?_); rintro e w' ⟨rfl, ⟨nd, rfl⟩⟩; refine ⟨_, rfl, ?_⟩) | ((with_reducible refine gate_callee (f := 7) rfl ?_); refine goesL_ (some 10) rfl rfl Tryd.func7 (by kernel_rfl) rfl #[.int .i64 14] rfl (by (try simp only [List.map_toArray, List.map_cons, List.map_nil]); first | done | rfl | (simp only [List.length_drop, List.length_take]; rfl)) ?_; (with_reducible refine (trap_ByVector.calls 14 t117 false _ A2.out).mono ?_); rintro e w' ⟨rfl, ⟨nd, rfl⟩⟩; refine ⟨_, rfl, ?_⟩) | ((with_reducible refine gate_callee (f := 9) rfl ?_); refine goesL_ (some 13) rfl rfl Tryd.func9 (by kernel_rfl) rfl #[.int .i64 4] rfl (by (try simp only [List.map_toArray, List.map_cons, List.map_nil]); first | done | rfl | (simp only [List.length_drop, List.length_take]; rfl)) ?_; (with_reducible refine (trap_Vector.calls 4 t119 _ A3.out).mono ?_); rintro e w' ⟨rfl, ⟨nd, rfl⟩⟩; refine ⟨_, rfl, ?_⟩) | (go_at_call 12; (with_reducible refine (trap_Name.calls 8 t120 _ (hS.go (by repeat (first | (with_reducible first | exact HB.out | apply below_alloc | apply pw_below_drewN | apply below_drew1) | exact HB.out))) A8.out).mono ?_); rintro e w19 ⟨rfl, hb⟩; have n0_ := Aside0.mk (below_step (by repeat (first | (with_reducible first | exact HB.out | apply below_alloc | apply pw_below_drewN | apply below_drew1) | exact HB.out)) hb); clear HB; have HB := n0_; clear n0_; (try clear hb); (try clear hb2); (try clear hk); (try clear hi)) | (go_at_call 12; (with_reducible refine (trap_Name.calls 0 t121 _ (hS.go (by repeat (first | (with_reducible first | exact HB.out | apply below_alloc | apply pw_below_drewN | apply below_drew1) | exact HB.out))) A10.out).mono ?_); rintro e w20 ⟨rfl, hb⟩; have n0_ := Aside0.mk (below_step (by repeat (first | (with_reducible first | exact HB.out | apply below_alloc | apply pw_below_drewN | apply below_drew1) | exact HB.out)) hb); clear HB; have HB := n0_; clear n0_; (try clear hb); (try clear hb2); (try clear hk); (try clear hi)) | (go_at_call 14; (with_reducible refine (trap_Aborts.calls 6 false _ A12.out).mono ?_); rintro e w' ⟨rfl, ⟨nd, rfl⟩⟩) | (go_at_call 14; (with_reducible refine (trap_Aborts.calls 9 true _ A16.out).mono ?_); rintro e w' ⟨rfl, ⟨nd, rfl⟩⟩) | (go_at_call 16; (with_reducible refine (trap_Vectors.calls k  t124 _ A18.out).mono ?_); rintro e w21 ⟨v125, rfl, ho0, hb⟩; have n0_ := Aside0.mk (Kd.R_lower ho0 (below_size (by repeat (first | (with_reducible first | exact HB.out | apply below_alloc | apply pw_below_drewN | apply below_drew1) | exact HB.out)))); have n1_ := Aside0.mk (below_step (by repeat (first | (with_reducible first | exact HB.out | apply below_alloc | apply pw_below_drewN | apply below_drew1) | exact HB.out)) hb); clear HB; have HO126 := n0_; have HB := n1_; clear n0_ n1_; (try clear hb); (try clear hb2); (try clear hk); (try clear hi); (try clear ho0); obtain ⟨Ao22, co22, eo22⟩ := Kd.R_slice HO126.out; subst eo22))
                  go_ret
                  exact ⟨by first | rfl | (simp [errW_none, errW_some] <;> rfl) | (simp [*, errW_none, errW_some] <;> rfl), by repeat (first | (with_reducible first | exact HB.out | apply below_alloc | apply pw_below_drewN | apply below_drew1) | exact HB.out)⟩
                · replace c17 := Bool.eq_false_iff.mpr c17
                  subst c17
                  have H1 : (some false) = some r := by rw [if_neg (show ¬ (false = true) by decide)] at H; exact H
                  clear H
                  have H := H1
                  clear H1
                  exact absurd (H.trans (congrArg some hr_.out)) (by decide)
            · rw [if_neg c11] at H
              exact absurd (H.trans (congrArg some hr_.out)) (by decide)
          · rw [if_neg c9] at H
            exact absurd (H.trans (congrArg some hr_.out)) (by decide)
      · replace c6 := Bool.eq_false_iff.mpr c6
        subst c6
        have H1 : (some false) = some r := by rw [if_neg (show ¬ (false = true) by decide)] at H; exact H
        clear H
        have H := H1
        clear H1
        exact absurd (H.trans (congrArg some hr_.out)) (by decide)
    · rw [if_neg c5] at H
      exact absurd (H.trans (congrArg some hr_.out)) (by decide)
  · rw [if_neg c4] at H
    exact absurd (H.trans (congrArg some hr_.out)) (by decide)

/-! ### emulatorlaw11_TrapVectors: function 3 -/
def emulatorlaw11_TrapVectors.f (k : Nat) (a0 : Int) (a1 : Int) : Option (Bool) := (trap_ByVector.f a1).bind fun bt127 => ((emulatorref11_ByVector.f k a1).bind fun bt129 => ((trap_Vector.f a0).bind fun t131 => ((emulatorref11_Vector.f a0).bind fun t132 => (if t131 = t132 then (if bt127.1 = bt129.1 then (if (bt127.2 == bt129.2) = true then ((emulatorlaw11_alive.f k).bind fun t133 => (some t133)) else (some false)) else (some false)) else (some false)))))
theorem emulatorlaw11_TrapVectors.mono : ∀ a0 a1 k, LeO (emulatorlaw11_TrapVectors.f k a0 a1) (emulatorlaw11_TrapVectors.f (k + 1) a0 a1) := by
  intro a0 a1 k
  unfold emulatorlaw11_TrapVectors.f
  repeat' first
      | (with_reducible exact emulatorlaw11_alive.mono _)
      | (with_reducible exact emulatorref11_ByVector.mono _ _)
      | (with_reducible exact LeO.refl _)
      | (with_reducible exact LeO.none _)
      | (with_reducible refine LeO.ite ?_ ?_)
      | (with_reducible refine LeO.bind ?_ (fun _ => ?_))
      | exact emulatorlaw11_alive.mono _
      | exact emulatorref11_ByVector.mono _ _
      | exact LeO.none _
      | refine LeO.ite ?_ ?_
      | refine LeO.bind ?_ (fun _ => ?_)
set_option maxHeartbeats 8000000 in
set_option maxRecDepth 100000 in
theorem emulatorlaw11_TrapVectors.calls (k : Nat) (a0 : Int) (a1 : Int) (r : Bool) (w : World) (hS : Sz w) (h : emulatorlaw11_TrapVectors.f k a0 a1 = some r) (hr0 : r = true) :
    Calls Tryd.prog 3 #[.int .i64 a0, .int .i64 a1] w fun e w' => e = .returned (.bool r) ∧ Below w.heap.size w w' := by
  have hr_ := Aside0.mk hr0
  clear hr0
  have HB := Aside0.mk (Below.refl w.heap.size w)
  have H : ((trap_ByVector.f a1).bind fun bt127 => ((emulatorref11_ByVector.f k a1).bind fun bt129 => ((trap_Vector.f a0).bind fun t131 => ((emulatorref11_Vector.f a0).bind fun t132 => (if t131 = t132 then (if bt127.1 = bt129.1 then (if (bt127.2 == bt129.2) = true then ((emulatorlaw11_alive.f k).bind fun t133 => (some t133)) else (some false)) else (some false)) else (some false)))))) = some r := h
  clear h
  replace H := Option.bind_eq_some_iff.mp H
  obtain ⟨⟨t127, t128⟩, A30, H⟩ := H
  replace H : ((emulatorref11_ByVector.f k a1).bind fun bt129 => ((trap_Vector.f a0).bind fun t131 => ((emulatorref11_Vector.f a0).bind fun t132 => (if t131 = t132 then (if t127 = bt129.1 then (if (t128 == bt129.2) = true then ((emulatorlaw11_alive.f k).bind fun t133 => (some t133)) else (some false)) else (some false)) else (some false))))) = some r := H
  have A3 := Aside0.mk A30
  clear A30
  replace H := Option.bind_eq_some_iff.mp H
  obtain ⟨⟨t129, t130⟩, A40, H⟩ := H
  replace H : ((trap_Vector.f a0).bind fun t131 => ((emulatorref11_Vector.f a0).bind fun t132 => (if t131 = t132 then (if t127 = t129 then (if (t128 == t130) = true then ((emulatorlaw11_alive.f k).bind fun t133 => (some t133)) else (some false)) else (some false)) else (some false)))) = some r := H
  have A4 := Aside0.mk A40
  clear A40
  replace H := Option.bind_eq_some_iff.mp H
  obtain ⟨t131, A50, H⟩ := H
  replace H : ((emulatorref11_Vector.f a0).bind fun t132 => (if t131 = t132 then (if t127 = t129 then (if (t128 == t130) = true then ((emulatorlaw11_alive.f k).bind fun t133 => (some t133)) else (some false)) else (some false)) else (some false))) = some r := H
  have A5 := Aside0.mk A50
  clear A50
  replace H := Option.bind_eq_some_iff.mp H
  obtain ⟨t132, A60, H⟩ := H
  replace H : (if t131 = t132 then (if t127 = t129 then (if (t128 == t130) = true then ((emulatorlaw11_alive.f k).bind fun t133 => (some t133)) else (some false)) else (some false)) else (some false)) = some r := H
  have A6 := Aside0.mk A60
  clear A60
  by_cases c7 : t131 = t132
  · rw [if_pos c7] at H
    have c7b0 : (t131 == t132) = true := beq_iff_eq.mpr c7
    have c7b1 : (t131 != t132) = false := bne_eq_false_iff_eq.mpr c7
    clear c7
    by_cases c8 : t127 = t129
    · rw [if_pos c8] at H
      have c8b0 : (t127 == t129) = true := beq_iff_eq.mpr c8
      have c8b1 : (t127 != t129) = false := bne_eq_false_iff_eq.mpr c8
      clear c8
      by_cases c9 : (t128 == t130) = true
      · rw [if_pos c9] at H
        have c9b0 : (t128 == t130) = true := c9
        (try (have c9b1 : decide (t128 = t130) = true := by simpa using c9))
        (try (have c9b2 : (t128 == t130) = true := by simpa using c9))
        clear c9
        replace H := Option.bind_eq_some_iff.mp H
        obtain ⟨t133, A100, H⟩ := H
        replace H : (some t133) = some r := H
        have A10 := Aside0.mk A100
        clear A100
        obtain rfl := Option.some.inj H
        go_enter Tryd.func3, Tryd.ntmps3
        go_wp2_with (first | ((with_reducible refine gate_callee (f := 7) rfl ?_); refine goesL_ (some 11) rfl rfl Tryd.func7 (by kernel_rfl) rfl #[.int .i64 a1] rfl (by (try simp only [List.map_toArray, List.map_cons, List.map_nil]); first | done | rfl | (simp only [List.length_drop, List.length_take]; rfl)) ?_; (with_reducible refine (trap_ByVector.calls a1 t127 t128 _ A3.out).mono ?_); rintro e w' ⟨rfl, ⟨nd, rfl⟩⟩; refine ⟨_, rfl, ?_⟩) | ((with_reducible refine gate_callee (f := 8) rfl ?_); refine goesL_ (some 16) rfl rfl Tryd.func8 (by kernel_rfl) rfl #[.int .i64 a1] rfl (by (try simp only [List.map_toArray, List.map_cons, List.map_nil]); first | done | rfl | (simp only [List.length_drop, List.length_take]; rfl)) ?_; (with_reducible refine (emulatorref11_ByVector.calls k a1 t129 t130 _ A4.out).mono ?_); rintro e w' ⟨rfl, ⟨nd, rfl⟩⟩; refine ⟨_, rfl, ?_⟩) | ((with_reducible refine gate_callee (f := 9) rfl ?_); refine goesL_ (some 20) rfl rfl Tryd.func9 (by kernel_rfl) rfl #[.int .i64 a0] rfl (by (try simp only [List.map_toArray, List.map_cons, List.map_nil]); first | done | rfl | (simp only [List.length_drop, List.length_take]; rfl)) ?_; (with_reducible refine (trap_Vector.calls a0 t131 _ A5.out).mono ?_); rintro e w' ⟨rfl, ⟨nd, rfl⟩⟩; refine ⟨_, rfl, ?_⟩) | ((with_reducible refine gate_callee (f := 10) rfl ?_); refine goesL_ (some 22) rfl rfl Tryd.func10 (by kernel_rfl) rfl #[.int .i64 a0] rfl (by (try simp only [List.map_toArray, List.map_cons, List.map_nil]); first | done | rfl | (simp only [List.length_drop, List.length_take]; rfl)) ?_; (with_reducible refine (emulatorref11_Vector.calls a0 t132 _ A6.out).mono ?_); rintro e w' ⟨rfl, ⟨nd, rfl⟩⟩; refine ⟨_, rfl, ?_⟩) | (go_at_call 11; (with_reducible refine (emulatorlaw11_alive.calls k  t133 _ (hS.go (by repeat (first | (with_reducible first | exact HB.out | apply below_alloc | apply pw_below_drewN | apply below_drew1) | exact HB.out))) A10.out).mono ?_); rintro e w11 ⟨rfl, hb⟩; have n0_ := Aside0.mk (below_step (by repeat (first | (with_reducible first | exact HB.out | apply below_alloc | apply pw_below_drewN | apply below_drew1) | exact HB.out)) hb); clear HB; have HB := n0_; clear n0_; (try clear hb); (try clear hb2); (try clear hk); (try clear hi)))
        go_ret
        exact ⟨by first | rfl | (simp [errW_none, errW_some] <;> rfl) | (simp [*, errW_none, errW_some] <;> rfl), by repeat (first | (with_reducible first | exact HB.out | apply below_alloc | apply pw_below_drewN | apply below_drew1) | exact HB.out)⟩
      · rw [if_neg c9] at H
        exact absurd (H.trans (congrArg some hr_.out)) (by decide)
    · rw [if_neg c8] at H
      exact absurd (H.trans (congrArg some hr_.out)) (by decide)
  · rw [if_neg c7] at H
    exact absurd (H.trans (congrArg some hr_.out)) (by decide)

end Go.Proofs.YtflblckegjobnaaDoor.A
