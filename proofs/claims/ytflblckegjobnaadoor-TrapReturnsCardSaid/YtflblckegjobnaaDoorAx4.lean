-- Written by a program of this session (mp.py) over the kit's print.py, with proofs by hand for what the print does not take.
import Derived.Test.YtflblckegjobnaaDoorAx0
import Derived.Test.YtflblckegjobnaaDoorAx1
import Derived.Test.YtflblckegjobnaaDoorAx2
import Derived.Test.YtflblckegjobnaaDoorAx3
namespace Go.Proofs.YtflblckegjobnaaDoor.A
open Go.RowKit Go.Proofs.YtflblckegjobnaaDoorW.PrintWords Go.Proofs.YtflblckegjobnaaDoorW.PrintLast Go.Proofs.YtflblckegjobnaaDoorW.PrintMore
attribute [local go_sem] max2_int min2_int max_two min_two max_three min_three max_four min_four   -- for this text's walks alone
set_option linter.unusedVariables false
set_option linter.unusedSimpArgs false

/-! ### emulatorref11_Name: function 13 -/
def emulatorref11_Name.f (a0 : Int) : Option (ByteArray) := (emulatorref11_Is.f a0).bind fun t134 => (if t134 = true then ((some (([(⟨#[]⟩ : ByteArray), (⟨#[98, 117, 115]⟩ : ByteArray), (⟨#[105, 108, 108, 101, 103, 97, 108]⟩ : ByteArray), (⟨#[98, 112, 116]⟩ : ByteArray), (⟨#[105, 111, 116]⟩ : ByteArray), (⟨#[112, 111, 119, 101, 114]⟩ : ByteArray), (⟨#[101, 109, 116]⟩ : ByteArray), (⟨#[116, 114, 97, 112]⟩ : ByteArray), (⟨#[109, 109, 117]⟩ : ByteArray), (⟨#[112, 97, 114, 105, 116, 121]⟩ : ByteArray)] : List ByteArray) : List ByteArray)).bind fun y135 => (if 0 ≤ a0 then (if a0 < (y135.length : Int) then (some (rdOf ByteArray.empty y135 a0)) else (none)) else (none))) else (some (⟨#[]⟩ : ByteArray)))
set_option maxHeartbeats 8000000 in
set_option maxRecDepth 100000 in
theorem emulatorref11_Name.calls (a0 : Int) (r : ByteArray) (w : World) (h : emulatorref11_Name.f a0 = some r) :
    Calls Tryd.prog 13 #[.int .i64 a0] w fun e w' => e = .returned (.string r) ∧ Below w.heap.size w w' := by
  have HB := Aside0.mk (Below.refl w.heap.size w)
  have H : ((emulatorref11_Is.f a0).bind fun t134 => (if t134 = true then ((some (([(⟨#[]⟩ : ByteArray), (⟨#[98, 117, 115]⟩ : ByteArray), (⟨#[105, 108, 108, 101, 103, 97, 108]⟩ : ByteArray), (⟨#[98, 112, 116]⟩ : ByteArray), (⟨#[105, 111, 116]⟩ : ByteArray), (⟨#[112, 111, 119, 101, 114]⟩ : ByteArray), (⟨#[101, 109, 116]⟩ : ByteArray), (⟨#[116, 114, 97, 112]⟩ : ByteArray), (⟨#[109, 109, 117]⟩ : ByteArray), (⟨#[112, 97, 114, 105, 116, 121]⟩ : ByteArray)] : List ByteArray) : List ByteArray)).bind fun y135 => (if 0 ≤ a0 then (if a0 < (y135.length : Int) then (some (rdOf ByteArray.empty y135 a0)) else (none)) else (none))) else (some (⟨#[]⟩ : ByteArray)))) = some r := h
  clear h
  replace H := Option.bind_eq_some_iff.mp H
  obtain ⟨t134, A20, H⟩ := H
  replace H : (if t134 = true then ((some (([(⟨#[]⟩ : ByteArray), (⟨#[98, 117, 115]⟩ : ByteArray), (⟨#[105, 108, 108, 101, 103, 97, 108]⟩ : ByteArray), (⟨#[98, 112, 116]⟩ : ByteArray), (⟨#[105, 111, 116]⟩ : ByteArray), (⟨#[112, 111, 119, 101, 114]⟩ : ByteArray), (⟨#[101, 109, 116]⟩ : ByteArray), (⟨#[116, 114, 97, 112]⟩ : ByteArray), (⟨#[109, 109, 117]⟩ : ByteArray), (⟨#[112, 97, 114, 105, 116, 121]⟩ : ByteArray)] : List ByteArray) : List ByteArray)).bind fun y135 => (if 0 ≤ a0 then (if a0 < (y135.length : Int) then (some (rdOf ByteArray.empty y135 a0)) else (none)) else (none))) else (some (⟨#[]⟩ : ByteArray))) = some r := H
  have A2 := Aside0.mk A20
  clear A20
  by_cases c3 : t134 = true
  · subst c3
    have H1 : ((some (([(⟨#[]⟩ : ByteArray), (⟨#[98, 117, 115]⟩ : ByteArray), (⟨#[105, 108, 108, 101, 103, 97, 108]⟩ : ByteArray), (⟨#[98, 112, 116]⟩ : ByteArray), (⟨#[105, 111, 116]⟩ : ByteArray), (⟨#[112, 111, 119, 101, 114]⟩ : ByteArray), (⟨#[101, 109, 116]⟩ : ByteArray), (⟨#[116, 114, 97, 112]⟩ : ByteArray), (⟨#[109, 109, 117]⟩ : ByteArray), (⟨#[112, 97, 114, 105, 116, 121]⟩ : ByteArray)] : List ByteArray) : List ByteArray)).bind fun y135 => (if 0 ≤ a0 then (if a0 < (y135.length : Int) then (some (rdOf ByteArray.empty y135 a0)) else (none)) else (none))) = some r := by rw [if_pos rfl] at H; exact H
    clear H
    have H := H1
    clear H1
    obtain ⟨y135, hy135⟩ : ∃ y_ : List ByteArray, y_ = (([(⟨#[]⟩ : ByteArray), (⟨#[98, 117, 115]⟩ : ByteArray), (⟨#[105, 108, 108, 101, 103, 97, 108]⟩ : ByteArray), (⟨#[98, 112, 116]⟩ : ByteArray), (⟨#[105, 111, 116]⟩ : ByteArray), (⟨#[112, 111, 119, 101, 114]⟩ : ByteArray), (⟨#[101, 109, 116]⟩ : ByteArray), (⟨#[116, 114, 97, 112]⟩ : ByteArray), (⟨#[109, 109, 117]⟩ : ByteArray), (⟨#[112, 97, 114, 105, 116, 121]⟩ : ByteArray)] : List ByteArray)) := ⟨_, rfl⟩
    replace H : (if 0 ≤ a0 then (if a0 < (y135.length : Int) then (some (rdOf ByteArray.empty y135 a0)) else (none)) else (none)) = some r := by first | (rw [hy135]; with_reducible exact H) | (have H2_ := (Option.bind_some _ _).symm.trans H; rw [hy135]; with_reducible exact H2_) | (have H2_ := (Option.bind_some _ _).symm.trans H; with_reducible exact H2_) | with_reducible exact H | (rw [hy135]; exact H) | exact H
    have Ny135 := Aside0.mk hy135
    clear hy135
    by_cases c4 : 0 ≤ a0
    · rw [if_pos c4] at H
      have c4b0 : decide (0 ≤ a0) = true := decide_eq_true c4
      clear c4
      by_cases c5 : a0 < (y135.length : Int)
      · rw [if_pos c5] at H
        have c5b0 : decide (a0 < (y135.length : Int)) = true := decide_eq_true c5
        clear c5
        obtain rfl := Option.some.inj H
        go_enter Tryd.func13, Tryd.ntmps13
        go_wp2_with (first | ((with_reducible refine gate_callee (f := 19) rfl ?_); refine goesL_ (some 4) rfl rfl Tryd.func19 (by kernel_rfl) rfl #[.int .i64 a0] rfl (by (try simp only [List.map_toArray, List.map_cons, List.map_nil]); first | done | rfl | (simp only [List.length_drop, List.length_take]; rfl)) ?_; (with_reducible refine (emulatorref11_Is.calls a0 true _ A2.out).mono ?_); rintro e w' ⟨rfl, ⟨nd, rfl⟩⟩; refine ⟨_, rfl, ?_⟩) | ((with_reducible refine gate_dst (N := 6) rfl ?_); refine Kd.R_lit Kd.string _ 9 ?hg (N := 6) ?hd (xs := ([(⟨#[]⟩ : ByteArray), (⟨#[98, 117, 115]⟩ : ByteArray), (⟨#[105, 108, 108, 101, 103, 97, 108]⟩ : ByteArray), (⟨#[98, 112, 116]⟩ : ByteArray), (⟨#[105, 111, 116]⟩ : ByteArray), (⟨#[112, 111, 119, 101, 114]⟩ : ByteArray), (⟨#[101, 109, 116]⟩ : ByteArray), (⟨#[116, 114, 97, 112]⟩ : ByteArray), (⟨#[109, 109, 117]⟩ : ByteArray), (⟨#[112, 97, 114, 105, 116, 121]⟩ : ByteArray)] : List ByteArray)) (inner := [.string (⟨#[]⟩ : ByteArray), .string (⟨#[98, 117, 115]⟩ : ByteArray), .string (⟨#[105, 108, 108, 101, 103, 97, 108]⟩ : ByteArray), .string (⟨#[98, 112, 116]⟩ : ByteArray), .string (⟨#[105, 111, 116]⟩ : ByteArray), .string (⟨#[112, 111, 119, 101, 114]⟩ : ByteArray), .string (⟨#[101, 109, 116]⟩ : ByteArray), .string (⟨#[116, 114, 97, 112]⟩ : ByteArray), .string (⟨#[109, 109, 117]⟩ : ByteArray), .string (⟨#[112, 97, 114, 105, 116, 121]⟩ : ByteArray)]) (ok := fun _ => True) (okp := fun _ => True) ?hr ?hp (fun _ hk => hk) trivial (Below.refl _ _) (Nat.le_refl _) (by simp) ?_; (case hd => rfl); (case hg => rfl); (case hr => first | (go_simp; done) | (go_simp; rfl)); (case hp => exact (Reps.one (show Kd.M Kd.string _ _ _ (⟨#[]⟩ : ByteArray) [.string (⟨#[]⟩ : ByteArray)] from rfl) (Reps.one (show Kd.M Kd.string _ _ _ (⟨#[98, 117, 115]⟩ : ByteArray) [.string (⟨#[98, 117, 115]⟩ : ByteArray)] from rfl) (Reps.one (show Kd.M Kd.string _ _ _ (⟨#[105, 108, 108, 101, 103, 97, 108]⟩ : ByteArray) [.string (⟨#[105, 108, 108, 101, 103, 97, 108]⟩ : ByteArray)] from rfl) (Reps.one (show Kd.M Kd.string _ _ _ (⟨#[98, 112, 116]⟩ : ByteArray) [.string (⟨#[98, 112, 116]⟩ : ByteArray)] from rfl) (Reps.one (show Kd.M Kd.string _ _ _ (⟨#[105, 111, 116]⟩ : ByteArray) [.string (⟨#[105, 111, 116]⟩ : ByteArray)] from rfl) (Reps.one (show Kd.M Kd.string _ _ _ (⟨#[112, 111, 119, 101, 114]⟩ : ByteArray) [.string (⟨#[112, 111, 119, 101, 114]⟩ : ByteArray)] from rfl) (Reps.one (show Kd.M Kd.string _ _ _ (⟨#[101, 109, 116]⟩ : ByteArray) [.string (⟨#[101, 109, 116]⟩ : ByteArray)] from rfl) (Reps.one (show Kd.M Kd.string _ _ _ (⟨#[116, 114, 97, 112]⟩ : ByteArray) [.string (⟨#[116, 114, 97, 112]⟩ : ByteArray)] from rfl) (Reps.one (show Kd.M Kd.string _ _ _ (⟨#[109, 109, 117]⟩ : ByteArray) [.string (⟨#[109, 109, 117]⟩ : ByteArray)] from rfl) (Reps.one (show Kd.M Kd.string _ _ _ (⟨#[112, 97, 114, 105, 116, 121]⟩ : ByteArray) [.string (⟨#[112, 97, 114, 105, 116, 121]⟩ : ByteArray)] from rfl) (Reps.none _ _)))))))))))); intro v136 w6 ho7 hb hg_ hnew_; clear hg_ hnew_; (first | rw [← Ny135.out] at ho7 | (simp only [Int.reduceToNat] at ho7; rw [← Ny135.out] at ho7)); have n0_ := Aside0.mk (Kd.R_lower ho7 (below_size (by repeat (first | (with_reducible first | exact HB.out | apply below_alloc | apply pw_below_drewN | apply below_drew1) | exact HB.out)))); have n1_ := Aside0.mk (below_step (by repeat (first | (with_reducible first | exact HB.out | apply below_alloc | apply pw_below_drewN | apply below_drew1) | exact HB.out)) hb); clear HB; have HO137 := n0_; have HB := n1_; clear n0_ n1_; clear hb ho7; obtain ⟨Ao8, co8, eo8⟩ := Kd.R_slice HO137.out; subst eo8; have p138 : 0 ≤ (a0 : Int) := of_decide_eq_true (by first | (with_reducible assumption) | assumption); have q138 : a0 < (y135.length : Int) := of_decide_eq_true (by first | (with_reducible assumption) | assumption); obtain ⟨ad138, e138, hx138_0⟩ := Kd.at_string (Kd.R_reads' HO137.out).2.2 a0 p138 q138; cases e138; replace p138 := eq_true p138; replace q138 := eq_true q138))
        go_ret
        exact ⟨by first | rfl | (simp [errW_none, errW_some] <;> rfl) | (simp [*, errW_none, errW_some] <;> rfl), by repeat (first | (with_reducible first | exact HB.out | apply below_alloc | apply pw_below_drewN | apply below_drew1) | exact HB.out)⟩
      · rw [if_neg c5] at H
        exact absurd H (by simp)
    · rw [if_neg c4] at H
      exact absurd H (by simp)
  · replace c3 := Bool.eq_false_iff.mpr c3
    subst c3
    have H1 : (some (⟨#[]⟩ : ByteArray)) = some r := by rw [if_neg (show ¬ (false = true) by decide)] at H; exact H
    clear H
    have H := H1
    clear H1
    obtain rfl := Option.some.inj H
    go_enter Tryd.func13, Tryd.ntmps13
    go_wp2_with (first | ((with_reducible refine gate_callee (f := 19) rfl ?_); refine goesL_ (some 4) rfl rfl Tryd.func19 (by kernel_rfl) rfl #[.int .i64 a0] rfl (by (try simp only [List.map_toArray, List.map_cons, List.map_nil]); first | done | rfl | (simp only [List.length_drop, List.length_take]; rfl)) ?_; (with_reducible refine (emulatorref11_Is.calls a0 false _ A2.out).mono ?_); rintro e w' ⟨rfl, ⟨nd, rfl⟩⟩; refine ⟨_, rfl, ?_⟩))
    go_ret
    exact ⟨by first | rfl | (simp [errW_none, errW_some] <;> rfl) | (simp [*, errW_none, errW_some] <;> rfl), by repeat (first | (with_reducible first | exact HB.out | apply below_alloc | apply pw_below_drewN | apply below_drew1) | exact HB.out)⟩

/-! ### emulatorref11_Aborts: function 15 -/
def emulatorref11_Aborts.f (a0 : Int) : Option (Bool) := if a0 = 1 then (some true) else (if a0 = 2 then (some true) else (if a0 = 8 then (some true) else (some (a0 == 9))))
set_option maxHeartbeats 8000000 in
set_option maxRecDepth 100000 in
theorem emulatorref11_Aborts.calls (a0 : Int) (r : Bool) (w : World) (h : emulatorref11_Aborts.f a0 = some r) :
    Calls Tryd.prog 15 #[.int .i64 a0] w fun e w' => e = .returned (.bool r) ∧ Drawn0 w w' := by
  have H : (if a0 = 1 then (some true) else (if a0 = 2 then (some true) else (if a0 = 8 then (some true) else (some (a0 == 9))))) = some r := h
  clear h
  by_cases c2 : a0 = 1
  · rw [if_pos c2] at H
    have c2b0 : (a0 == 1) = true := beq_iff_eq.mpr c2
    have c2b1 : (a0 != 1) = false := bne_eq_false_iff_eq.mpr c2
    clear c2
    obtain rfl := Option.some.inj H
    go_enter Tryd.func15, Tryd.ntmps15
    go_wp2
    go_ret
    exact ⟨by first | rfl | (simp; done) | (simp [*]; done), by repeat (first | exact Drawn0.refl _ | apply Drawn0.step)⟩
  · rw [if_neg c2] at H
    have c2b0 : (a0 == 1) = false := beq_eq_false_iff_ne.mpr c2
    have c2b1 : (a0 != 1) = true := bne_iff_ne.mpr c2
    by_cases c3 : a0 = 2
    · rw [if_pos c3] at H
      have c3b0 : (a0 == 2) = true := beq_iff_eq.mpr c3
      have c3b1 : (a0 != 2) = false := bne_eq_false_iff_eq.mpr c3
      clear c3
      obtain rfl := Option.some.inj H
      go_enter Tryd.func15, Tryd.ntmps15
      go_wp2
      go_ret
      exact ⟨by first | rfl | (simp; done) | (simp [*]; done), by repeat (first | exact Drawn0.refl _ | apply Drawn0.step)⟩
    · rw [if_neg c3] at H
      have c3b0 : (a0 == 2) = false := beq_eq_false_iff_ne.mpr c3
      have c3b1 : (a0 != 2) = true := bne_iff_ne.mpr c3
      by_cases c4 : a0 = 8
      · rw [if_pos c4] at H
        have c4b0 : (a0 == 8) = true := beq_iff_eq.mpr c4
        have c4b1 : (a0 != 8) = false := bne_eq_false_iff_eq.mpr c4
        clear c4
        obtain rfl := Option.some.inj H
        go_enter Tryd.func15, Tryd.ntmps15
        go_wp2
        go_ret
        exact ⟨by first | rfl | (simp; done) | (simp [*]; done), by repeat (first | exact Drawn0.refl _ | apply Drawn0.step)⟩
      · rw [if_neg c4] at H
        have c4b0 : (a0 == 8) = false := beq_eq_false_iff_ne.mpr c4
        have c4b1 : (a0 != 8) = true := bne_iff_ne.mpr c4
        obtain rfl := Option.some.inj H
        go_enter Tryd.func15, Tryd.ntmps15
        go_wp2
        go_ret
        exact ⟨by first | rfl | (simp; done) | (simp [*]; done), by repeat (first | exact Drawn0.refl _ | apply Drawn0.step)⟩

/-! ### emulatorlaw11_TrapNames: function 4 -/
def emulatorlaw11_TrapNames.f (k : Nat) (a0 : Int) : Option (Bool) := (trap_Name.f a0).bind fun t139 => ((emulatorref11_Name.f a0).bind fun t140 => (if t139.toList = t140.toList then ((trap_Aborts.f a0).bind fun t141 => ((emulatorref11_Aborts.f a0).bind fun t142 => (if (t141 == t142) = true then ((emulatorlaw11_alive.f k).bind fun t143 => (some t143)) else (some false)))) else (some false)))
theorem emulatorlaw11_TrapNames.mono : ∀ a0 k, LeO (emulatorlaw11_TrapNames.f k a0) (emulatorlaw11_TrapNames.f (k + 1) a0) := by
  intro a0 k
  unfold emulatorlaw11_TrapNames.f
  repeat' first
      | (with_reducible exact emulatorlaw11_alive.mono _)
      | (with_reducible exact LeO.refl _)
      | (with_reducible exact LeO.none _)
      | (with_reducible refine LeO.ite ?_ ?_)
      | (with_reducible refine LeO.bind ?_ (fun _ => ?_))
      | exact emulatorlaw11_alive.mono _
      | exact LeO.none _
      | refine LeO.ite ?_ ?_
      | refine LeO.bind ?_ (fun _ => ?_)
set_option maxHeartbeats 8000000 in
set_option maxRecDepth 100000 in
theorem emulatorlaw11_TrapNames.calls (k : Nat) (a0 : Int) (r : Bool) (w : World) (hS : Sz w) (h : emulatorlaw11_TrapNames.f k a0 = some r) (hr0 : r = true) :
    Calls Tryd.prog 4 #[.int .i64 a0] w fun e w' => e = .returned (.bool r) ∧ Below w.heap.size w w' := by
  have hr_ := Aside0.mk hr0
  clear hr0
  have HB := Aside0.mk (Below.refl w.heap.size w)
  have H : ((trap_Name.f a0).bind fun t139 => ((emulatorref11_Name.f a0).bind fun t140 => (if t139.toList = t140.toList then ((trap_Aborts.f a0).bind fun t141 => ((emulatorref11_Aborts.f a0).bind fun t142 => (if (t141 == t142) = true then ((emulatorlaw11_alive.f k).bind fun t143 => (some t143)) else (some false)))) else (some false)))) = some r := h
  clear h
  replace H := Option.bind_eq_some_iff.mp H
  obtain ⟨t139, A20, H⟩ := H
  replace H : ((emulatorref11_Name.f a0).bind fun t140 => (if t139.toList = t140.toList then ((trap_Aborts.f a0).bind fun t141 => ((emulatorref11_Aborts.f a0).bind fun t142 => (if (t141 == t142) = true then ((emulatorlaw11_alive.f k).bind fun t143 => (some t143)) else (some false)))) else (some false))) = some r := H
  have A2 := Aside0.mk A20
  clear A20
  replace H := Option.bind_eq_some_iff.mp H
  obtain ⟨t140, A30, H⟩ := H
  replace H : (if t139.toList = t140.toList then ((trap_Aborts.f a0).bind fun t141 => ((emulatorref11_Aborts.f a0).bind fun t142 => (if (t141 == t142) = true then ((emulatorlaw11_alive.f k).bind fun t143 => (some t143)) else (some false)))) else (some false)) = some r := H
  have A3 := Aside0.mk A30
  clear A30
  by_cases c4 : t139.toList = t140.toList
  · rw [if_pos c4] at H
    have c4b0 : (t139.toList == t140.toList) = true := beq_iff_eq.mpr c4
    have c4b1 : (t139.toList != t140.toList) = false := bne_eq_false_iff_eq.mpr c4
    clear c4
    replace H := Option.bind_eq_some_iff.mp H
    obtain ⟨t141, A50, H⟩ := H
    replace H : ((emulatorref11_Aborts.f a0).bind fun t142 => (if (t141 == t142) = true then ((emulatorlaw11_alive.f k).bind fun t143 => (some t143)) else (some false))) = some r := H
    have A5 := Aside0.mk A50
    clear A50
    replace H := Option.bind_eq_some_iff.mp H
    obtain ⟨t142, A60, H⟩ := H
    replace H : (if (t141 == t142) = true then ((emulatorlaw11_alive.f k).bind fun t143 => (some t143)) else (some false)) = some r := H
    have A6 := Aside0.mk A60
    clear A60
    by_cases c7 : (t141 == t142) = true
    · rw [if_pos c7] at H
      have c7b0 : (t141 == t142) = true := c7
      (try (have c7b1 : decide (t141 = t142) = true := by simpa using c7))
      (try (have c7b2 : (t141 == t142) = true := by simpa using c7))
      clear c7
      replace H := Option.bind_eq_some_iff.mp H
      obtain ⟨t143, A80, H⟩ := H
      replace H : (some t143) = some r := H
      have A8 := Aside0.mk A80
      clear A80
      obtain rfl := Option.some.inj H
      go_enter Tryd.func4, Tryd.ntmps4
      go_wp2_with (first | ((with_reducible refine gate_callee (f := 12) rfl ?_); refine goesL_ (some 4) rfl rfl Tryd.func12 (by kernel_rfl) rfl #[.int .i64 a0] rfl (by (try simp only [List.map_toArray, List.map_cons, List.map_nil]); first | done | rfl | (simp only [List.length_drop, List.length_take]; rfl)) ?_; (with_reducible refine (trap_Name.calls a0 t139 _ (hS.go (by repeat (first | (with_reducible first | exact HB.out | apply below_alloc | apply pw_below_drewN | apply below_drew1) | exact HB.out))) A2.out).mono ?_); rintro e w9 ⟨rfl, hb⟩; refine ⟨_, rfl, ?_⟩; have n0_ := Aside0.mk (below_step (by repeat (first | (with_reducible first | exact HB.out | apply below_alloc | apply pw_below_drewN | apply below_drew1) | exact HB.out)) hb); clear HB; have HB := n0_; clear n0_; (try clear hb); (try clear hb2); (try clear hk); (try clear hi)) | ((with_reducible refine gate_callee (f := 13) rfl ?_); refine goesL_ (some 6) rfl rfl Tryd.func13 (by kernel_rfl) rfl #[.int .i64 a0] rfl (by (try simp only [List.map_toArray, List.map_cons, List.map_nil]); first | done | rfl | (simp only [List.length_drop, List.length_take]; rfl)) ?_; (with_reducible refine (emulatorref11_Name.calls a0 t140 _ A3.out).mono ?_); rintro e w10 ⟨rfl, hb⟩; refine ⟨_, rfl, ?_⟩; have n0_ := Aside0.mk (below_step (by repeat (first | (with_reducible first | exact HB.out | apply below_alloc | apply pw_below_drewN | apply below_drew1) | exact HB.out)) hb); clear HB; have HB := n0_; clear n0_; (try clear hb); (try clear hb2); (try clear hk); (try clear hi)) | (go_at_call 14; (with_reducible refine (trap_Aborts.calls a0 t141 _ A5.out).mono ?_); rintro e w' ⟨rfl, ⟨nd, rfl⟩⟩) | (go_at_call 15; (with_reducible refine (emulatorref11_Aborts.calls a0 t142 _ A6.out).mono ?_); rintro e w' ⟨rfl, ⟨nd, rfl⟩⟩) | (go_at_call 11; (with_reducible refine (emulatorlaw11_alive.calls k  t143 _ (hS.go (by repeat (first | (with_reducible first | exact HB.out | apply below_alloc | apply pw_below_drewN | apply below_drew1) | exact HB.out))) A8.out).mono ?_); rintro e w11 ⟨rfl, hb⟩; have n0_ := Aside0.mk (below_step (by repeat (first | (with_reducible first | exact HB.out | apply below_alloc | apply pw_below_drewN | apply below_drew1) | exact HB.out)) hb); clear HB; have HB := n0_; clear n0_; (try clear hb); (try clear hb2); (try clear hk); (try clear hi)))
      go_ret
      exact ⟨by first | rfl | (simp [errW_none, errW_some] <;> rfl) | (simp [*, errW_none, errW_some] <;> rfl), by repeat (first | (with_reducible first | exact HB.out | apply below_alloc | apply pw_below_drewN | apply below_drew1) | exact HB.out)⟩
    · rw [if_neg c7] at H
      exact absurd (H.trans (congrArg some hr_.out)) (by decide)
  · rw [if_neg c4] at H
    exact absurd (H.trans (congrArg some hr_.out)) (by decide)

/-! ### emulatorref11_Vectors: function 17 -/
def emulatorref11_Vectors.l0 : Nat → List Int → Int → Option (List Int)
  | 0, _, _ => none
  | k + 1, x1, x2 => if x2 ≤ 9 then ((emulatorref11_Vector.f x2).bind fun t144 => (if x1.length < 17592186044416 then (emulatorref11_Vectors.l0 k (x1 ++ [t144]) (wrap64 (x2 + 1))) else (none))) else (some x1)
def emulatorref11_Vectors.f (k : Nat)  : Option (List Int) := emulatorref11_Vectors.l0 k ([] : List Int) 1
theorem emulatorref11_Vectors.mono_l : ∀ k, (∀ y0 y1, LeO (emulatorref11_Vectors.l0 k y0 y1) (emulatorref11_Vectors.l0 (k + 1) y0 y1))
  | 0 => fun _ _ r h => by simp [emulatorref11_Vectors.l0] at h
  | k + 1 => by
    have ih0 := emulatorref11_Vectors.mono_l k
    · intro y0 y1
      unfold emulatorref11_Vectors.l0
      repeat' first
      | (with_reducible exact ih0 _ _)
      | (with_reducible exact LeO.refl _)
      | (with_reducible exact LeO.none _)
      | (with_reducible refine LeO.ite ?_ ?_)
      | (with_reducible refine LeO.bind ?_ (fun _ => ?_))
      | exact ih0 _ _
      | exact LeO.none _
      | refine LeO.ite ?_ ?_
      | refine LeO.bind ?_ (fun _ => ?_)
theorem emulatorref11_Vectors.mono : ∀ k, LeO (emulatorref11_Vectors.f k ) (emulatorref11_Vectors.f (k + 1) ) := by
  intro  k
  have ih0 := emulatorref11_Vectors.mono_l k
  unfold emulatorref11_Vectors.f
  repeat' first
      | (with_reducible exact ih0 _ _)
      | (with_reducible exact LeO.refl _)
      | (with_reducible exact LeO.none _)
      | (with_reducible refine LeO.ite ?_ ?_)
      | (with_reducible refine LeO.bind ?_ (fun _ => ?_))
      | exact ih0 _ _
      | exact LeO.none _
      | refine LeO.ite ?_ ?_
      | refine LeO.bind ?_ (fun _ => ?_)
set_option maxHeartbeats 8000000 in
set_option maxRecDepth 100000 in
theorem emulatorref11_Vectors.calls (k : Nat)  (r : List Int) (w : World) (h : emulatorref11_Vectors.f k  = some r) :
    Calls Tryd.prog 17 #[] w fun e w' => ∃ v0_ : Value, e = .returned (v0_) ∧ Kd.R (Kd.int .i64) 3 w' w.heap.size (fun _ => True) v0_ r ∧ Below w.heap.size w w' := by
  have HB := Aside0.mk (Below.refl w.heap.size w)
  have H : (emulatorref11_Vectors.l0 k ([] : List Int) 1) = some r := h
  clear h
  have H' := Aside0.mk H
  clear H
  go_enter Tryd.func17, Tryd.ntmps17
  go_wp2
  go_loopg [1, 2] k (fun kq v1 v2 w' => ∃ (x1_1 : List Int) (x2_1 : Int), v2 = .int .i64 x2_1 ∧ Aside0 (emulatorref11_Vectors.l0 kq x1_1 x2_1 = some r) ∧ Aside0 (kq ≤ k) ∧ Aside0 (Kd.R (Kd.int .i64) 3 w' w.heap.size (fun _ => True) v1 x1_1) ∧ Aside0 (Below w.heap.size w w'))
  case atStart => exact ⟨(([] : List Int)), (1), (by first | rfl | (simp; done) | (simp [*]; done)), H', ⟨Nat.le_refl _⟩, ⟨by first | exact Kd.R_nil _ _ _ _ _ | exact Kd.N_nil _ _ _ _ _ | exact Kd.V_nil _ _ _ _ _ | exact Kd.Q_nil _ _ _ _ _ | exact Kd.S_nil _ _ _ _ _⟩, ⟨by repeat (first | (with_reducible first | exact HB.out | apply below_alloc | apply pw_below_drewN | apply below_drew1) | exact HB.out)⟩⟩
  case round =>
    clear H'
    obtain ⟨x1_1, x2_1, rfl, HA, HK1, HO_1, HB⟩ := hrel
    cases gk with
    | zero => exact absurd HA.out (by simp [emulatorref11_Vectors.l0])
    | succ k1 =>
      have H := HA.out
      clear HA
      simp only [emulatorref11_Vectors.l0] at H
      by_cases c1 : x2_1 ≤ 9
      · rw [if_pos c1] at H
        have c1b0 : decide (x2_1 ≤ 9) = true := decide_eq_true c1
        clear c1
        replace H := Option.bind_eq_some_iff.mp H
        obtain ⟨t144, A20, H⟩ := H
        replace H : (if x1_1.length < 17592186044416 then (emulatorref11_Vectors.l0 k1 (x1_1 ++ [t144]) (wrap64 (x2_1 + 1))) else (none)) = some r := H
        have A2 := Aside0.mk A20
        clear A20
        by_cases c3 : x1_1.length < 17592186044416
        · rw [if_pos c3] at H
          have LMc3 := Aside0.mk c3
          clear c3
          obtain ⟨y145, hy145⟩ : ∃ y_ : List Int, y_ = (x1_1 ++ [t144]) := ⟨_, rfl⟩
          replace H : (emulatorref11_Vectors.l0 k1 y145 (wrap64 (x2_1 + 1))) = some r := by first | (rw [hy145]; with_reducible exact H) | (have H2_ := (Option.bind_some _ _).symm.trans H; rw [hy145]; with_reducible exact H2_) | (have H2_ := (Option.bind_some _ _).symm.trans H; with_reducible exact H2_) | with_reducible exact H | (rw [hy145]; exact H) | exact H
          have Ny145 := Aside0.mk hy145
          clear hy145
          have H' := Aside0.mk H
          clear H
          go_wp2_with (first | ((with_reducible refine gate_callee (f := 10) rfl ?_); refine goesL_ (some 9) rfl rfl Tryd.func10 (by kernel_rfl) rfl #[.int .i64 x2_1] rfl (by (try simp only [List.map_toArray, List.map_cons, List.map_nil]); first | done | rfl | (simp only [List.length_drop, List.length_take]; rfl)) ?_; (with_reducible refine (emulatorref11_Vector.calls x2_1 t144 _ A2.out).mono ?_); rintro e w' ⟨rfl, ⟨nd, rfl⟩⟩; refine ⟨_, rfl, ?_⟩) | ((with_reducible refine gate_builtin (b := .append) (xs := #[.tmp 7, .tmp 10]) rfl ?_); at_builtin; refine Kd.R_append (Kd.int .i64) (w0 := w) w.heap.size rfl (.tmp 7) (.tmp 10) 31 3 (.int .i64 0) 8 rfl Tryd.underlying31 info3 rfl (by decide) (by omega) u1 x1_1 t144 [.int .i64 t144] (fun _ => True) (fun _ => False) rfl rfl ?aP (fun _ hk => hk.elim) ?aF ?aO ?aB ?aS ?aL ?_; (case aP => exact rfl); (case aB => exact (by repeat (first | (with_reducible first | exact HB.out | apply below_alloc | apply pw_below_drewN | apply below_drew1) | exact HB.out))); (case aF => exact (fun _ _ => trivial)); (case aO => exact (by (with_reducible repeat (first | apply Kd.R_alloc | apply Kd.R_drewN | apply Kd.R_drew)); exact HO_1.out)); (case aS => exact (below_size (by repeat (first | (with_reducible first | exact HB.out | apply below_alloc | apply pw_below_drewN | apply below_drew1) | exact HB.out)))); (case aL => have := LMc3.out; omega); intro v146 w4 ho hb hg hat; rw [← Ny145.out] at ho; have n0_ := Aside0.mk (hb); have n1_ := Aside0.mk (ho); clear HB; clear HO_1; have HB := n0_; have HO147 := n1_; clear n0_ n1_; clear ho hb hg hat))
          go_roundg k1
          case measure => have := HK1.out; omega
          case rel => exact ⟨(y145), (wrap64 (x2_1 + 1)), (by first | rfl | (simp; done) | (simp [*]; done)), H', ⟨by have := HK1.out; omega⟩, ⟨by (with_reducible repeat (first | apply Kd.R_alloc | apply Kd.R_drewN | apply Kd.R_drew)); exact HO147.out⟩, ⟨by repeat (first | (with_reducible first | exact HB.out | apply below_alloc | apply pw_below_drewN | apply below_drew1) | exact HB.out)⟩⟩
        · rw [if_neg c3] at H
          exact absurd H (by simp)
      · rw [if_neg c1] at H
        have c1b0 : decide (x2_1 ≤ 9) = false := decide_eq_false c1
        clear c1
        obtain rfl := Option.some.inj H
        go_wp2
        go_ret
        exact ⟨_, by first | rfl | (simp [errW_none, errW_some] <;> rfl) | (simp [*, errW_none, errW_some] <;> rfl), by (with_reducible repeat (first | apply Kd.R_alloc | apply Kd.R_drewN | apply Kd.R_drew)); exact HO_1.out, by repeat (first | (with_reducible first | exact HB.out | apply below_alloc | apply pw_below_drewN | apply below_drew1) | exact HB.out)⟩

end Go.Proofs.YtflblckegjobnaaDoor.A
