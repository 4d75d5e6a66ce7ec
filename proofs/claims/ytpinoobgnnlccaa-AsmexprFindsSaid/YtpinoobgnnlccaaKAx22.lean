/- Of the proofs of the laws of emulatorlaw26: Ax22, PFinds. Conditions: those of each theorem. -/
import Derived.Test.YtpinoobgnnlccaaKAx0
import Derived.Test.YtpinoobgnnlccaaKXEq
import Derived.Test.YtpinoobgnnlccaaKAx15
import Derived.Test.YtpinoobgnnlccaaKAx18
import Derived.Test.YtpinoobgnnlccaaGreat
import Derived.Test.YtpinoobgnnlccaaRdNamed
import Derived.Test.YtpinoobgnnlccaaRFind
-- Written by a program of this session (mp.py) over the kit's print.py, with proofs by hand for what the print does not take.
namespace Go.Proofs.Ytpinoobgnnlccaa.A
open Go.RowKit Go.Proofs.YtpinoobgnnlccaaW.PrintWords Go.Proofs.YtpinoobgnnlccaaW.PrintLast Go.Proofs.YtpinoobgnnlccaaW.PrintMore
attribute [local go_sem] max2_int min2_int max_two min_two max_three min_three max_four min_four   -- for this text's walks alone
set_option linter.unusedVariables false
set_option linter.unusedSimpArgs false
/-! ### emulatorlaw26_AsmexprFinds: function 4 -/
def emulatorlaw26_AsmexprFinds.j0 : Nat → List (S44) → ByteArray → Bool → Option (Bool)
  | 0, _, _, _ => none
  | k + 1, x0, x1, x11 => if x11 = true then (some true) else ((asmexpr_Find.f k x0 x1).bind fun t243 => ((emulatorref26_Find.f k x0 x1).bind fun t244 => (if t243 = t244 then ((emulatorlaw26_alive.f).bind fun t245 => (some t245)) else (some false))))
def emulatorlaw26_AsmexprFinds.f (k : Nat) (l0 : List (S44)) (a1 : ByteArray) : Option (Bool) := (emulatorref26_GreatSymbols.f k l0).bind fun t242 => (if t242 = true then (emulatorlaw26_AsmexprFinds.j0 k l0 a1 true) else (emulatorlaw26_AsmexprFinds.j0 k l0 a1 (decide ((a1.size : Int) > 100))))
theorem emulatorlaw26_AsmexprFinds.mono_l : ∀ k, (∀ y0 y1 y2, LeO (emulatorlaw26_AsmexprFinds.j0 k y0 y1 y2) (emulatorlaw26_AsmexprFinds.j0 (k + 1) y0 y1 y2))
  | 0 => fun _ _ _ r h => by simp [emulatorlaw26_AsmexprFinds.j0] at h
  | k + 1 => by
    have ih0 := emulatorlaw26_AsmexprFinds.mono_l k
    · intro y0 y1 y2
      unfold emulatorlaw26_AsmexprFinds.j0
      repeat' first
      | (with_reducible exact ih0 _ _ _)
      | (with_reducible exact asmexpr_Find.mono _ _ _)
      | (with_reducible exact emulatorref26_Find.mono _ _ _)
      | (with_reducible exact emulatorref26_GreatSymbols.mono _ _)
      | (with_reducible exact LeO.refl _)
      | (with_reducible exact LeO.none _)
      | (with_reducible refine LeO.ite ?_ ?_)
      | (with_reducible refine LeO.bind ?_ (fun _ => ?_))
      | exact ih0 _ _ _
      | exact asmexpr_Find.mono _ _ _
      | exact emulatorref26_Find.mono _ _ _
      | exact emulatorref26_GreatSymbols.mono _ _
      | exact LeO.none _
      | refine LeO.ite ?_ ?_
      | refine LeO.bind ?_ (fun _ => ?_)
theorem emulatorlaw26_AsmexprFinds.mono : ∀ a0 a1 k, LeO (emulatorlaw26_AsmexprFinds.f k a0 a1) (emulatorlaw26_AsmexprFinds.f (k + 1) a0 a1) := by
  intro a0 a1 k
  have ih0 := emulatorlaw26_AsmexprFinds.mono_l k
  unfold emulatorlaw26_AsmexprFinds.f
  repeat' first
      | (with_reducible exact ih0 _ _ _)
      | (with_reducible exact asmexpr_Find.mono _ _ _)
      | (with_reducible exact emulatorref26_Find.mono _ _ _)
      | (with_reducible exact emulatorref26_GreatSymbols.mono _ _)
      | (with_reducible exact LeO.refl _)
      | (with_reducible exact LeO.none _)
      | (with_reducible refine LeO.ite ?_ ?_)
      | (with_reducible refine LeO.bind ?_ (fun _ => ?_))
      | exact ih0 _ _ _
      | exact asmexpr_Find.mono _ _ _
      | exact emulatorref26_Find.mono _ _ _
      | exact emulatorref26_GreatSymbols.mono _ _
      | exact LeO.none _
      | refine LeO.ite ?_ ?_
      | refine LeO.bind ?_ (fun _ => ?_)
set_option maxHeartbeats 8000000 in
set_option maxRecDepth 100000 in
theorem emulatorlaw26_AsmexprFinds.calls (k : Nat) (A0 : Option Addr) (c0 : Nat) (l0 : List (S44)) (a1 : ByteArray) (r : Bool) (w : World) (hr0 : Kd.C k44 w A0 l0.length l0) (hc0 : l0.length ≤ c0) (h : emulatorlaw26_AsmexprFinds.f k l0 a1 = some r) (hrT : r = true) :
    Calls Try.prog 4 #[.slice A0 l0.length c0, .string a1] w fun e w' => e = .returned (.bool r) ∧ Below w.heap.size w w' := by
  have HR0 := Aside0.mk hr0
  have HC0 := Aside0.mk hc0
  clear hr0 hc0
  have hr_ := Aside0.mk hrT
  clear hrT
  have HB := Aside0.mk (Below.refl w.heap.size w)
  have H : ((emulatorref26_GreatSymbols.f k l0).bind fun t242 => (if t242 = true then (emulatorlaw26_AsmexprFinds.j0 k l0 a1 true) else (emulatorlaw26_AsmexprFinds.j0 k l0 a1 (decide ((a1.size : Int) > 100))))) = some r := h
  clear h
  have HC3 := Aside0.mk H
  clear H
  go_enter Try.func4, Try.ntmps4
  go_upto_region 1 with (fail)
  go_cut [11] (fun v11 wc => ∃ (kq : Nat) (x11_2 : Bool), v11 = .bool x11_2 ∧ Aside0 (emulatorlaw26_AsmexprFinds.j0 kq l0 a1 x11_2 = some r) ∧ Aside0 (kq ≤ k) ∧ Aside0 (Below w.heap.size w wc))
  case first =>
    have H := HC3.out
    clear HC3
    replace H := Option.bind_eq_some_iff.mp H
    obtain ⟨t242, A40, H⟩ := H
    replace H : (if t242 = true then (emulatorlaw26_AsmexprFinds.j0 k l0 a1 true) else (emulatorlaw26_AsmexprFinds.j0 k l0 a1 (decide ((a1.size : Int) > 100)))) = some r := H
    have A4 := Aside0.mk A40
    clear A40
    by_cases c5 : t242 = true
    · subst c5
      have H1 : (emulatorlaw26_AsmexprFinds.j0 k l0 a1 true) = some r := by rw [if_pos rfl] at H; exact H
      clear H
      have H := H1
      clear H1
      have H' := Aside0.mk H
      clear H
      go_wp2_with (first | ((with_reducible refine gate_callee (f := 10) rfl ?_); refine goesL_ (some 6) rfl rfl Try.func10 (by kernel_rfl) rfl #[.slice A0 l0.length c0] rfl (by (try simp only [List.map_toArray, List.map_cons, List.map_nil]); first | done | rfl | (simp only [List.length_drop, List.length_take]; rfl)) ?_; (with_reducible refine (emulatorref26_GreatSymbols.calls k _ _ l0 true _ ?side1 ?side2 A4.out).mono ?_); (case side1 => repeat (first | exact (Kd.C_below HR0.out HB.out) | (with_reducible refine Kd.C_alloc ?_ _) | (with_reducible refine Kd.C_drewN ?_ _) | (with_reducible refine Kd.C_drew ?_))); (case side2 => exact HC0.out); rintro e w' ⟨rfl, ⟨nd, rfl⟩⟩; refine ⟨_, rfl, ?_⟩))
      go_meet
      case rel => exact ⟨_, (true), (by first | rfl | (simp; done) | (simp [*]; done)), H', ⟨by first | omega | exact Nat.le_refl _⟩, ⟨by repeat (first | (with_reducible first | exact HB.out | apply below_alloc | apply pw_below_drewN | apply below_drew1) | exact HB.out)⟩⟩
    · replace c5 := Bool.eq_false_iff.mpr c5
      subst c5
      have H1 : (emulatorlaw26_AsmexprFinds.j0 k l0 a1 (decide ((a1.size : Int) > 100))) = some r := by rw [if_neg (show ¬ (false = true) by decide)] at H; exact H
      clear H
      have H := H1
      clear H1
      have H' := Aside0.mk H
      clear H
      go_wp2_with (first | ((with_reducible refine gate_callee (f := 10) rfl ?_); refine goesL_ (some 6) rfl rfl Try.func10 (by kernel_rfl) rfl #[.slice A0 l0.length c0] rfl (by (try simp only [List.map_toArray, List.map_cons, List.map_nil]); first | done | rfl | (simp only [List.length_drop, List.length_take]; rfl)) ?_; (with_reducible refine (emulatorref26_GreatSymbols.calls k _ _ l0 false _ ?side1 ?side2 A4.out).mono ?_); (case side1 => repeat (first | exact (Kd.C_below HR0.out HB.out) | (with_reducible refine Kd.C_alloc ?_ _) | (with_reducible refine Kd.C_drewN ?_ _) | (with_reducible refine Kd.C_drew ?_))); (case side2 => exact HC0.out); rintro e w' ⟨rfl, ⟨nd, rfl⟩⟩; refine ⟨_, rfl, ?_⟩))
      go_meet
      case rel => exact ⟨_, (decide ((a1.size : Int) > 100)), (by first | rfl | (simp; done) | (simp [*]; done)), H', ⟨by first | omega | exact Nat.le_refl _⟩, ⟨by repeat (first | (with_reducible first | exact HB.out | apply below_alloc | apply pw_below_drewN | apply below_drew1) | exact HB.out)⟩⟩
  case rest =>
    clear HC3
    try clear c1
    try clear p2
    try clear c4
    try clear c5
    obtain ⟨kq, x11_2, rfl, HA, HJ2, HB⟩ := hcut
    cases kq with
    | zero => exact absurd HA.out (by simp [emulatorlaw26_AsmexprFinds.j0])
    | succ kj2 =>
      have H := HA.out
      clear HA
      simp only [emulatorlaw26_AsmexprFinds.j0] at H
      by_cases c6 : x11_2 = true
      · subst c6
        have H1 : (some true) = some r := by rw [if_pos rfl] at H; exact H
        clear H
        have H := H1
        clear H1
        obtain rfl := Option.some.inj H
        go_wp2
        go_ret
        exact ⟨by first | rfl | (simp [errW_none, errW_some] <;> rfl) | (simp [*, errW_none, errW_some] <;> rfl), by repeat (first | (with_reducible first | exact HB.out | apply below_alloc | apply pw_below_drewN | apply below_drew1) | exact HB.out)⟩
      · replace c6 := Bool.eq_false_iff.mpr c6
        subst c6
        have H1 : ((asmexpr_Find.f kj2 l0 a1).bind fun t243 => ((emulatorref26_Find.f kj2 l0 a1).bind fun t244 => (if t243 = t244 then ((emulatorlaw26_alive.f).bind fun t245 => (some t245)) else (some false)))) = some r := by rw [if_neg (show ¬ (false = true) by decide)] at H; exact H
        clear H
        have H := H1
        clear H1
        replace H := Option.bind_eq_some_iff.mp H
        obtain ⟨t243, A70, H⟩ := H
        replace H : ((emulatorref26_Find.f kj2 l0 a1).bind fun t244 => (if t243 = t244 then ((emulatorlaw26_alive.f).bind fun t245 => (some t245)) else (some false))) = some r := H
        have A7 := Aside0.mk A70
        clear A70
        replace H := Option.bind_eq_some_iff.mp H
        obtain ⟨t244, A80, H⟩ := H
        replace H : (if t243 = t244 then ((emulatorlaw26_alive.f).bind fun t245 => (some t245)) else (some false)) = some r := H
        have A8 := Aside0.mk A80
        clear A80
        by_cases c9 : t243 = t244
        · rw [if_pos c9] at H
          have c9b0 : (t243 == t244) = true := beq_iff_eq.mpr c9
          have c9b1 : (t243 != t244) = false := bne_eq_false_iff_eq.mpr c9
          clear c9
          replace H := Option.bind_eq_some_iff.mp H
          obtain ⟨t245, A100, H⟩ := H
          replace H : (some t245) = some r := H
          have A10 := Aside0.mk A100
          clear A100
          obtain rfl := Option.some.inj H
          go_wp2_with (first | ((with_reducible refine gate_callee (f := 14) rfl ?_); refine goesL_ (some 14) rfl rfl Try.func14 (by kernel_rfl) rfl #[.slice A0 l0.length c0, .string a1] rfl (by (try simp only [List.map_toArray, List.map_cons, List.map_nil]); first | done | rfl | (simp only [List.length_drop, List.length_take]; rfl)) ?_; (with_reducible refine (asmexpr_Find.calls kj2 _ _ l0 a1 t243 _ ?side1 ?side2 A7.out).mono ?_); (case side1 => repeat (first | exact (Kd.C_below HR0.out HB.out) | (with_reducible refine Kd.C_alloc ?_ _) | (with_reducible refine Kd.C_drewN ?_ _) | (with_reducible refine Kd.C_drew ?_))); (case side2 => exact HC0.out); rintro e w11 ⟨rfl, hb⟩; refine ⟨_, rfl, ?_⟩; have n0_ := Aside0.mk (below_step (by repeat (first | (with_reducible first | exact HB.out | apply below_alloc | apply pw_below_drewN | apply below_drew1) | exact HB.out)) hb); clear HB; have HB := n0_; clear n0_; (try clear hb); (try clear hb2); (try clear hk); (try clear hi)) | ((with_reducible refine gate_callee (f := 15) rfl ?_); refine goesL_ (some 17) rfl rfl Try.func15 (by kernel_rfl) rfl #[.slice A0 l0.length c0, .string a1] rfl (by (try simp only [List.map_toArray, List.map_cons, List.map_nil]); first | done | rfl | (simp only [List.length_drop, List.length_take]; rfl)) ?_; (with_reducible refine (emulatorref26_Find.calls kj2 _ _ l0 a1 t244 _ ?side1 ?side2 A8.out).mono ?_); (case side1 => repeat (first | exact (Kd.C_below HR0.out HB.out) | (with_reducible refine Kd.C_alloc ?_ _) | (with_reducible refine Kd.C_drewN ?_ _) | (with_reducible refine Kd.C_drew ?_))); (case side2 => exact HC0.out); rintro e w' ⟨rfl, ⟨nd, rfl⟩⟩; refine ⟨_, rfl, ?_⟩) | (go_at_call 13; (with_reducible refine (emulatorlaw26_alive.calls  t245 _ A10.out).mono ?_); rintro e w12 ⟨rfl, hb⟩; have n0_ := Aside0.mk (below_step (by repeat (first | (with_reducible first | exact HB.out | apply below_alloc | apply pw_below_drewN | apply below_drew1) | exact HB.out)) hb); clear HB; have HB := n0_; clear n0_; (try clear hb); (try clear hb2); (try clear hk); (try clear hi)))
          go_ret
          exact ⟨by first | rfl | (simp [errW_none, errW_some] <;> rfl) | (simp [*, errW_none, errW_some] <;> rfl), by repeat (first | (with_reducible first | exact HB.out | apply below_alloc | apply pw_below_drewN | apply below_drew1) | exact HB.out)⟩
        · rw [if_neg c9] at H
          exact absurd (H.trans (congrArg some hr_.out)) (by decide)
end Go.Proofs.Ytpinoobgnnlccaa.A

/- AsmexprFinds: true, whatever the input. -/
namespace Go.Proofs.Ytpinoobgnnlccaa.A
open Go Go.RowKit Go.Proofs.YtpinoobgnnlccaaW.PrintWords
set_option linter.unusedVariables false
theorem finds_true (S : List S44) (s : ByteArray) : emulatorlaw26_AsmexprFinds.f 2000 S s = some true := by
  obtain ⟨g, h1, h2⟩ := great_s S 1700
  have hj : ∀ b, (b = false → S.length ≤ 1000) → emulatorlaw26_AsmexprFinds.j0 2000 S s b = some true := by
    intro b hb
    show emulatorlaw26_AsmexprFinds.j0 (1999 + 1) S s b = some true
    rw [emulatorlaw26_AsmexprFinds.j0]
    cases b with
    | true => rw [if_pos rfl]
    | false =>
      have hS := hb rfl
      have e1 : asmexpr_Find.f 1999 S s = some (findFrom s S 0) := by
        have := find_l S s hS 1999 0 (by omega) (by omega)
        unfold asmexpr_Find.f; simpa using this
      have e2 : emulatorref26_Find.f 1999 S s = some (findFrom s S 0) := rfind_f 998 S s hS
      rw [if_neg (by decide), e1, e2]
      simp only [Option.bind_some]
      rw [if_pos (by simp)]; rfl
  unfold emulatorlaw26_AsmexprFinds.f
  rw [h1, Option.bind_some]
  cases g with
  | true => rw [if_pos rfl]; exact hj true (fun h => by cases h)
  | false => rw [if_neg (by decide)]; exact hj _ (fun _ => by have := (h2 rfl).1; omega)
end Go.Proofs.Ytpinoobgnnlccaa.A
