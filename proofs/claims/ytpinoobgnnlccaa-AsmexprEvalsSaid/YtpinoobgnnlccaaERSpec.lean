/- Of the proof of AsmexprEvals: RSpec, Ax1, Ax15, Ax16, Ax18, RFind, Bits, ValP, TermOk, Ax6, Ax7, Ax8, Ax9, RNameEq, Ax10, Ax11, Ax12, Ax13. Conditions: those of each theorem. -/
import Derived.Test.YtpinoobgnnlccaaEAx0
import Derived.Laws.BitsLemmas
import Derived.RowKit
namespace Go.Proofs.Ytpinoobgnnlccaa.A
open Go Go.RowKit Go.Proofs.YtpinoobgnnlccaaW.PrintWords
set_option linter.unusedVariables false
abbrev okS (D : Int) (l0 : List S38) (l1 : List S44) (a2 : Int) (a3 : ByteArray) (a4 : Int) (x1 x2 : Int) : Prop := D ≤ x2 ∧ fits l0 = true ∧ l1.length ≤ 1000 ∧ a3.size ≤ 1000 ∧ 0 ≤ x1 ∧ x1 ≤ l0.length ∧ 0 ≤ x2 ∧ x2 ≤ 16 ∧ validS a2 a3 a4 = true
def outR (r : RR) : Option (Int × ByteArray × Int × Int × Int) := some (r.1.1, r.1.2.1, r.1.2.2, (r.2.1 : Int), r.2.2)
def rtermF (D : Int) (l0 : List S38) (l1 : List S44) (a2 : Int) (a3 : ByteArray) (a4 : Int) (x1 x2 : Int) : Option (Int × ByteArray × Int × Int × Int) :=
 if okS D l0 l1 a2 a3 a4 x1 x2 then outR (termS l0 l1 (a2, a3, a4) (16 - x2).toNat x1.toNat) else none
def rexpF (D : Int) (l0 : List S38) (l1 : List S44) (a2 : Int) (a3 : ByteArray) (a4 : Int) (x1 x2 : Int) : Option (Int × ByteArray × Int × Int × Int) :=
 if okS D l0 l1 a2 a3 a4 x1 x2 then outR (exprS l0 (termS l0 l1 (a2, a3, a4) (16 - x2).toNat) x1.toNat) else none
abbrev TermC (D : Int) : Prop := ∀ (A0_0 : Option Addr) (c0_0 : Nat) (l0_0 : List (S38)) (A0_1 : Option Addr) (c0_1 : Nat) (l0_1 : List (S44)) (a0_2 : Int) (a0_3 : ByteArray) (a0_4 : Int) (a1 : Int) (a2 : Int) (r1 : Int) (r2 : ByteArray) (r3 : Int) (r4 : Int) (r5 : Int) (w : World) (hr0_0 : Kd.C k38 w A0_0 l0_0.length l0_0) (hc0_0 : l0_0.length ≤ c0_0) (hr0_1 : Kd.C k44 w A0_1 l0_1.length l0_1) (hc0_1 : l0_1.length ≤ c0_1) (h : rtermF D l0_0 l0_1 a0_2 a0_3 a0_4 a1 a2 = some (r1, r2, r3, r4, r5)),
  Calls Try.prog 36 #[.agg #[.slice A0_0 l0_0.length c0_0, .slice A0_1 l0_1.length c0_1, .int .i64 a0_2, .string a0_3, .int .i64 a0_4], .int .i64 a1, .int .i64 a2] w fun e w' => e = .returned (.tuple #[.agg #[.int .i64 r1, .string r2, .int .i64 r3], .int .i64 r4, .int .i64 r5]) ∧ Below w.heap.size w w'
abbrev ExpC (D : Int) : Prop := ∀ (A0_0 : Option Addr) (c0_0 : Nat) (l0_0 : List (S38)) (A0_1 : Option Addr) (c0_1 : Nat) (l0_1 : List (S44)) (a0_2 : Int) (a0_3 : ByteArray) (a0_4 : Int) (a1 : Int) (a2 : Int) (r1 : Int) (r2 : ByteArray) (r3 : Int) (r4 : Int) (r5 : Int) (w : World) (hr0_0 : Kd.C k38 w A0_0 l0_0.length l0_0) (hc0_0 : l0_0.length ≤ c0_0) (hr0_1 : Kd.C k44 w A0_1 l0_1.length l0_1) (hc0_1 : l0_1.length ≤ c0_1) (h : rexpF D l0_0 l0_1 a0_2 a0_3 a0_4 a1 a2 = some (r1, r2, r3, r4, r5)),
  Calls Try.prog 27 #[.agg #[.slice A0_0 l0_0.length c0_0, .slice A0_1 l0_1.length c0_1, .int .i64 a0_2, .string a0_3, .int .i64 a0_4], .int .i64 a1, .int .i64 a2] w fun e w' => e = .returned (.tuple #[.agg #[.int .i64 r1, .string r2, .int .i64 r3], .int .i64 r4, .int .i64 r5]) ∧ Below w.heap.size w w'
end Go.Proofs.Ytpinoobgnnlccaa.A
namespace Go.Proofs.Ytpinoobgnnlccaa.A
open Go.RowKit Go.Proofs.YtpinoobgnnlccaaW.PrintWords Go.Proofs.YtpinoobgnnlccaaW.PrintLast Go.Proofs.YtpinoobgnnlccaaW.PrintMore
attribute [local go_sem] max2_int min2_int max_two min_two max_three min_three max_four min_four
set_option linter.unusedVariables false
set_option linter.unusedSimpArgs false
theorem eqA24 (d : Nat) (w : World) (x0 y0 : Int) (x1 y1 : ByteArray) (x2 y2 : Int) :
  (Op.equalIn (d + 2) 24 (.agg #[.int .i64 x0, .string x1, .int .i64 x2]) (.agg #[.int .i64 y0, .string y1, .int .i64 y2])).run Try.prog w = .ok (x0 == y0 && (x1.toList == y1.toList && (x2 == y2))) w := by
 refine eqA_of Try.underlying24 (by kernel_rfl) ?_
 refine eqf_cons (by rfl) (by go_simp; rfl) (by go_simp; rfl) (by go_simp) ?_
 refine eqf_cons (by rfl) (by go_simp; rfl) (by go_simp; rfl) (by go_simp) ?_
 exact eqf_last (by rfl) (by go_simp; rfl) (by go_simp; rfl) (by go_simp)
end Go.Proofs.Ytpinoobgnnlccaa.A
namespace Go.Proofs.Ytpinoobgnnlccaa.A
open Go.RowKit Go.Proofs.YtpinoobgnnlccaaW.PrintWords Go.Proofs.YtpinoobgnnlccaaW.PrintLast Go.Proofs.YtpinoobgnnlccaaW.PrintMore
attribute [local go_sem] max2_int min2_int max_two min_two max_three min_three max_four min_four
set_option linter.unusedVariables false
set_option linter.unusedSimpArgs false
mutual
def emulatorref26_Great.l0 : Nat → List (S38) → Int → Option (Bool)
 | 0, _, _ => none
 | k + 1, x0, x3 => if x3 < (x0.length : Int) then (emulatorref26_Great.j1 k x0 x3 (decide (x3 < 101))) else (emulatorref26_Great.j1 k x0 x3 false)
def emulatorref26_Great.j1 : Nat → List (S38) → Int → Bool → Option (Bool)
 | 0, _, _, _ => none
 | k + 1, x0, x3, x11 => if x11 = true then (if 0 ≤ x3 then (if x3 < (x0.length : Int) then (if (((rd_T38 x0 x3).f1).size : Int) > 100 then (some true) else (emulatorref26_Great.l0 k x0 (wrap64 (x3 + 1)))) else (none)) else (none)) else (some (decide ((x0.length : Int) > 100)))
end
def emulatorref26_Great.f (k : Nat) (l0 : List (S38)) : Option (Bool) := emulatorref26_Great.l0 k l0 0
set_option maxHeartbeats 8000000 in
set_option maxRecDepth 100000 in
theorem emulatorref26_Great.calls (k : Nat) (A0 : Option Addr) (c0 : Nat) (l0 : List (S38)) (r : Bool) (w : World) (hr0 : Kd.C k38 w A0 l0.length l0) (hc0 : l0.length ≤ c0) (h : emulatorref26_Great.f k l0 = some r) :
  Calls Try.prog 9 #[.slice A0 l0.length c0] w fun e w' => e = .returned (.bool r) ∧ Drawn0 w w' := by
 have HR0 := Aside0.mk hr0
 have HC0 := Aside0.mk hc0
 clear hr0 hc0
 have H : (emulatorref26_Great.l0 k l0 0) = some r := h
 clear h
 have H' := Aside0.mk H
 clear H
 go_enter Try.func9, Try.ntmps9
 go_wp2
 go_loopg [3] k (fun kq v3 w' => ∃ (x3_1 : Int), v3 = .int .i64 x3_1 ∧ Aside0 (emulatorref26_Great.l0 kq l0 x3_1 = some r) ∧ Aside0 (kq ≤ k) ∧ Drawn0 w w')
 case atStart => exact ⟨(0), (by first | rfl | (simp; done) | (simp [*]; done)), H', ⟨Nat.le_refl _⟩, by repeat (first | exact Drawn0.refl _ | apply Drawn0.step)⟩
 case round =>
  clear H'
  obtain ⟨x3_1, rfl, HA, HK1, ⟨m1, rfl⟩⟩ := hrel
  cases gk with
  | zero => exact absurd HA.out (by simp [emulatorref26_Great.l0])
  | succ k1 =>
   have H := HA.out
   clear HA
   simp only [emulatorref26_Great.l0] at H
   have HC2 := Aside0.mk H
   clear H
   go_upto_region 2 with (fail)
   go_cut [11] (fun v11 wc => ∃ (kq : Nat) (x11_1 : Bool), v11 = .bool x11_1 ∧ Aside0 (emulatorref26_Great.j1 kq l0 x3_1 x11_1 = some r) ∧ Aside0 (kq ≤ k1) ∧ Drawn0 w wc)
   case first =>
    have H := HC2.out
    clear HC2
    by_cases c3 : x3_1 < (l0.length : Int)
    ·rw [if_pos c3] at H
     have c3b0 : decide (x3_1 < (l0.length : Int)) = true := decide_eq_true c3
     clear c3
     (first | rw [c3b0] | (simp only [i64_w, i32_w]; rw [c3b0]) | skip)
     have H' := Aside0.mk H
     clear H
     go_wp2
     go_meet
     case rel => exact ⟨_, (decide (x3_1 < 101)), (by first | rfl | (simp; done) | (simp [*]; done)), H', ⟨by have := HK1.out; first | omega | exact Nat.le_refl _⟩, by repeat (first | exact Drawn0.refl _ | apply Drawn0.step)⟩
    ·rw [if_neg c3] at H
     have c3b0 : decide (x3_1 < (l0.length : Int)) = false := decide_eq_false c3
     clear c3
     (first | rw [c3b0] | (simp only [i64_w, i32_w]; rw [c3b0]) | skip)
     have H' := Aside0.mk H
     clear H
     go_wp2
     go_meet
     case rel => exact ⟨_, (false), (by first | rfl | (simp; done) | (simp [*]; done)), H', ⟨by have := HK1.out; first | omega | exact Nat.le_refl _⟩, by repeat (first | exact Drawn0.refl _ | apply Drawn0.step)⟩
   case rest =>
    clear HC2
    try clear p2
    try clear c3
    try clear c3b0
    obtain ⟨kq, x11_1, rfl, HA, HJ1, ⟨mc1, rfl⟩⟩ := hcut
    cases kq with
    | zero => exact absurd HA.out (by simp [emulatorref26_Great.j1])
    | succ kj1 =>
     have H := HA.out
     clear HA
     simp only [emulatorref26_Great.j1] at H
     by_cases c4 : x11_1 = true
     ·subst c4
      have H1 : (if 0 ≤ x3_1 then (if x3_1 < (l0.length : Int) then (if (((rd_T38 l0 x3_1).f1).size : Int) > 100 then (some true) else (emulatorref26_Great.l0 kj1 l0 (wrap64 (x3_1 + 1)))) else (none)) else (none)) = some r := by rw [if_pos rfl] at H; exact H
      clear H
      have H := H1
      clear H1
      by_cases c5 : 0 ≤ x3_1
      ·rw [if_pos c5] at H
       have c5b0 : decide (0 ≤ x3_1) = true := decide_eq_true c5
       clear c5
       by_cases c6 : x3_1 < (l0.length : Int)
       ·rw [if_pos c6] at H
        have c6b0 : decide (x3_1 < (l0.length : Int)) = true := decide_eq_true c6
        clear c6
        by_cases c7 : (((rd_T38 l0 x3_1).f1).size : Int) > 100
        ·rw [if_pos c7] at H
         have c7b0 : decide (100 < (((rd_T38 l0 x3_1).f1).size : Int)) = true := decide_eq_true c7
         have c7b1 : decide (100 < ((rd_T38 l0 x3_1).f1).size) = true := decide_eq_true (by omega)
         clear c7
         obtain rfl := Option.some.inj H
         have p201 : 0 ≤ (x3_1 : Int) := of_decide_eq_true (by first|(with_reducible assumption) | assumption)
         have q201 : x3_1 < (l0.length : Int) := of_decide_eq_true (by first|(with_reducible assumption) | assumption)
         obtain ⟨ad201, e201, hx201_0, hx201_1, hx201_2, hx201_3⟩ := at_T38 HR0.out x3_1 p201 q201
         cases e201
         replace p201 := eq_true p201
         replace q201 := eq_true q201
         go_wp2
         go_ret
         exact ⟨by first | rfl | (simp; done) | (simp [*]; done), by repeat (first | exact Drawn0.refl _ | apply Drawn0.step)⟩
        ·rw [if_neg c7] at H
         have c7b0 : decide (100 < (((rd_T38 l0 x3_1).f1).size : Int)) = false := decide_eq_false c7
         have c7b1 : decide (100 < ((rd_T38 l0 x3_1).f1).size) = false := decide_eq_false (by omega)
         clear c7
         have H' := Aside0.mk H
         clear H
         have p201 : 0 ≤ (x3_1 : Int) := of_decide_eq_true (by first|(with_reducible assumption) | assumption)
         have q201 : x3_1 < (l0.length : Int) := of_decide_eq_true (by first|(with_reducible assumption) | assumption)
         obtain ⟨ad201, e201, hx201_0, hx201_1, hx201_2, hx201_3⟩ := at_T38 HR0.out x3_1 p201 q201
         cases e201
         replace p201 := eq_true p201
         replace q201 := eq_true q201
         go_wp2
         go_roundg kj1
         case measure => have := HK1.out; have := HJ1.out; omega
         case rel => exact ⟨(wrap64 (x3_1 + 1)), (by first | rfl | (simp; done) | (simp [*]; done)), H', ⟨by have := HK1.out; have := HJ1.out; omega⟩, by repeat (first | exact Drawn0.refl _ | apply Drawn0.step)⟩
       ·rw [if_neg c6] at H
        exact absurd H (by simp)
      ·rw [if_neg c5] at H
       exact absurd H (by simp)
     ·replace c4 := Bool.eq_false_iff.mpr c4
      subst c4
      have H1 : (some (decide ((l0.length : Int) > 100))) = some r := by rw [if_neg (show ¬ (false = true) by decide)] at H; exact H
      clear H
      have H := H1
      clear H1
      obtain rfl := Option.some.inj H
      go_wp2
      go_ret
      exact ⟨by first | rfl | (simp; done) | (simp [*]; done), by repeat (first | exact Drawn0.refl _ | apply Drawn0.step)⟩
end Go.Proofs.Ytpinoobgnnlccaa.A
namespace Go.Proofs.Ytpinoobgnnlccaa.A
open Go.RowKit Go.Proofs.YtpinoobgnnlccaaW.PrintWords Go.Proofs.YtpinoobgnnlccaaW.PrintLast Go.Proofs.YtpinoobgnnlccaaW.PrintMore
attribute [local go_sem] max2_int min2_int max_two min_two max_three min_three max_four min_four
set_option linter.unusedVariables false
set_option linter.unusedSimpArgs false
mutual
def emulatorref26_GreatSymbols.l0 : Nat → List (S44) → Int → Option (Bool)
 | 0, _, _ => none
 | k + 1, x0, x3 => if x3 < (x0.length : Int) then (emulatorref26_GreatSymbols.j1 k x0 x3 (decide (x3 < 101))) else (emulatorref26_GreatSymbols.j1 k x0 x3 false)
def emulatorref26_GreatSymbols.j1 : Nat → List (S44) → Int → Bool → Option (Bool)
 | 0, _, _, _ => none
 | k + 1, x0, x3, x11 => if x11 = true then (if 0 ≤ x3 then (if x3 < (x0.length : Int) then (if (((rd_T44 x0 x3).f0).size : Int) > 100 then (some true) else (emulatorref26_GreatSymbols.l0 k x0 (wrap64 (x3 + 1)))) else (none)) else (none)) else (some (decide ((x0.length : Int) > 100)))
end
def emulatorref26_GreatSymbols.f (k : Nat) (l0 : List (S44)) : Option (Bool) := emulatorref26_GreatSymbols.l0 k l0 0
set_option maxHeartbeats 8000000 in
set_option maxRecDepth 100000 in
theorem emulatorref26_GreatSymbols.calls (k : Nat) (A0 : Option Addr) (c0 : Nat) (l0 : List (S44)) (r : Bool) (w : World) (hr0 : Kd.C k44 w A0 l0.length l0) (hc0 : l0.length ≤ c0) (h : emulatorref26_GreatSymbols.f k l0 = some r) :
  Calls Try.prog 10 #[.slice A0 l0.length c0] w fun e w' => e = .returned (.bool r) ∧ Drawn0 w w' := by
 have HR0 := Aside0.mk hr0
 have HC0 := Aside0.mk hc0
 clear hr0 hc0
 have H : (emulatorref26_GreatSymbols.l0 k l0 0) = some r := h
 clear h
 have H' := Aside0.mk H
 clear H
 go_enter Try.func10, Try.ntmps10
 go_wp2
 go_loopg [3] k (fun kq v3 w' => ∃ (x3_1 : Int), v3 = .int .i64 x3_1 ∧ Aside0 (emulatorref26_GreatSymbols.l0 kq l0 x3_1 = some r) ∧ Aside0 (kq ≤ k) ∧ Drawn0 w w')
 case atStart => exact ⟨(0), (by first | rfl | (simp; done) | (simp [*]; done)), H', ⟨Nat.le_refl _⟩, by repeat (first | exact Drawn0.refl _ | apply Drawn0.step)⟩
 case round =>
  clear H'
  try clear c1
  obtain ⟨x3_1, rfl, HA, HK1, ⟨m1, rfl⟩⟩ := hrel
  cases gk with
  | zero => exact absurd HA.out (by simp [emulatorref26_GreatSymbols.l0])
  | succ k1 =>
   have H := HA.out
   clear HA
   simp only [emulatorref26_GreatSymbols.l0] at H
   have HC2 := Aside0.mk H
   clear H
   go_upto_region 2 with (fail)
   go_cut [11] (fun v11 wc => ∃ (kq : Nat) (x11_1 : Bool), v11 = .bool x11_1 ∧ Aside0 (emulatorref26_GreatSymbols.j1 kq l0 x3_1 x11_1 = some r) ∧ Aside0 (kq ≤ k1) ∧ Drawn0 w wc)
   case first =>
    have H := HC2.out
    clear HC2
    by_cases c3 : x3_1 < (l0.length : Int)
    ·rw [if_pos c3] at H
     have c3b0 : decide (x3_1 < (l0.length : Int)) = true := decide_eq_true c3
     clear c3
     (first | rw [c3b0] | (simp only [i64_w, i32_w]; rw [c3b0]) | skip)
     have H' := Aside0.mk H
     clear H
     go_wp2
     go_meet
     case rel => exact ⟨_, (decide (x3_1 < 101)), (by first | rfl | (simp; done) | (simp [*]; done)), H', ⟨by have := HK1.out; first | omega | exact Nat.le_refl _⟩, by repeat (first | exact Drawn0.refl _ | apply Drawn0.step)⟩
    ·rw [if_neg c3] at H
     have c3b0 : decide (x3_1 < (l0.length : Int)) = false := decide_eq_false c3
     clear c3
     (first | rw [c3b0] | (simp only [i64_w, i32_w]; rw [c3b0]) | skip)
     have H' := Aside0.mk H
     clear H
     go_wp2
     go_meet
     case rel => exact ⟨_, (false), (by first | rfl | (simp; done) | (simp [*]; done)), H', ⟨by have := HK1.out; first | omega | exact Nat.le_refl _⟩, by repeat (first | exact Drawn0.refl _ | apply Drawn0.step)⟩
   case rest =>
    clear HC2
    try clear c1
    try clear p2
    try clear c3
    try clear c3b0
    obtain ⟨kq, x11_1, rfl, HA, HJ1, ⟨mc1, rfl⟩⟩ := hcut
    cases kq with
    | zero => exact absurd HA.out (by simp [emulatorref26_GreatSymbols.j1])
    | succ kj1 =>
     have H := HA.out
     clear HA
     simp only [emulatorref26_GreatSymbols.j1] at H
     by_cases c4 : x11_1 = true
     ·subst c4
      have H1 : (if 0 ≤ x3_1 then (if x3_1 < (l0.length : Int) then (if (((rd_T44 l0 x3_1).f0).size : Int) > 100 then (some true) else (emulatorref26_GreatSymbols.l0 kj1 l0 (wrap64 (x3_1 + 1)))) else (none)) else (none)) = some r := by rw [if_pos rfl] at H; exact H
      clear H
      have H := H1
      clear H1
      by_cases c5 : 0 ≤ x3_1
      ·rw [if_pos c5] at H
       have c5b0 : decide (0 ≤ x3_1) = true := decide_eq_true c5
       clear c5
       by_cases c6 : x3_1 < (l0.length : Int)
       ·rw [if_pos c6] at H
        have c6b0 : decide (x3_1 < (l0.length : Int)) = true := decide_eq_true c6
        clear c6
        by_cases c7 : (((rd_T44 l0 x3_1).f0).size : Int) > 100
        ·rw [if_pos c7] at H
         have c7b0 : decide (100 < (((rd_T44 l0 x3_1).f0).size : Int)) = true := decide_eq_true c7
         have c7b1 : decide (100 < ((rd_T44 l0 x3_1).f0).size) = true := decide_eq_true (by omega)
         clear c7
         obtain rfl := Option.some.inj H
         have p202 : 0 ≤ (x3_1 : Int) := of_decide_eq_true (by first|(with_reducible assumption) | assumption)
         have q202 : x3_1 < (l0.length : Int) := of_decide_eq_true (by first|(with_reducible assumption) | assumption)
         obtain ⟨ad202, e202, hx202_0, hx202_1, hx202_2, hx202_3⟩ := at_T44 HR0.out x3_1 p202 q202
         cases e202
         replace p202 := eq_true p202
         replace q202 := eq_true q202
         go_wp2
         go_ret
         exact ⟨by first | rfl | (simp; done) | (simp [*]; done), by repeat (first | exact Drawn0.refl _ | apply Drawn0.step)⟩
        ·rw [if_neg c7] at H
         have c7b0 : decide (100 < (((rd_T44 l0 x3_1).f0).size : Int)) = false := decide_eq_false c7
         have c7b1 : decide (100 < ((rd_T44 l0 x3_1).f0).size) = false := decide_eq_false (by omega)
         clear c7
         have H' := Aside0.mk H
         clear H
         have p202 : 0 ≤ (x3_1 : Int) := of_decide_eq_true (by first|(with_reducible assumption) | assumption)
         have q202 : x3_1 < (l0.length : Int) := of_decide_eq_true (by first|(with_reducible assumption) | assumption)
         obtain ⟨ad202, e202, hx202_0, hx202_1, hx202_2, hx202_3⟩ := at_T44 HR0.out x3_1 p202 q202
         cases e202
         replace p202 := eq_true p202
         replace q202 := eq_true q202
         go_wp2
         go_roundg kj1
         case measure => have := HK1.out; have := HJ1.out; omega
         case rel => exact ⟨(wrap64 (x3_1 + 1)), (by first | rfl | (simp; done) | (simp [*]; done)), H', ⟨by have := HK1.out; have := HJ1.out; omega⟩, by repeat (first | exact Drawn0.refl _ | apply Drawn0.step)⟩
       ·rw [if_neg c6] at H
        exact absurd H (by simp)
      ·rw [if_neg c5] at H
       exact absurd H (by simp)
     ·replace c4 := Bool.eq_false_iff.mpr c4
      subst c4
      have H1 : (some (decide ((l0.length : Int) > 100))) = some r := by rw [if_neg (show ¬ (false = true) by decide)] at H; exact H
      clear H
      have H := H1
      clear H1
      obtain rfl := Option.some.inj H
      go_wp2
      go_ret
      exact ⟨by first | rfl | (simp; done) | (simp [*]; done), by repeat (first | exact Drawn0.refl _ | apply Drawn0.step)⟩
end Go.Proofs.Ytpinoobgnnlccaa.A
namespace Go.Proofs.Ytpinoobgnnlccaa.A
open Go.RowKit Go.Proofs.YtpinoobgnnlccaaW.PrintWords Go.Proofs.YtpinoobgnnlccaaW.PrintLast Go.Proofs.YtpinoobgnnlccaaW.PrintMore
attribute [local go_sem] max2_int min2_int max_two min_two max_three min_three max_four min_four
set_option linter.unusedVariables false
set_option linter.unusedSimpArgs false
def emulatorref26_Find.l0 : Nat → List (S44) → ByteArray → Int → Option (Int)
 | 0, _, _, _ => none
 | k + 1, x0, x1, x5 => if x5 < (x0.length : Int) then (if 0 ≤ x5 then (if ((rd_T44 x0 x5).f0).toList = x1.toList then (some x5) else (emulatorref26_Find.l0 k x0 x1 (wrap64 (x5 + 1)))) else (none)) else (some (-1))
def emulatorref26_Find.f (k : Nat) (l0 : List (S44)) (a1 : ByteArray) : Option (Int) := emulatorref26_Find.l0 k l0 a1 0
set_option maxHeartbeats 8000000 in
set_option maxRecDepth 100000 in
theorem emulatorref26_Find.calls (k : Nat) (A0 : Option Addr) (c0 : Nat) (l0 : List (S44)) (a1 : ByteArray) (r : Int) (w : World) (hr0 : Kd.C k44 w A0 l0.length l0) (hc0 : l0.length ≤ c0) (h : emulatorref26_Find.f k l0 a1 = some r) :
  Calls Try.prog 15 #[.slice A0 l0.length c0, .string a1] w fun e w' => e = .returned (.int .i64 r) ∧ Drawn0 w w' := by
 have HR0 := Aside0.mk hr0
 have HC0 := Aside0.mk hc0
 clear hr0 hc0
 have H : (emulatorref26_Find.l0 k l0 a1 0) = some r := h
 clear h
 have H' := Aside0.mk H
 clear H
 go_enter Try.func15, Try.ntmps15
 go_wp2
 go_loopg [5] k (fun kq v5 w' => ∃ (x5_1 : Int), v5 = .int .i64 x5_1 ∧ Aside0 (emulatorref26_Find.l0 kq l0 a1 x5_1 = some r) ∧ Aside0 (kq ≤ k) ∧ Drawn0 w w')
 case atStart => exact ⟨(0), (by first | rfl | (simp; done) | (simp [*]; done)), H', ⟨Nat.le_refl _⟩, by repeat (first | exact Drawn0.refl _ | apply Drawn0.step)⟩
 case round =>
  clear H'
  try clear c1
  try clear p2
  obtain ⟨x5_1, rfl, HA, HK1, ⟨m1, rfl⟩⟩ := hrel
  cases gk with
  | zero => exact absurd HA.out (by simp [emulatorref26_Find.l0])
  | succ k1 =>
   have H := HA.out
   clear HA
   simp only [emulatorref26_Find.l0] at H
   by_cases c3 : x5_1 < (l0.length : Int)
   ·rw [if_pos c3] at H
    have c3b0 : decide (x5_1 < (l0.length : Int)) = true := decide_eq_true c3
    clear c3
    by_cases c4 : 0 ≤ x5_1
    ·rw [if_pos c4] at H
     have c4b0 : decide (0 ≤ x5_1) = true := decide_eq_true c4
     clear c4
     by_cases c5 : ((rd_T44 l0 x5_1).f0).toList = a1.toList
     ·rw [if_pos c5] at H
      have c5b0 : (((rd_T44 l0 x5_1).f0).toList == a1.toList) = true := beq_iff_eq.mpr c5
      have c5b1 : (((rd_T44 l0 x5_1).f0).toList != a1.toList) = false := bne_eq_false_iff_eq.mpr c5
      clear c5
      obtain rfl := Option.some.inj H
      have p209 : 0 ≤ (x5_1 : Int) := of_decide_eq_true (by first|(with_reducible assumption) | assumption)
      have q209 : x5_1 < (l0.length : Int) := of_decide_eq_true (by first|(with_reducible assumption) | assumption)
      obtain ⟨ad209, e209, hx209_0, hx209_1, hx209_2, hx209_3⟩ := at_T44 HR0.out x5_1 p209 q209
      cases e209
      replace p209 := eq_true p209
      replace q209 := eq_true q209
      go_wp2
      go_ret
      exact ⟨by first | rfl | (simp; done) | (simp [*]; done), by repeat (first | exact Drawn0.refl _ | apply Drawn0.step)⟩
     ·rw [if_neg c5] at H
      have c5b0 : (((rd_T44 l0 x5_1).f0).toList == a1.toList) = false := beq_eq_false_iff_ne.mpr c5
      have c5b1 : (((rd_T44 l0 x5_1).f0).toList != a1.toList) = true := bne_iff_ne.mpr c5
      have H' := Aside0.mk H
      clear H
      have p209 : 0 ≤ (x5_1 : Int) := of_decide_eq_true (by first|(with_reducible assumption) | assumption)
      have q209 : x5_1 < (l0.length : Int) := of_decide_eq_true (by first|(with_reducible assumption) | assumption)
      obtain ⟨ad209, e209, hx209_0, hx209_1, hx209_2, hx209_3⟩ := at_T44 HR0.out x5_1 p209 q209
      cases e209
      replace p209 := eq_true p209
      replace q209 := eq_true q209
      go_wp2
      go_roundg k1
      case measure => have := HK1.out; omega
      case rel => exact ⟨(wrap64 (x5_1 + 1)), (by first | rfl | (simp; done) | (simp [*]; done)), H', ⟨by have := HK1.out; omega⟩, by repeat (first | exact Drawn0.refl _ | apply Drawn0.step)⟩
    ·rw [if_neg c4] at H
     exact absurd H (by simp)
   ·rw [if_neg c3] at H
    have c3b0 : decide (x5_1 < (l0.length : Int)) = false := decide_eq_false c3
    clear c3
    obtain rfl := Option.some.inj H
    go_wp2
    go_ret
    exact ⟨by first | rfl | (simp; done) | (simp [*]; done), by repeat (first | exact Drawn0.refl _ | apply Drawn0.step)⟩
end Go.Proofs.Ytpinoobgnnlccaa.A
namespace Go.Proofs.Ytpinoobgnnlccaa.A
open Go Go.RowKit Go.Proofs.YtpinoobgnnlccaaW.PrintWords
set_option linter.unusedSimpArgs false
set_option linter.unusedVariables false
theorem rfind_l (S : List S44) (s : ByteArray) (hS : S.length ≤ 1000) : ∀ (k i : Nat), i ≤ S.length → S.length - i < k → emulatorref26_Find.l0 k S s (i : Int) = some (findFrom s (S.drop i) i) := by
 intro k
 induction k with
 | zero => intro i _ h; omega
 | succ k ih =>
  intro i hi hk
  rw [emulatorref26_Find.l0]
  by_cases h : i < S.length
  ·have hd : S.drop i = S[i] :: S.drop (i + 1) := List.drop_eq_getElem_cons h
   have hr : rd_T44 S (i : Int) = S[i] := by unfold rd_T44; simp [h]
   have hw : wrap64 ((i : Int) + 1) = ((i + 1 : Nat) : Int) := by unfold wrap64; omega
   rw [if_pos (by omega), if_pos (by omega), hd, hr, findFrom, hw]
   by_cases h2 : S[i].f0.toList = s.toList
   ·rw [if_pos h2, if_pos (by simp [h2])]
   ·rw [if_neg h2, if_neg (by simpa using h2), ih (i + 1) (by omega) (by omega)]; simp
  ·rw [if_neg (by omega), List.drop_of_length_le (by omega), findFrom]
theorem rfind_f (k : Nat) (S : List S44) (s : ByteArray) (hS : S.length ≤ 1000) : emulatorref26_Find.f (k + 1001) S s = some (findFrom s S 0) := by
 unfold emulatorref26_Find.f
 have := rfind_l S s hS (k + 1001) 0 (by omega) (by omega)
 simpa using this
end Go.Proofs.Ytpinoobgnnlccaa.A
namespace Go.Proofs.Ytpinoobgnnlccaa.Bits
open Go Go.RowKit
theorem wrap_small (n : Int) (h0 : -9223372036854775808 ≤ n) (h1 : n ≤ 9223372036854775807) : IntKind.i64.wrap n = n := by
 rw [IntKind.wrap_i64]; omega
theorem bits_and_def (x y : Int) : Go.bits .and .i64 x y = IntKind.i64.wrap ((BitVec.ofInt 64 x &&& BitVec.ofInt 64 y).toNat : Int) := rfl
theorem ofInt_toNat (x : Int) : (BitVec.ofInt 64 x).toNat = (x % 18446744073709551616).toNat := by
 rw [BitVec.toNat_ofInt]; rfl
theorem and_mask (x : Int) (k : Nat) (hk : k ≤ 63) : Go.bits .and .i64 x (2 ^ k - 1) = x % 2 ^ k := by
 have hlt : 2 ^ k ≤ 2 ^ 63 := Nat.pow_le_pow_right (by decide) hk
 have hpos : 0 < 2 ^ k := Nat.two_pow_pos k
 have hc : ((2 : Int) ^ k - 1) = ((2 ^ k - 1 : Nat) : Int) := by rw [Int.natCast_sub hpos]; simp
 rw [bits_and_def, hc, BitVec.ofInt_natCast, BitVec.toNat_and, ofInt_toNat, BitVec.toNat_ofNat]
 have e : (2 ^ k - 1) % 2 ^ 64 = 2 ^ k - 1 := Nat.mod_eq_of_lt (by omega)
 rw [e, Nat.and_two_pow_sub_one_eq_mod]
 have h0 : 0 ≤ x % 18446744073709551616 := Int.emod_nonneg _ (by decide)
 have hd : (2 : Int) ^ k ∣ 18446744073709551616 := by
  have : (18446744073709551616 : Int) = 2 ^ k * 2 ^ (64 - k) := by
   rw [← Int.pow_add]; rw [show k + (64 - k) = 64 by omega]; rfl
  exact ⟨_, this⟩
 have hp : (0 : Int) < 2 ^ k := by exact_mod_cast hpos
 have e2 : (((x % 18446744073709551616).toNat % 2 ^ k : Nat) : Int) = x % 2 ^ k := by
  rw [Int.natCast_emod, Int.toNat_of_nonneg h0, (by simp : ((2 ^ k : Nat) : Int) = 2 ^ k), Int.emod_emod_of_dvd _ hd]
 rw [e2]
 have h1 : 0 ≤ x % 2 ^ k := Int.emod_nonneg _ (Int.ne_of_gt hp)
 have h2 : x % 2 ^ k < 2 ^ k := Int.emod_lt_of_pos _ hp
 have h3 : (2 : Int) ^ k ≤ 2 ^ 63 := by exact_mod_cast hlt
 exact wrap_small _ (by omega) (by omega)
theorem and65535 (x : Int) : Go.bits .and .i64 x 65535 = x % 65536 := and_mask x 16 (by decide)
theorem nat_and (a b : Nat) (ha : a < 2 ^ 63) (hb : b < 2 ^ 63) : Go.bits .and .i64 a b = ((a &&& b : Nat) : Int) :=
 (bits_nat .i64 63 (by decide) (fun n h0 h1 => wrap_small n (by omega) (by omega)) a b ha hb).1
theorem nat_or (a b : Nat) (ha : a < 2 ^ 63) (hb : b < 2 ^ 63) : Go.bits .or .i64 a b = ((a ||| b : Nat) : Int) :=
 (bits_nat .i64 63 (by decide) (fun n h0 h1 => wrap_small n (by omega) (by omega)) a b ha hb).2
end Go.Proofs.Ytpinoobgnnlccaa.Bits
namespace Go.Proofs.Ytpinoobgnnlccaa.A
open Go Go.RowKit Go.Proofs.YtpinoobgnnlccaaW.PrintWords
set_option linter.unusedSimpArgs false
set_option linter.unusedVariables false
theorem wrp_eq (n : Int) : wrp n = n % 65536 := Bits.and65535 n
theorem wrp_lo (n : Int) : 0 ≤ wrp n := by rw [wrp_eq]; omega
theorem wrp_hi (n : Int) : wrp n ≤ 65535 := by rw [wrp_eq]; omega
theorem wrp_id (n : Int) (h0 : 0 ≤ n) (h1 : n ≤ 65535) : wrp n = n := by rw [wrp_eq]; omega
abbrev vS (a : VV) : Bool := validS a.1 a.2.1 a.2.2
theorem v_num {a : VV} (h : vS a = true) : 0 ≤ a.1 ∧ a.1 ≤ 4 ∧ 0 ≤ a.2.2 ∧ a.2.2 ≤ 65535 := by
 unfold vS validS at h
 by_cases h1 : a.1 < 0 ∨ 4 < a.1 ∨ a.2.2 < 0 ∨ 65535 < a.2.2
 ·rw [if_pos h1] at h; cases h
 ·omega
theorem v_txt {a : VV} (h : vS a = true) : if a.1 = 4 then nameS a.2.1 = true else sIs a.2.1 [] = true := by
 have hn := v_num h
 unfold vS validS at h
 rw [if_neg (by omega)] at h
 by_cases h4 : a.1 = 4
 ·rw [if_pos h4] at h ⊢; exact h
 ·rw [if_neg h4] at h ⊢; exact h
theorem v_mk {c : Int} {s : ByteArray} {n : Int} (h0 : 0 ≤ c) (h1 : c ≤ 4) (h2 : 0 ≤ n) (h3 : n ≤ 65535) (ht : if c = 4 then nameS s = true else sIs s [] = true) : vS (c, s, n) = true := by
 unfold vS validS
 rw [if_neg (by simp only []; omega)]
 by_cases h4 : c = 4
 ·rw [if_pos h4] at ht ⊢; exact ht
 ·rw [if_neg h4] at ht ⊢; exact ht
theorem v_zero (n : Int) : vS (0, (⟨#[]⟩ : ByteArray), wrp n) = true := v_mk (by omega) (by omega) (wrp_lo n) (wrp_hi n) (by rw [if_neg (by omega)]; unfold sIs; rw [ByteArray.toList_eq]; rfl)
theorem v_num_of {a : VV} (h : vS a = true) (n : Int) : vS (a.1, a.2.1, wrp n) = true := by
 obtain ⟨h1, h2, _, _⟩ := v_num h
 exact v_mk h1 h2 (wrp_lo n) (wrp_hi n) (v_txt h)
theorem add_valid {a b : VV} (ha : vS a = true) (hb : vS b = true) (h : (addS a b).2 = 0) : vS (addS a b).1 = true := by
 unfold addS at h ⊢
 by_cases h1 : b.1 = 0
 ·simp only [if_pos h1]; exact v_num_of ha _
 ·by_cases h2 : a.1 = 0
  ·simp only [if_neg h1, if_pos h2]; exact v_num_of hb _
  ·simp only [if_neg h1, if_neg h2, ve] at h; cases h
theorem sub_valid {a b : VV} (ha : vS a = true) (h : (subS a b).2 = 0) : vS (subS a b).1 = true := by
 unfold subS at h ⊢
 by_cases h1 : b.1 = 0
 ·simp only [if_pos h1]; exact v_num_of ha _
 ·by_cases h2 : a.1 = b.1 ∧ a.1 ≠ 4
  ·simp only [if_neg h1, if_pos h2]; exact v_zero _
  ·simp only [if_neg h1, if_neg h2, ve] at h; cases h
theorem num_valid {f : Int → Int → Int} {a b : VV} (h : (numS f a b).2 = 0) : vS (numS f a b).1 = true := by
 unfold numS at h ⊢
 by_cases h1 : a.1 ≠ 0 ∨ b.1 ≠ 0
 ·simp only [if_pos h1, ve] at h; cases h
 ·simp only [if_neg h1]; exact v_zero _
theorem div_valid {a b : VV} (h : (divS a b).2 = 0) : vS (divS a b).1 = true := by
 unfold divS at h ⊢
 by_cases h1 : a.1 = 0 ∧ b.1 = 0 ∧ b.2.2 = 0
 ·simp only [if_pos h1, ve] at h; cases h
 ·simp only [if_neg h1] at h ⊢; exact num_valid h
theorem op_valid {o : ByteArray} {a b : VV} (ha : vS a = true) (hb : vS b = true) (h : (opS o a b).2 = 0) : vS (opS o a b).1 = true := by
 unfold opS at h ⊢
 by_cases h1 : sIs o [43] = true
 ·simp only [if_pos h1] at h ⊢; exact add_valid ha hb h
 by_cases h2 : sIs o [45] = true
 ·simp only [if_neg h1, if_pos h2] at h ⊢; exact sub_valid ha h
 by_cases h3 : sIs o [42] = true
 ·simp only [if_neg h1, if_neg h2, if_pos h3] at h ⊢; exact num_valid h
 by_cases h4 : sIs o [47] = true
 ·simp only [if_neg h1, if_neg h2, if_neg h3, if_pos h4] at h ⊢; exact div_valid h
 by_cases h5 : sIs o [38] = true
 ·simp only [if_neg h1, if_neg h2, if_neg h3, if_neg h4, if_pos h5] at h ⊢; exact num_valid h
 ·simp only [if_neg h1, if_neg h2, if_neg h3, if_neg h4, if_neg h5] at h ⊢; exact num_valid h
def outV (r : VE) : Option (Int × ByteArray × Int × Int) := some (r.1.1, r.1.2.1, r.1.2.2, r.2)
end Go.Proofs.Ytpinoobgnnlccaa.A
namespace Go.Proofs.Ytpinoobgnnlccaa.A
open Go Go.RowKit Go.Proofs.YtpinoobgnnlccaaW.PrintWords
set_option linter.unusedSimpArgs false
set_option linter.unusedVariables false
section
variable {L : List S38} {S : List S44} {h : VV}
def TOK (L : List S38) (tm : Nat → RR) : Prop := ∀ i, i ≤ L.length → (tm i).2.2 = 0 → vS (tm i).1 = true ∧ i < (tm i).2.1 ∧ (tm i).2.1 ≤ L.length
theorem named_valid {s : ByteArray} (hs : nameS s = true) : vS (namedS S s) = true := by
 unfold namedS
 split
 ·rename_i x _
  by_cases c : 0 ≤ x.f1 ∧ x.f1 ≤ 3
  ·rw [if_pos c]
   exact v_mk c.1 (by omega) (wrp_lo _) (wrp_hi _) (by rw [if_neg (by omega)]; unfold sIs; rw [ByteArray.toList_eq]; rfl)
  ·rw [if_neg c]; exact v_mk (by omega) (by omega) (by omega) (by omega) (by rw [if_pos rfl]; exact hs)
 ·exact v_mk (by omega) (by omega) (by omega) (by omega) (by rw [if_pos rfl]; exact hs)
theorem atomT_valid (hh : vS h = true) {t : S38} (h0 : (atomT S h t).2 = 0) : vS (atomT S h t).1 = true := by
 unfold atomT at h0 ⊢
 by_cases c1 : t.f0 = 2
 ·simp only [if_pos c1]; exact v_zero _
 ·by_cases c2 : t.f0 = 1 ∧ sIs t.f1 [46] = true
  ·simp only [if_neg c1, if_pos c2]; exact hh
  ·by_cases c3 : t.f0 = 1 ∧ nameS t.f1 = true
   ·simp only [if_neg c1, if_neg c2, if_pos c3]; exact named_valid c3.2
   ·simp only [if_neg c1, if_neg c2, if_neg c3, ve] at h0; cases h0
theorem atom_ok (hh : vS h = true) : TOK L (atomS L S h) := by
 intro i hi h0
 unfold atomS at h0 ⊢
 by_cases c : L.length ≤ i
 ·rw [if_pos c] at h0; cases h0
 ·rw [if_neg c] at h0 ⊢
  by_cases c2 : (atomT S h (rd_T38 L i)).2 = 0
  ·rw [if_pos c2]
   exact ⟨atomT_valid hh c2, by show i < i + 1; omega, by show i + 1 ≤ L.length; omega⟩
  ·rw [if_neg c2] at h0; cases h0
theorem loop_ok {tm : Nat → RR} (ht : TOK L tm) : ∀ n v i, vS v = true → i ≤ L.length → (loopS L tm n v i).2.2 = 0 → vS (loopS L tm n v i).1 = true ∧ i ≤ (loopS L tm n v i).2.1 ∧ (loopS L tm n v i).2.1 ≤ L.length := by
 intro n
 induction n with
 | zero => intro v i hv hi _; exact ⟨hv, Nat.le_refl _, hi⟩
 | succ n ih =>
  intro v i hv hi h0
  unfold loopS at h0 ⊢
  by_cases c : isOp (symS L i) = true
  ·rw [if_pos c] at h0 ⊢
   obtain ⟨o1, _, _⟩ := op_at c
   by_cases c2 : (tm (i + 1)).2.2 = 0
   ·rw [if_pos c2] at h0 ⊢
    obtain ⟨t1, t2, t3⟩ := ht (i + 1) (by omega) c2
    by_cases c3 : (opS (symS L i) v (tm (i + 1)).1).2 = 0
    ·rw [if_pos c3] at h0 ⊢
     obtain ⟨a, b, d⟩ := ih _ _ (op_valid hv t1 c3) t3 h0
     exact ⟨a, by omega, d⟩
    ·rw [if_neg c3] at h0; exact absurd h0 c3
   ·rw [if_neg c2] at h0; exact absurd h0 c2
  ·rw [if_neg c]; exact ⟨hv, Nat.le_refl _, hi⟩
theorem expr_ok {tm : Nat → RR} (ht : TOK L tm) : TOK L (exprS L tm) := by
 intro i hi h0
 unfold exprS at h0 ⊢
 by_cases c : (tm i).2.2 = 0
 ·rw [if_pos c] at h0 ⊢
  obtain ⟨t1, t2, t3⟩ := ht i hi c
  obtain ⟨a, b, d⟩ := loop_ok ht _ _ _ t1 t3 h0
  exact ⟨a, by omega, d⟩
 ·rw [if_neg c] at h0; exact absurd h0 c
theorem v0_valid : vS v0 = true := v_mk (by omega) (by omega) (by omega) (by omega) (by rw [if_neg (by omega)]; unfold sIs; rw [ByteArray.toList_eq]; rfl)
theorem term_ok (hh : vS h = true) : ∀ d, TOK L (termS L S h d) := by
 intro d
 induction d with
 | zero =>
  intro i hi h0
  unfold termS at h0 ⊢
  by_cases c : sIs (symS L i) [45] = true
  ·rw [if_pos c] at h0; cases h0
  ·by_cases c2 : sIs (symS L i) [40] = true
   ·rw [if_neg c, if_pos c2] at h0; cases h0
   ·rw [if_neg c, if_neg c2] at h0 ⊢; exact atom_ok hh i hi h0
 | succ d ih =>
  intro i hi h0
  unfold termS at h0 ⊢
  by_cases c : sIs (symS L i) [45] = true
  ·rw [if_pos c] at h0 ⊢
   obtain ⟨s1, _, _⟩ := sym_at (by simp) c
   unfold negS at h0 ⊢
   by_cases c2 : (termS L S h d (i + 1)).2.2 = 0
   ·rw [if_pos c2] at h0 ⊢
    obtain ⟨t1, t2, t3⟩ := ih (i + 1) (by omega) c2
    exact ⟨sub_valid v0_valid h0, by show i < (termS L S h d (i + 1)).2.1; omega, t3⟩
   ·rw [if_neg c2] at h0; exact absurd h0 c2
  ·rw [if_neg c] at h0 ⊢
   by_cases c2 : sIs (symS L i) [40] = true
   ·rw [if_pos c2] at h0 ⊢
    obtain ⟨s1, _, _⟩ := sym_at (by simp) c2
    unfold parS at h0 ⊢
    by_cases c3 : (exprS L (termS L S h d) (i + 1)).2.2 = 0
    ·rw [if_pos c3] at h0 ⊢
     obtain ⟨t1, t2, t3⟩ := expr_ok ih (i + 1) (by omega) c3
     by_cases c4 : sIs (symS L (exprS L (termS L S h d) (i + 1)).2.1) [41] = true
     ·rw [if_pos c4] at h0 ⊢
      obtain ⟨s2, _, _⟩ := sym_at (by simp) c4
      exact ⟨t1, by show i < (exprS L (termS L S h d) (i + 1)).2.1 + 1; omega, by show (exprS L (termS L S h d) (i + 1)).2.1 + 1 ≤ _; omega⟩
     ·rw [if_neg c4] at h0; cases h0
    ·rw [if_neg c3] at h0; exact absurd h0 c3
   ·rw [if_neg c2] at h0 ⊢; exact atom_ok hh i hi h0
end
end Go.Proofs.Ytpinoobgnnlccaa.A
namespace Go.Proofs.Ytpinoobgnnlccaa.A
open Go.RowKit Go.Proofs.YtpinoobgnnlccaaW.PrintWords Go.Proofs.YtpinoobgnnlccaaW.PrintLast Go.Proofs.YtpinoobgnnlccaaW.PrintMore
attribute [local go_sem] max2_int min2_int max_two min_two max_three min_three max_four min_four
set_option linter.unusedVariables false
set_option linter.unusedSimpArgs false
def emulatorref25_letter.f (a0 : Int) : Option (Bool) := if a0 ≥ 97 then (if a0 ≤ 122 then (some true) else (if a0 ≥ 65 then (if a0 ≤ 90 then (some true) else (if a0 = 95 then (some true) else (if a0 = 46 then (some true) else (some (a0 == 36))))) else (if a0 = 95 then (some true) else (if a0 = 46 then (some true) else (some (a0 == 36)))))) else (if a0 ≥ 65 then (if a0 ≤ 90 then (some true) else (if a0 = 95 then (some true) else (if a0 = 46 then (some true) else (some (a0 == 36))))) else (if a0 = 95 then (some true) else (if a0 = 46 then (some true) else (some (a0 == 36)))))
set_option maxHeartbeats 8000000 in
set_option maxRecDepth 100000 in
theorem emulatorref25_letter.calls (a0 : Int) (r : Bool) (w : World) (h : emulatorref25_letter.f a0 = some r) :
  Calls Try.prog 37 #[.int .u8 a0] w fun e w' => e = .returned (.bool r) ∧ Drawn0 w w' := by
 have H : (if a0 ≥ 97 then (if a0 ≤ 122 then (some true) else (if a0 ≥ 65 then (if a0 ≤ 90 then (some true) else (if a0 = 95 then (some true) else (if a0 = 46 then (some true) else (some (a0 == 36))))) else (if a0 = 95 then (some true) else (if a0 = 46 then (some true) else (some (a0 == 36)))))) else (if a0 ≥ 65 then (if a0 ≤ 90 then (some true) else (if a0 = 95 then (some true) else (if a0 = 46 then (some true) else (some (a0 == 36))))) else (if a0 = 95 then (some true) else (if a0 = 46 then (some true) else (some (a0 == 36)))))) = some r := h
 clear h
 by_cases c2 : a0 ≥ 97
 ·rw [if_pos c2] at H
  have c2b0 : decide (97 ≤ a0) = true := decide_eq_true c2
  clear c2
  by_cases c3 : a0 ≤ 122
  ·rw [if_pos c3] at H
   have c3b0 : decide (a0 ≤ 122) = true := decide_eq_true c3
   clear c3
   obtain rfl := Option.some.inj H
   go_enter Try.func37, Try.ntmps37
   go_wp2
   go_ret
   exact ⟨by first | rfl | (simp; done) | (simp [*]; done), by repeat (first | exact Drawn0.refl _ | apply Drawn0.step)⟩
  ·rw [if_neg c3] at H
   have c3b0 : decide (a0 ≤ 122) = false := decide_eq_false c3
   clear c3
   by_cases c4 : a0 ≥ 65
   ·rw [if_pos c4] at H
    have c4b0 : decide (65 ≤ a0) = true := decide_eq_true c4
    clear c4
    by_cases c5 : a0 ≤ 90
    ·rw [if_pos c5] at H
     have c5b0 : decide (a0 ≤ 90) = true := decide_eq_true c5
     clear c5
     obtain rfl := Option.some.inj H
     go_enter Try.func37, Try.ntmps37
     go_wp2
     go_ret
     exact ⟨by first | rfl | (simp; done) | (simp [*]; done), by repeat (first | exact Drawn0.refl _ | apply Drawn0.step)⟩
    ·rw [if_neg c5] at H
     have c5b0 : decide (a0 ≤ 90) = false := decide_eq_false c5
     clear c5
     by_cases c6 : a0 = 95
     ·rw [if_pos c6] at H
      have c6b0 : (a0 == 95) = true := beq_iff_eq.mpr c6
      have c6b1 : (a0 != 95) = false := bne_eq_false_iff_eq.mpr c6
      clear c6
      obtain rfl := Option.some.inj H
      go_enter Try.func37, Try.ntmps37
      go_wp2
      go_ret
      exact ⟨by first | rfl | (simp; done) | (simp [*]; done), by repeat (first | exact Drawn0.refl _ | apply Drawn0.step)⟩
     ·rw [if_neg c6] at H
      have c6b0 : (a0 == 95) = false := beq_eq_false_iff_ne.mpr c6
      have c6b1 : (a0 != 95) = true := bne_iff_ne.mpr c6
      by_cases c7 : a0 = 46
      ·rw [if_pos c7] at H
       have c7b0 : (a0 == 46) = true := beq_iff_eq.mpr c7
       have c7b1 : (a0 != 46) = false := bne_eq_false_iff_eq.mpr c7
       clear c7
       obtain rfl := Option.some.inj H
       go_enter Try.func37, Try.ntmps37
       go_wp2
       go_ret
       exact ⟨by first | rfl | (simp; done) | (simp [*]; done), by repeat (first | exact Drawn0.refl _ | apply Drawn0.step)⟩
      ·rw [if_neg c7] at H
       have c7b0 : (a0 == 46) = false := beq_eq_false_iff_ne.mpr c7
       have c7b1 : (a0 != 46) = true := bne_iff_ne.mpr c7
       obtain rfl := Option.some.inj H
       go_enter Try.func37, Try.ntmps37
       go_wp2
       go_ret
       exact ⟨by first | rfl | (simp; done) | (simp [*]; done), by repeat (first | exact Drawn0.refl _ | apply Drawn0.step)⟩
   ·rw [if_neg c4] at H
    have c4b0 : decide (65 ≤ a0) = false := decide_eq_false c4
    clear c4
    by_cases c8 : a0 = 95
    ·rw [if_pos c8] at H
     have c8b0 : (a0 == 95) = true := beq_iff_eq.mpr c8
     have c8b1 : (a0 != 95) = false := bne_eq_false_iff_eq.mpr c8
     clear c8
     obtain rfl := Option.some.inj H
     go_enter Try.func37, Try.ntmps37
     go_wp2
     go_ret
     exact ⟨by first | rfl | (simp; done) | (simp [*]; done), by repeat (first | exact Drawn0.refl _ | apply Drawn0.step)⟩
    ·rw [if_neg c8] at H
     have c8b0 : (a0 == 95) = false := beq_eq_false_iff_ne.mpr c8
     have c8b1 : (a0 != 95) = true := bne_iff_ne.mpr c8
     by_cases c9 : a0 = 46
     ·rw [if_pos c9] at H
      have c9b0 : (a0 == 46) = true := beq_iff_eq.mpr c9
      have c9b1 : (a0 != 46) = false := bne_eq_false_iff_eq.mpr c9
      clear c9
      obtain rfl := Option.some.inj H
      go_enter Try.func37, Try.ntmps37
      go_wp2
      go_ret
      exact ⟨by first | rfl | (simp; done) | (simp [*]; done), by repeat (first | exact Drawn0.refl _ | apply Drawn0.step)⟩
     ·rw [if_neg c9] at H
      have c9b0 : (a0 == 46) = false := beq_eq_false_iff_ne.mpr c9
      have c9b1 : (a0 != 46) = true := bne_iff_ne.mpr c9
      obtain rfl := Option.some.inj H
      go_enter Try.func37, Try.ntmps37
      go_wp2
      go_ret
      exact ⟨by first | rfl | (simp; done) | (simp [*]; done), by repeat (first | exact Drawn0.refl _ | apply Drawn0.step)⟩
 ·rw [if_neg c2] at H
  have c2b0 : decide (97 ≤ a0) = false := decide_eq_false c2
  clear c2
  by_cases c10 : a0 ≥ 65
  ·rw [if_pos c10] at H
   have c10b0 : decide (65 ≤ a0) = true := decide_eq_true c10
   clear c10
   by_cases c11 : a0 ≤ 90
   ·rw [if_pos c11] at H
    have c11b0 : decide (a0 ≤ 90) = true := decide_eq_true c11
    clear c11
    obtain rfl := Option.some.inj H
    go_enter Try.func37, Try.ntmps37
    go_wp2
    go_ret
    exact ⟨by first | rfl | (simp; done) | (simp [*]; done), by repeat (first | exact Drawn0.refl _ | apply Drawn0.step)⟩
   ·rw [if_neg c11] at H
    have c11b0 : decide (a0 ≤ 90) = false := decide_eq_false c11
    clear c11
    by_cases c12 : a0 = 95
    ·rw [if_pos c12] at H
     have c12b0 : (a0 == 95) = true := beq_iff_eq.mpr c12
     have c12b1 : (a0 != 95) = false := bne_eq_false_iff_eq.mpr c12
     clear c12
     obtain rfl := Option.some.inj H
     go_enter Try.func37, Try.ntmps37
     go_wp2
     go_ret
     exact ⟨by first | rfl | (simp; done) | (simp [*]; done), by repeat (first | exact Drawn0.refl _ | apply Drawn0.step)⟩
    ·rw [if_neg c12] at H
     have c12b0 : (a0 == 95) = false := beq_eq_false_iff_ne.mpr c12
     have c12b1 : (a0 != 95) = true := bne_iff_ne.mpr c12
     by_cases c13 : a0 = 46
     ·rw [if_pos c13] at H
      have c13b0 : (a0 == 46) = true := beq_iff_eq.mpr c13
      have c13b1 : (a0 != 46) = false := bne_eq_false_iff_eq.mpr c13
      clear c13
      obtain rfl := Option.some.inj H
      go_enter Try.func37, Try.ntmps37
      go_wp2
      go_ret
      exact ⟨by first | rfl | (simp; done) | (simp [*]; done), by repeat (first | exact Drawn0.refl _ | apply Drawn0.step)⟩
     ·rw [if_neg c13] at H
      have c13b0 : (a0 == 46) = false := beq_eq_false_iff_ne.mpr c13
      have c13b1 : (a0 != 46) = true := bne_iff_ne.mpr c13
      obtain rfl := Option.some.inj H
      go_enter Try.func37, Try.ntmps37
      go_wp2
      go_ret
      exact ⟨by first | rfl | (simp; done) | (simp [*]; done), by repeat (first | exact Drawn0.refl _ | apply Drawn0.step)⟩
  ·rw [if_neg c10] at H
   have c10b0 : decide (65 ≤ a0) = false := decide_eq_false c10
   clear c10
   by_cases c14 : a0 = 95
   ·rw [if_pos c14] at H
    have c14b0 : (a0 == 95) = true := beq_iff_eq.mpr c14
    have c14b1 : (a0 != 95) = false := bne_eq_false_iff_eq.mpr c14
    clear c14
    obtain rfl := Option.some.inj H
    go_enter Try.func37, Try.ntmps37
    go_wp2
    go_ret
    exact ⟨by first | rfl | (simp; done) | (simp [*]; done), by repeat (first | exact Drawn0.refl _ | apply Drawn0.step)⟩
   ·rw [if_neg c14] at H
    have c14b0 : (a0 == 95) = false := beq_eq_false_iff_ne.mpr c14
    have c14b1 : (a0 != 95) = true := bne_iff_ne.mpr c14
    by_cases c15 : a0 = 46
    ·rw [if_pos c15] at H
     have c15b0 : (a0 == 46) = true := beq_iff_eq.mpr c15
     have c15b1 : (a0 != 46) = false := bne_eq_false_iff_eq.mpr c15
     clear c15
     obtain rfl := Option.some.inj H
     go_enter Try.func37, Try.ntmps37
     go_wp2
     go_ret
     exact ⟨by first | rfl | (simp; done) | (simp [*]; done), by repeat (first | exact Drawn0.refl _ | apply Drawn0.step)⟩
    ·rw [if_neg c15] at H
     have c15b0 : (a0 == 46) = false := beq_eq_false_iff_ne.mpr c15
     have c15b1 : (a0 != 46) = true := bne_iff_ne.mpr c15
     obtain rfl := Option.some.inj H
     go_enter Try.func37, Try.ntmps37
     go_wp2
     go_ret
     exact ⟨by first | rfl | (simp; done) | (simp [*]; done), by repeat (first | exact Drawn0.refl _ | apply Drawn0.step)⟩
def emulatorref25_digit.f (a0 : Int) : Option (Bool) := if a0 ≥ 48 then (some (decide (a0 ≤ 57))) else (some false)
set_option maxHeartbeats 8000000 in
set_option maxRecDepth 100000 in
theorem emulatorref25_digit.calls (a0 : Int) (r : Bool) (w : World) (h : emulatorref25_digit.f a0 = some r) :
  Calls Try.prog 52 #[.int .u8 a0] w fun e w' => e = .returned (.bool r) ∧ Drawn0 w w' := by
 have H : (if a0 ≥ 48 then (some (decide (a0 ≤ 57))) else (some false)) = some r := h
 clear h
 by_cases c2 : a0 ≥ 48
 ·rw [if_pos c2] at H
  have c2b0 : decide (48 ≤ a0) = true := decide_eq_true c2
  clear c2
  obtain rfl := Option.some.inj H
  go_enter Try.func52, Try.ntmps52
  go_wp2
  go_ret
  exact ⟨by first | rfl | (simp; done) | (simp [*]; done), by repeat (first | exact Drawn0.refl _ | apply Drawn0.step)⟩
 ·rw [if_neg c2] at H
  have c2b0 : decide (48 ≤ a0) = false := decide_eq_false c2
  clear c2
  obtain rfl := Option.some.inj H
  go_enter Try.func52, Try.ntmps52
  go_wp2
  go_ret
  exact ⟨by first | rfl | (simp; done) | (simp [*]; done), by repeat (first | exact Drawn0.refl _ | apply Drawn0.step)⟩
end Go.Proofs.Ytpinoobgnnlccaa.A
namespace Go.Proofs.Ytpinoobgnnlccaa.A
open Go.RowKit Go.Proofs.YtpinoobgnnlccaaW.PrintWords Go.Proofs.YtpinoobgnnlccaaW.PrintLast Go.Proofs.YtpinoobgnnlccaaW.PrintMore
attribute [local go_sem] max2_int min2_int max_two min_two max_three min_three max_four min_four
set_option linter.unusedVariables false
set_option linter.unusedSimpArgs false
def emulatorref25_word.l0 : Nat → ByteArray → Int → Bool → Option (Int)
 | 0, _, _, _ => none
 | k + 1, x0, x1, x2 => if x1 < (x0.size : Int) then (if 0 ≤ x1 then ((emulatorref25_digit.f (bt x0 x1)).bind fun t125 => (if t125 = true then (emulatorref25_word.l0 k x0 (wrap64 (x1 + 1)) x2) else ((emulatorref25_letter.f (bt x0 x1)).bind fun t126 => (if t126 = true then (if x2 = true then (if (bt x0 x1) = 95 then (some x1) else (if (bt x0 x1) = 46 then (some x1) else (if (bt x0 x1) = 36 then (some x1) else (emulatorref25_word.l0 k x0 (wrap64 (x1 + 1)) x2)))) else (emulatorref25_word.l0 k x0 (wrap64 (x1 + 1)) x2)) else (some x1))))) else (none)) else (some x1)
def emulatorref25_word.f (k : Nat) (a0 : ByteArray) (a1 : Int) (a2 : Bool) : Option (Int) := emulatorref25_word.l0 k a0 a1 a2
set_option maxHeartbeats 8000000 in
set_option maxRecDepth 100000 in
theorem emulatorref25_word.calls (k : Nat) (a0 : ByteArray) (a1 : Int) (a2 : Bool) (r : Int) (w : World) (h : emulatorref25_word.f k a0 a1 a2 = some r) :
  Calls Try.prog 38 #[.string a0, .int .i64 a1, .bool a2] w fun e w' => e = .returned (.int .i64 r) ∧ Drawn0 w w' := by
 have H : (emulatorref25_word.l0 k a0 a1 a2) = some r := h
 clear h
 have H' := Aside0.mk H
 clear H
 go_enter Try.func38, Try.ntmps38
 go_wp2
 go_loopg [1] k (fun kq v1 w' => ∃ (x1_1 : Int), v1 = .int .i64 x1_1 ∧ Aside0 (emulatorref25_word.l0 kq a0 x1_1 a2 = some r) ∧ Aside0 (kq ≤ k) ∧ Drawn0 w w')
 case atStart => exact ⟨(a1), (by first | rfl | (simp; done) | (simp [*]; done)), H', ⟨Nat.le_refl _⟩, by repeat (first | exact Drawn0.refl _ | apply Drawn0.step)⟩
 case round =>
  clear H'
  try clear p2
  try clear c3
  obtain ⟨x1_1, rfl, HA, HK1, ⟨m1, rfl⟩⟩ := hrel
  cases gk with
  | zero => exact absurd HA.out (by simp [emulatorref25_word.l0])
  | succ k1 =>
   have H := HA.out
   clear HA
   simp only [emulatorref25_word.l0] at H
   by_cases c4 : x1_1 < (a0.size : Int)
   ·rw [if_pos c4] at H
    have c4b0 : decide (x1_1 < (a0.size : Int)) = true := decide_eq_true c4
    clear c4
    by_cases c5 : 0 ≤ x1_1
    ·rw [if_pos c5] at H
     have c5b0 : decide (0 ≤ x1_1) = true := decide_eq_true c5
     clear c5
     replace H := Option.bind_eq_some_iff.mp H
     obtain ⟨t125, A70, H⟩ := H
     replace H : (if t125 = true then (emulatorref25_word.l0 k1 a0 (wrap64 (x1_1 + 1)) a2) else ((emulatorref25_letter.f (bt a0 x1_1)).bind fun t126 => (if t126 = true then (if a2 = true then (if (bt a0 x1_1) = 95 then (some x1_1) else (if (bt a0 x1_1) = 46 then (some x1_1) else (if (bt a0 x1_1) = 36 then (some x1_1) else (emulatorref25_word.l0 k1 a0 (wrap64 (x1_1 + 1)) a2)))) else (emulatorref25_word.l0 k1 a0 (wrap64 (x1_1 + 1)) a2)) else (some x1_1)))) = some r := H
     have A7 := Aside0.mk A70
     clear A70
     by_cases c8 : t125 = true
     ·subst c8
      have H1 : (emulatorref25_word.l0 k1 a0 (wrap64 (x1_1 + 1)) a2) = some r := by rw [if_pos rfl] at H; exact H
      clear H
      have H := H1
      clear H1
      have H' := Aside0.mk H
      clear H
      have p6 : 0 ≤ (x1_1 : Int) := of_decide_eq_true (by first|(with_reducible assumption) | assumption)
      have q6 : x1_1 < (a0.size : Int) := of_decide_eq_true (by first|(with_reducible assumption) | assumption)
      have hx6 := bt_at a0 x1_1
      replace p6 := eq_true p6
      replace q6 := eq_true q6
      go_wp2_with (first | (go_at_call 52; (with_reducible refine (emulatorref25_digit.calls (bt a0 x1_1) true _ A7.out).mono ?_); rintro e w' ⟨rfl, ⟨nd, rfl⟩⟩))
      go_roundg k1
      case measure => have := HK1.out; omega
      case rel => exact ⟨(wrap64 (x1_1 + 1)), (by first | rfl | (simp; done) | (simp [*]; done)), H', ⟨by have := HK1.out; omega⟩, by repeat (first | exact Drawn0.refl _ | apply Drawn0.step)⟩
     ·replace c8 := Bool.eq_false_iff.mpr c8
      subst c8
      have H1 : ((emulatorref25_letter.f (bt a0 x1_1)).bind fun t126 => (if t126 = true then (if a2 = true then (if (bt a0 x1_1) = 95 then (some x1_1) else (if (bt a0 x1_1) = 46 then (some x1_1) else (if (bt a0 x1_1) = 36 then (some x1_1) else (emulatorref25_word.l0 k1 a0 (wrap64 (x1_1 + 1)) a2)))) else (emulatorref25_word.l0 k1 a0 (wrap64 (x1_1 + 1)) a2)) else (some x1_1))) = some r := by rw [if_neg (show ¬ (false = true) by decide)] at H; exact H
      clear H
      have H := H1
      clear H1
      replace H := Option.bind_eq_some_iff.mp H
      obtain ⟨t126, A100, H⟩ := H
      replace H : (if t126 = true then (if a2 = true then (if (bt a0 x1_1) = 95 then (some x1_1) else (if (bt a0 x1_1) = 46 then (some x1_1) else (if (bt a0 x1_1) = 36 then (some x1_1) else (emulatorref25_word.l0 k1 a0 (wrap64 (x1_1 + 1)) a2)))) else (emulatorref25_word.l0 k1 a0 (wrap64 (x1_1 + 1)) a2)) else (some x1_1)) = some r := H
      have A10 := Aside0.mk A100
      clear A100
      by_cases c11 : t126 = true
      ·subst c11
       have H1 : (if a2 = true then (if (bt a0 x1_1) = 95 then (some x1_1) else (if (bt a0 x1_1) = 46 then (some x1_1) else (if (bt a0 x1_1) = 36 then (some x1_1) else (emulatorref25_word.l0 k1 a0 (wrap64 (x1_1 + 1)) a2)))) else (emulatorref25_word.l0 k1 a0 (wrap64 (x1_1 + 1)) a2)) = some r := by rw [if_pos rfl] at H; exact H
       clear H
       have H := H1
       clear H1
       by_cases c12 : a2 = true
       ·subst c12
        have H1 : (if (bt a0 x1_1) = 95 then (some x1_1) else (if (bt a0 x1_1) = 46 then (some x1_1) else (if (bt a0 x1_1) = 36 then (some x1_1) else (emulatorref25_word.l0 k1 a0 (wrap64 (x1_1 + 1)) true)))) = some r := by rw [if_pos rfl] at H; exact H
        clear H
        have H := H1
        clear H1
        by_cases c14 : (bt a0 x1_1) = 95
        ·rw [if_pos c14] at H
         have c14b0 : ((bt a0 x1_1) == 95) = true := beq_iff_eq.mpr c14
         have c14b1 : ((bt a0 x1_1) != 95) = false := bne_eq_false_iff_eq.mpr c14
         clear c14
         obtain rfl := Option.some.inj H
         have p6 : 0 ≤ (x1_1 : Int) := of_decide_eq_true (by first|(with_reducible assumption) | assumption)
         have q6 : x1_1 < (a0.size : Int) := of_decide_eq_true (by first|(with_reducible assumption) | assumption)
         have hx6 := bt_at a0 x1_1
         replace p6 := eq_true p6
         replace q6 := eq_true q6
         go_wp2_with (first | (go_at_call 52; (with_reducible refine (emulatorref25_digit.calls (bt a0 x1_1) false _ A7.out).mono ?_); rintro e w' ⟨rfl, ⟨nd, rfl⟩⟩; have p9 : 0 ≤ (x1_1 : Int) := of_decide_eq_true (by first|(with_reducible assumption) | assumption); have q9 : x1_1 < (a0.size : Int) := of_decide_eq_true (by first|(with_reducible assumption) | assumption); have hx9 := bt_at a0 x1_1; replace p9 := eq_true p9; replace q9 := eq_true q9) | (go_at_call 37; (with_reducible refine (emulatorref25_letter.calls (bt a0 x1_1) true _ A10.out).mono ?_); rintro e w' ⟨rfl, ⟨nd, rfl⟩⟩; have p13 : 0 ≤ (x1_1 : Int) := of_decide_eq_true (by first|(with_reducible assumption) | assumption); have q13 : x1_1 < (a0.size : Int) := of_decide_eq_true (by first|(with_reducible assumption) | assumption); have hx13 := bt_at a0 x1_1; replace p13 := eq_true p13; replace q13 := eq_true q13))
         go_ret
         exact ⟨by first | rfl | (simp; done) | (simp [*]; done), by repeat (first | exact Drawn0.refl _ | apply Drawn0.step)⟩
        ·rw [if_neg c14] at H
         have c14b0 : ((bt a0 x1_1) == 95) = false := beq_eq_false_iff_ne.mpr c14
         have c14b1 : ((bt a0 x1_1) != 95) = true := bne_iff_ne.mpr c14
         by_cases c16 : (bt a0 x1_1) = 46
         ·rw [if_pos c16] at H
          have c16b0 : ((bt a0 x1_1) == 46) = true := beq_iff_eq.mpr c16
          have c16b1 : ((bt a0 x1_1) != 46) = false := bne_eq_false_iff_eq.mpr c16
          clear c16
          obtain rfl := Option.some.inj H
          have p6 : 0 ≤ (x1_1 : Int) := of_decide_eq_true (by first|(with_reducible assumption) | assumption)
          have q6 : x1_1 < (a0.size : Int) := of_decide_eq_true (by first|(with_reducible assumption) | assumption)
          have hx6 := bt_at a0 x1_1
          replace p6 := eq_true p6
          replace q6 := eq_true q6
          go_wp2_with (first | (go_at_call 52; (with_reducible refine (emulatorref25_digit.calls (bt a0 x1_1) false _ A7.out).mono ?_); rintro e w' ⟨rfl, ⟨nd, rfl⟩⟩; have p9 : 0 ≤ (x1_1 : Int) := of_decide_eq_true (by first|(with_reducible assumption) | assumption); have q9 : x1_1 < (a0.size : Int) := of_decide_eq_true (by first|(with_reducible assumption) | assumption); have hx9 := bt_at a0 x1_1; replace p9 := eq_true p9; replace q9 := eq_true q9) | (go_at_call 37; (with_reducible refine (emulatorref25_letter.calls (bt a0 x1_1) true _ A10.out).mono ?_); rintro e w' ⟨rfl, ⟨nd, rfl⟩⟩; have p13 : 0 ≤ (x1_1 : Int) := of_decide_eq_true (by first|(with_reducible assumption) | assumption); have q13 : x1_1 < (a0.size : Int) := of_decide_eq_true (by first|(with_reducible assumption) | assumption); have hx13 := bt_at a0 x1_1; replace p13 := eq_true p13; replace q13 := eq_true q13; have p15 : 0 ≤ (x1_1 : Int) := of_decide_eq_true (by first|(with_reducible assumption) | assumption); have q15 : x1_1 < (a0.size : Int) := of_decide_eq_true (by first|(with_reducible assumption) | assumption); have hx15 := bt_at a0 x1_1; replace p15 := eq_true p15; replace q15 := eq_true q15))
          go_ret
          exact ⟨by first | rfl | (simp; done) | (simp [*]; done), by repeat (first | exact Drawn0.refl _ | apply Drawn0.step)⟩
         ·rw [if_neg c16] at H
          have c16b0 : ((bt a0 x1_1) == 46) = false := beq_eq_false_iff_ne.mpr c16
          have c16b1 : ((bt a0 x1_1) != 46) = true := bne_iff_ne.mpr c16
          by_cases c18 : (bt a0 x1_1) = 36
          ·rw [if_pos c18] at H
           have c18b0 : ((bt a0 x1_1) == 36) = true := beq_iff_eq.mpr c18
           have c18b1 : ((bt a0 x1_1) != 36) = false := bne_eq_false_iff_eq.mpr c18
           clear c18
           obtain rfl := Option.some.inj H
           have p6 : 0 ≤ (x1_1 : Int) := of_decide_eq_true (by first|(with_reducible assumption) | assumption)
           have q6 : x1_1 < (a0.size : Int) := of_decide_eq_true (by first|(with_reducible assumption) | assumption)
           have hx6 := bt_at a0 x1_1
           replace p6 := eq_true p6
           replace q6 := eq_true q6
           go_wp2_with (first | (go_at_call 52; (with_reducible refine (emulatorref25_digit.calls (bt a0 x1_1) false _ A7.out).mono ?_); rintro e w' ⟨rfl, ⟨nd, rfl⟩⟩; have p9 : 0 ≤ (x1_1 : Int) := of_decide_eq_true (by first|(with_reducible assumption) | assumption); have q9 : x1_1 < (a0.size : Int) := of_decide_eq_true (by first|(with_reducible assumption) | assumption); have hx9 := bt_at a0 x1_1; replace p9 := eq_true p9; replace q9 := eq_true q9) | (go_at_call 37; (with_reducible refine (emulatorref25_letter.calls (bt a0 x1_1) true _ A10.out).mono ?_); rintro e w' ⟨rfl, ⟨nd, rfl⟩⟩; have p13 : 0 ≤ (x1_1 : Int) := of_decide_eq_true (by first|(with_reducible assumption) | assumption); have q13 : x1_1 < (a0.size : Int) := of_decide_eq_true (by first|(with_reducible assumption) | assumption); have hx13 := bt_at a0 x1_1; replace p13 := eq_true p13; replace q13 := eq_true q13; have p15 : 0 ≤ (x1_1 : Int) := of_decide_eq_true (by first|(with_reducible assumption) | assumption); have q15 : x1_1 < (a0.size : Int) := of_decide_eq_true (by first|(with_reducible assumption) | assumption); have hx15 := bt_at a0 x1_1; replace p15 := eq_true p15; replace q15 := eq_true q15; have p17 : 0 ≤ (x1_1 : Int) := of_decide_eq_true (by first|(with_reducible assumption) | assumption); have q17 : x1_1 < (a0.size : Int) := of_decide_eq_true (by first|(with_reducible assumption) | assumption); have hx17 := bt_at a0 x1_1; replace p17 := eq_true p17; replace q17 := eq_true q17))
           go_ret
           exact ⟨by first | rfl | (simp; done) | (simp [*]; done), by repeat (first | exact Drawn0.refl _ | apply Drawn0.step)⟩
          ·rw [if_neg c18] at H
           have c18b0 : ((bt a0 x1_1) == 36) = false := beq_eq_false_iff_ne.mpr c18
           have c18b1 : ((bt a0 x1_1) != 36) = true := bne_iff_ne.mpr c18
           have H' := Aside0.mk H
           clear H
           have p6 : 0 ≤ (x1_1 : Int) := of_decide_eq_true (by first|(with_reducible assumption) | assumption)
           have q6 : x1_1 < (a0.size : Int) := of_decide_eq_true (by first|(with_reducible assumption) | assumption)
           have hx6 := bt_at a0 x1_1
           replace p6 := eq_true p6
           replace q6 := eq_true q6
           go_wp2_with (first | (go_at_call 52; (with_reducible refine (emulatorref25_digit.calls (bt a0 x1_1) false _ A7.out).mono ?_); rintro e w' ⟨rfl, ⟨nd, rfl⟩⟩; have p9 : 0 ≤ (x1_1 : Int) := of_decide_eq_true (by first|(with_reducible assumption) | assumption); have q9 : x1_1 < (a0.size : Int) := of_decide_eq_true (by first|(with_reducible assumption) | assumption); have hx9 := bt_at a0 x1_1; replace p9 := eq_true p9; replace q9 := eq_true q9) | (go_at_call 37; (with_reducible refine (emulatorref25_letter.calls (bt a0 x1_1) true _ A10.out).mono ?_); rintro e w' ⟨rfl, ⟨nd, rfl⟩⟩; have p13 : 0 ≤ (x1_1 : Int) := of_decide_eq_true (by first|(with_reducible assumption) | assumption); have q13 : x1_1 < (a0.size : Int) := of_decide_eq_true (by first|(with_reducible assumption) | assumption); have hx13 := bt_at a0 x1_1; replace p13 := eq_true p13; replace q13 := eq_true q13; have p15 : 0 ≤ (x1_1 : Int) := of_decide_eq_true (by first|(with_reducible assumption) | assumption); have q15 : x1_1 < (a0.size : Int) := of_decide_eq_true (by first|(with_reducible assumption) | assumption); have hx15 := bt_at a0 x1_1; replace p15 := eq_true p15; replace q15 := eq_true q15; have p17 : 0 ≤ (x1_1 : Int) := of_decide_eq_true (by first|(with_reducible assumption) | assumption); have q17 : x1_1 < (a0.size : Int) := of_decide_eq_true (by first|(with_reducible assumption) | assumption); have hx17 := bt_at a0 x1_1; replace p17 := eq_true p17; replace q17 := eq_true q17))
           go_roundg k1
           case measure => have := HK1.out; omega
           case rel => exact ⟨(wrap64 (x1_1 + 1)), (by first | rfl | (simp; done) | (simp [*]; done)), H', ⟨by have := HK1.out; omega⟩, by repeat (first | exact Drawn0.refl _ | apply Drawn0.step)⟩
       ·replace c12 := Bool.eq_false_iff.mpr c12
        subst c12
        have H1 : (emulatorref25_word.l0 k1 a0 (wrap64 (x1_1 + 1)) false) = some r := by rw [if_neg (show ¬ (false = true) by decide)] at H; exact H
        clear H
        have H := H1
        clear H1
        have H' := Aside0.mk H
        clear H
        have p6 : 0 ≤ (x1_1 : Int) := of_decide_eq_true (by first|(with_reducible assumption) | assumption)
        have q6 : x1_1 < (a0.size : Int) := of_decide_eq_true (by first|(with_reducible assumption) | assumption)
        have hx6 := bt_at a0 x1_1
        replace p6 := eq_true p6
        replace q6 := eq_true q6
        go_wp2_with (first | (go_at_call 52; (with_reducible refine (emulatorref25_digit.calls (bt a0 x1_1) false _ A7.out).mono ?_); rintro e w' ⟨rfl, ⟨nd, rfl⟩⟩; have p9 : 0 ≤ (x1_1 : Int) := of_decide_eq_true (by first|(with_reducible assumption) | assumption); have q9 : x1_1 < (a0.size : Int) := of_decide_eq_true (by first|(with_reducible assumption) | assumption); have hx9 := bt_at a0 x1_1; replace p9 := eq_true p9; replace q9 := eq_true q9) | (go_at_call 37; (with_reducible refine (emulatorref25_letter.calls (bt a0 x1_1) true _ A10.out).mono ?_); rintro e w' ⟨rfl, ⟨nd, rfl⟩⟩))
        go_roundg k1
        case measure => have := HK1.out; omega
        case rel => exact ⟨(wrap64 (x1_1 + 1)), (by first | rfl | (simp; done) | (simp [*]; done)), H', ⟨by have := HK1.out; omega⟩, by repeat (first | exact Drawn0.refl _ | apply Drawn0.step)⟩
      ·replace c11 := Bool.eq_false_iff.mpr c11
       subst c11
       have H1 : (some x1_1) = some r := by rw [if_neg (show ¬ (false = true) by decide)] at H; exact H
       clear H
       have H := H1
       clear H1
       obtain rfl := Option.some.inj H
       have p6 : 0 ≤ (x1_1 : Int) := of_decide_eq_true (by first|(with_reducible assumption) | assumption)
       have q6 : x1_1 < (a0.size : Int) := of_decide_eq_true (by first|(with_reducible assumption) | assumption)
       have hx6 := bt_at a0 x1_1
       replace p6 := eq_true p6
       replace q6 := eq_true q6
       go_wp2_with (first | (go_at_call 52; (with_reducible refine (emulatorref25_digit.calls (bt a0 x1_1) false _ A7.out).mono ?_); rintro e w' ⟨rfl, ⟨nd, rfl⟩⟩; have p9 : 0 ≤ (x1_1 : Int) := of_decide_eq_true (by first|(with_reducible assumption) | assumption); have q9 : x1_1 < (a0.size : Int) := of_decide_eq_true (by first|(with_reducible assumption) | assumption); have hx9 := bt_at a0 x1_1; replace p9 := eq_true p9; replace q9 := eq_true q9) | (go_at_call 37; (with_reducible refine (emulatorref25_letter.calls (bt a0 x1_1) false _ A10.out).mono ?_); rintro e w' ⟨rfl, ⟨nd, rfl⟩⟩))
       go_ret
       exact ⟨by first | rfl | (simp; done) | (simp [*]; done), by repeat (first | exact Drawn0.refl _ | apply Drawn0.step)⟩
    ·rw [if_neg c5] at H
     exact absurd H (by simp)
   ·rw [if_neg c4] at H
    have c4b0 : decide (x1_1 < (a0.size : Int)) = false := decide_eq_false c4
    clear c4
    obtain rfl := Option.some.inj H
    go_wp2
    go_ret
    exact ⟨by first | rfl | (simp; done) | (simp [*]; done), by repeat (first | exact Drawn0.refl _ | apply Drawn0.step)⟩
end Go.Proofs.Ytpinoobgnnlccaa.A
namespace Go.Proofs.Ytpinoobgnnlccaa.A
open Go.RowKit Go.Proofs.YtpinoobgnnlccaaW.PrintWords Go.Proofs.YtpinoobgnnlccaaW.PrintLast Go.Proofs.YtpinoobgnnlccaaW.PrintMore
attribute [local go_sem] max2_int min2_int max_two min_two max_three min_three max_four min_four
set_option linter.unusedVariables false
set_option linter.unusedSimpArgs false
def emulatorref25_Name.f (k : Nat) (a0 : ByteArray) : Option (Bool) := if a0.toList = ([] : List UInt8) then (some false) else (if (a0.size : Int) > 14 then (some false) else (if 0 < (a0.size : Int) then ((emulatorref25_letter.f (bt a0 0)).bind fun t127 => (if t127 = true then ((emulatorref25_word.f k a0 0 false).bind fun t128 => (if t128 = (a0.size : Int) then (if a0.toList = ([115, 112] : List UInt8) then (some false) else (if a0.toList = ([112, 99] : List UInt8) then (some false) else (if (a0.size : Int) = 2 then (if (bt a0 0) = 114 then (if 1 < (a0.size : Int) then (if (bt a0 1) ≥ 48 then (some (!(decide ((bt a0 1) ≤ 53)))) else (some (!false))) else (none)) else (some (!false))) else (some (!false))))) else (some false))) else (some false))) else (none)))
set_option maxHeartbeats 8000000 in
set_option maxRecDepth 100000 in
theorem emulatorref25_Name.calls (k : Nat) (a0 : ByteArray) (r : Bool) (w : World) (h : emulatorref25_Name.f k a0 = some r) :
  Calls Try.prog 29 #[.string a0] w fun e w' => e = .returned (.bool r) ∧ Drawn0 w w' := by
 have H : (if a0.toList = ([] : List UInt8) then (some false) else (if (a0.size : Int) > 14 then (some false) else (if 0 < (a0.size : Int) then ((emulatorref25_letter.f (bt a0 0)).bind fun t127 => (if t127 = true then ((emulatorref25_word.f k a0 0 false).bind fun t128 => (if t128 = (a0.size : Int) then (if a0.toList = ([115, 112] : List UInt8) then (some false) else (if a0.toList = ([112, 99] : List UInt8) then (some false) else (if (a0.size : Int) = 2 then (if (bt a0 0) = 114 then (if 1 < (a0.size : Int) then (if (bt a0 1) ≥ 48 then (some (!(decide ((bt a0 1) ≤ 53)))) else (some (!false))) else (none)) else (some (!false))) else (some (!false))))) else (some false))) else (some false))) else (none)))) = some r := h
 clear h
 by_cases c2 : a0.toList = ([] : List UInt8)
 ·rw [if_pos c2] at H
  have c2b0 : (a0.toList == ([] : List UInt8)) = true := beq_iff_eq.mpr c2
  have c2b1 : (a0.toList != ([] : List UInt8)) = false := bne_eq_false_iff_eq.mpr c2
  clear c2
  obtain rfl := Option.some.inj H
  go_enter Try.func29, Try.ntmps29
  go_wp2
  go_ret
  exact ⟨by first | rfl | (simp; done) | (simp [*]; done), by repeat (first | exact Drawn0.refl _ | apply Drawn0.step)⟩
 ·rw [if_neg c2] at H
  have c2b0 : (a0.toList == ([] : List UInt8)) = false := beq_eq_false_iff_ne.mpr c2
  have c2b1 : (a0.toList != ([] : List UInt8)) = true := bne_iff_ne.mpr c2
  by_cases c3 : (a0.size : Int) > 14
  ·rw [if_pos c3] at H
   have c3b0 : decide (14 < (a0.size : Int)) = true := decide_eq_true c3
   have c3b1 : decide (14 < a0.size) = true := decide_eq_true (by omega)
   clear c3
   obtain rfl := Option.some.inj H
   go_enter Try.func29, Try.ntmps29
   go_wp2
   go_ret
   exact ⟨by first | rfl | (simp; done) | (simp [*]; done), by repeat (first | exact Drawn0.refl _ | apply Drawn0.step)⟩
  ·rw [if_neg c3] at H
   have c3b0 : decide (14 < (a0.size : Int)) = false := decide_eq_false c3
   have c3b1 : decide (14 < a0.size) = false := decide_eq_false (by omega)
   clear c3
   by_cases c4 : 0 < (a0.size : Int)
   ·rw [if_pos c4] at H
    have c4b0 : decide (0 < (a0.size : Int)) = true := decide_eq_true c4
    have c4b1 : decide (0 < a0.size) = true := decide_eq_true (by omega)
    clear c4
    replace H := Option.bind_eq_some_iff.mp H
    obtain ⟨t127, A60, H⟩ := H
    replace H : (if t127 = true then ((emulatorref25_word.f k a0 0 false).bind fun t128 => (if t128 = (a0.size : Int) then (if a0.toList = ([115, 112] : List UInt8) then (some false) else (if a0.toList = ([112, 99] : List UInt8) then (some false) else (if (a0.size : Int) = 2 then (if (bt a0 0) = 114 then (if 1 < (a0.size : Int) then (if (bt a0 1) ≥ 48 then (some (!(decide ((bt a0 1) ≤ 53)))) else (some (!false))) else (none)) else (some (!false))) else (some (!false))))) else (some false))) else (some false)) = some r := H
    have A6 := Aside0.mk A60
    clear A60
    by_cases c7 : t127 = true
    ·subst c7
     have H1 : ((emulatorref25_word.f k a0 0 false).bind fun t128 => (if t128 = (a0.size : Int) then (if a0.toList = ([115, 112] : List UInt8) then (some false) else (if a0.toList = ([112, 99] : List UInt8) then (some false) else (if (a0.size : Int) = 2 then (if (bt a0 0) = 114 then (if 1 < (a0.size : Int) then (if (bt a0 1) ≥ 48 then (some (!(decide ((bt a0 1) ≤ 53)))) else (some (!false))) else (none)) else (some (!false))) else (some (!false))))) else (some false))) = some r := by rw [if_pos rfl] at H; exact H
     clear H
     have H := H1
     clear H1
     replace H := Option.bind_eq_some_iff.mp H
     obtain ⟨t128, A80, H⟩ := H
     replace H : (if t128 = (a0.size : Int) then (if a0.toList = ([115, 112] : List UInt8) then (some false) else (if a0.toList = ([112, 99] : List UInt8) then (some false) else (if (a0.size : Int) = 2 then (if (bt a0 0) = 114 then (if 1 < (a0.size : Int) then (if (bt a0 1) ≥ 48 then (some (!(decide ((bt a0 1) ≤ 53)))) else (some (!false))) else (none)) else (some (!false))) else (some (!false))))) else (some false)) = some r := H
     have A8 := Aside0.mk A80
     clear A80
     by_cases c9 : t128 = (a0.size : Int)
     ·rw [if_pos c9] at H
      have c9b0 : (t128 == (a0.size : Int)) = true := beq_iff_eq.mpr c9
      have c9b1 : (t128 != (a0.size : Int)) = false := bne_eq_false_iff_eq.mpr c9
      clear c9
      by_cases c10 : a0.toList = ([115, 112] : List UInt8)
      ·rw [if_pos c10] at H
       have c10b0 : (a0.toList == ([115, 112] : List UInt8)) = true := beq_iff_eq.mpr c10
       have c10b1 : (a0.toList != ([115, 112] : List UInt8)) = false := bne_eq_false_iff_eq.mpr c10
       clear c10
       obtain rfl := Option.some.inj H
       have p5 : 0 ≤ (0 : Int) := (by omega)
       have q5 : 0 < a0.size := (by have : (0 : Int) < (a0.size : Int) := of_decide_eq_true (by first|(with_reducible assumption) | assumption); omega)
       have hx5 : ∀ h : 0 < a0.size, ((a0[0]'h).toNat : Int) = bt a0 0 := bt_at a0 0
       clear p5
       have qi5 : (0 < (a0.size : Int)) = True := eq_true (of_decide_eq_true (by first|(with_reducible assumption) | assumption))
       replace q5 := eq_true q5
       go_enter Try.func29, Try.ntmps29
       go_wp2_with (first | (go_at_call 37; (with_reducible refine (emulatorref25_letter.calls (bt a0 0) true _ A6.out).mono ?_); rintro e w' ⟨rfl, ⟨nd, rfl⟩⟩) | (go_at_call 38; (with_reducible refine (emulatorref25_word.calls k a0 0 false t128 _ A8.out).mono ?_); rintro e w' ⟨rfl, ⟨nd, rfl⟩⟩))
       go_ret
       exact ⟨by first | rfl | (simp; done) | (simp [*]; done), by repeat (first | exact Drawn0.refl _ | apply Drawn0.step)⟩
      ·rw [if_neg c10] at H
       have c10b0 : (a0.toList == ([115, 112] : List UInt8)) = false := beq_eq_false_iff_ne.mpr c10
       have c10b1 : (a0.toList != ([115, 112] : List UInt8)) = true := bne_iff_ne.mpr c10
       by_cases c11 : a0.toList = ([112, 99] : List UInt8)
       ·rw [if_pos c11] at H
        have c11b0 : (a0.toList == ([112, 99] : List UInt8)) = true := beq_iff_eq.mpr c11
        have c11b1 : (a0.toList != ([112, 99] : List UInt8)) = false := bne_eq_false_iff_eq.mpr c11
        clear c11
        obtain rfl := Option.some.inj H
        have p5 : 0 ≤ (0 : Int) := (by omega)
        have q5 : 0 < a0.size := (by have : (0 : Int) < (a0.size : Int) := of_decide_eq_true (by first|(with_reducible assumption) | assumption); omega)
        have hx5 : ∀ h : 0 < a0.size, ((a0[0]'h).toNat : Int) = bt a0 0 := bt_at a0 0
        clear p5
        have qi5 : (0 < (a0.size : Int)) = True := eq_true (of_decide_eq_true (by first|(with_reducible assumption) | assumption))
        replace q5 := eq_true q5
        go_enter Try.func29, Try.ntmps29
        go_wp2_with (first | (go_at_call 37; (with_reducible refine (emulatorref25_letter.calls (bt a0 0) true _ A6.out).mono ?_); rintro e w' ⟨rfl, ⟨nd, rfl⟩⟩) | (go_at_call 38; (with_reducible refine (emulatorref25_word.calls k a0 0 false t128 _ A8.out).mono ?_); rintro e w' ⟨rfl, ⟨nd, rfl⟩⟩))
        go_ret
        exact ⟨by first | rfl | (simp; done) | (simp [*]; done), by repeat (first | exact Drawn0.refl _ | apply Drawn0.step)⟩
       ·rw [if_neg c11] at H
        have c11b0 : (a0.toList == ([112, 99] : List UInt8)) = false := beq_eq_false_iff_ne.mpr c11
        have c11b1 : (a0.toList != ([112, 99] : List UInt8)) = true := bne_iff_ne.mpr c11
        by_cases c12 : (a0.size : Int) = 2
        ·rw [if_pos c12] at H
         have c12b0 : ((a0.size : Int) == 2) = true := beq_iff_eq.mpr c12
         have c12b1 : ((a0.size : Int) != 2) = false := bne_eq_false_iff_eq.mpr c12
         clear c12
         by_cases c14 : (bt a0 0) = 114
         ·rw [if_pos c14] at H
          have c14b0 : ((bt a0 0) == 114) = true := beq_iff_eq.mpr c14
          have c14b1 : ((bt a0 0) != 114) = false := bne_eq_false_iff_eq.mpr c14
          clear c14
          by_cases c15 : 1 < (a0.size : Int)
          ·rw [if_pos c15] at H
           have c15b0 : decide (1 < (a0.size : Int)) = true := decide_eq_true c15
           have c15b1 : decide (1 < a0.size) = true := decide_eq_true (by omega)
           clear c15
           by_cases c17 : (bt a0 1) ≥ 48
           ·rw [if_pos c17] at H
            have c17b0 : decide (48 ≤ (bt a0 1)) = true := decide_eq_true c17
            clear c17
            obtain rfl := Option.some.inj H
            have p5 : 0 ≤ (0 : Int) := (by omega)
            have q5 : 0 < a0.size := (by have : (0 : Int) < (a0.size : Int) := of_decide_eq_true (by first|(with_reducible assumption) | assumption); omega)
            have hx5 : ∀ h : 0 < a0.size, ((a0[0]'h).toNat : Int) = bt a0 0 := bt_at a0 0
            clear p5
            have qi5 : (0 < (a0.size : Int)) = True := eq_true (of_decide_eq_true (by first|(with_reducible assumption) | assumption))
            replace q5 := eq_true q5
            go_enter Try.func29, Try.ntmps29
            go_wp2_with (first | (go_at_call 37; (with_reducible refine (emulatorref25_letter.calls (bt a0 0) true _ A6.out).mono ?_); rintro e w' ⟨rfl, ⟨nd, rfl⟩⟩) | (go_at_call 38; (with_reducible refine (emulatorref25_word.calls k a0 0 false t128 _ A8.out).mono ?_); rintro e w' ⟨rfl, ⟨nd, rfl⟩⟩; have p13 : 0 ≤ (0 : Int) := (by omega); have q13 : 0 < a0.size := (by have : (0 : Int) < (a0.size : Int) := of_decide_eq_true (by first|(with_reducible assumption) | assumption); omega); have hx13 : ∀ h : 0 < a0.size, ((a0[0]'h).toNat : Int) = bt a0 0 := bt_at a0 0; clear p13; have qi13 : (0 < (a0.size : Int)) = True := eq_true (of_decide_eq_true (by first|(with_reducible assumption) | assumption)); replace q13 := eq_true q13; have p16 : 0 ≤ (1 : Int) := (by omega); have q16 : 1 < a0.size := (by have : (1 : Int) < (a0.size : Int) := of_decide_eq_true (by first|(with_reducible assumption) | assumption); omega); have hx16 : ∀ h : 1 < a0.size, ((a0[1]'h).toNat : Int) = bt a0 1 := bt_at a0 1; clear p16; have qi16 : (1 < (a0.size : Int)) = True := eq_true (of_decide_eq_true (by first|(with_reducible assumption) | assumption)); replace q16 := eq_true q16; have p18 : 0 ≤ (1 : Int) := (by omega); have q18 : 1 < a0.size := (by have : (1 : Int) < (a0.size : Int) := of_decide_eq_true (by first|(with_reducible assumption) | assumption); omega); have hx18 : ∀ h : 1 < a0.size, ((a0[1]'h).toNat : Int) = bt a0 1 := bt_at a0 1; clear p18; have qi18 : (1 < (a0.size : Int)) = True := eq_true (of_decide_eq_true (by first|(with_reducible assumption) | assumption)); replace q18 := eq_true q18))
            go_ret
            exact ⟨by first | rfl | (simp; done) | (simp [*]; done), by repeat (first | exact Drawn0.refl _ | apply Drawn0.step)⟩
           ·rw [if_neg c17] at H
            have c17b0 : decide (48 ≤ (bt a0 1)) = false := decide_eq_false c17
            clear c17
            obtain rfl := Option.some.inj H
            have p5 : 0 ≤ (0 : Int) := (by omega)
            have q5 : 0 < a0.size := (by have : (0 : Int) < (a0.size : Int) := of_decide_eq_true (by first|(with_reducible assumption) | assumption); omega)
            have hx5 : ∀ h : 0 < a0.size, ((a0[0]'h).toNat : Int) = bt a0 0 := bt_at a0 0
            clear p5
            have qi5 : (0 < (a0.size : Int)) = True := eq_true (of_decide_eq_true (by first|(with_reducible assumption) | assumption))
            replace q5 := eq_true q5
            go_enter Try.func29, Try.ntmps29
            go_wp2_with (first | (go_at_call 37; (with_reducible refine (emulatorref25_letter.calls (bt a0 0) true _ A6.out).mono ?_); rintro e w' ⟨rfl, ⟨nd, rfl⟩⟩) | (go_at_call 38; (with_reducible refine (emulatorref25_word.calls k a0 0 false t128 _ A8.out).mono ?_); rintro e w' ⟨rfl, ⟨nd, rfl⟩⟩; have p13 : 0 ≤ (0 : Int) := (by omega); have q13 : 0 < a0.size := (by have : (0 : Int) < (a0.size : Int) := of_decide_eq_true (by first|(with_reducible assumption) | assumption); omega); have hx13 : ∀ h : 0 < a0.size, ((a0[0]'h).toNat : Int) = bt a0 0 := bt_at a0 0; clear p13; have qi13 : (0 < (a0.size : Int)) = True := eq_true (of_decide_eq_true (by first|(with_reducible assumption) | assumption)); replace q13 := eq_true q13; have p16 : 0 ≤ (1 : Int) := (by omega); have q16 : 1 < a0.size := (by have : (1 : Int) < (a0.size : Int) := of_decide_eq_true (by first|(with_reducible assumption) | assumption); omega); have hx16 : ∀ h : 1 < a0.size, ((a0[1]'h).toNat : Int) = bt a0 1 := bt_at a0 1; clear p16; have qi16 : (1 < (a0.size : Int)) = True := eq_true (of_decide_eq_true (by first|(with_reducible assumption) | assumption)); replace q16 := eq_true q16))
            go_ret
            exact ⟨by first | rfl | (simp; done) | (simp [*]; done), by repeat (first | exact Drawn0.refl _ | apply Drawn0.step)⟩
          ·rw [if_neg c15] at H
           exact absurd H (by simp)
         ·rw [if_neg c14] at H
          have c14b0 : ((bt a0 0) == 114) = false := beq_eq_false_iff_ne.mpr c14
          have c14b1 : ((bt a0 0) != 114) = true := bne_iff_ne.mpr c14
          obtain rfl := Option.some.inj H
          have p5 : 0 ≤ (0 : Int) := (by omega)
          have q5 : 0 < a0.size := (by have : (0 : Int) < (a0.size : Int) := of_decide_eq_true (by first|(with_reducible assumption) | assumption); omega)
          have hx5 : ∀ h : 0 < a0.size, ((a0[0]'h).toNat : Int) = bt a0 0 := bt_at a0 0
          clear p5
          have qi5 : (0 < (a0.size : Int)) = True := eq_true (of_decide_eq_true (by first|(with_reducible assumption) | assumption))
          replace q5 := eq_true q5
          go_enter Try.func29, Try.ntmps29
          go_wp2_with (first | (go_at_call 37; (with_reducible refine (emulatorref25_letter.calls (bt a0 0) true _ A6.out).mono ?_); rintro e w' ⟨rfl, ⟨nd, rfl⟩⟩) | (go_at_call 38; (with_reducible refine (emulatorref25_word.calls k a0 0 false t128 _ A8.out).mono ?_); rintro e w' ⟨rfl, ⟨nd, rfl⟩⟩; have p13 : 0 ≤ (0 : Int) := (by omega); have q13 : 0 < a0.size := (by have : (0 : Int) < (a0.size : Int) := of_decide_eq_true (by first|(with_reducible assumption) | assumption); omega); have hx13 : ∀ h : 0 < a0.size, ((a0[0]'h).toNat : Int) = bt a0 0 := bt_at a0 0; clear p13; have qi13 : (0 < (a0.size : Int)) = True := eq_true (of_decide_eq_true (by first|(with_reducible assumption) | assumption)); replace q13 := eq_true q13))
          go_ret
          exact ⟨by first | rfl | (simp; done) | (simp [*]; done), by repeat (first | exact Drawn0.refl _ | apply Drawn0.step)⟩
        ·rw [if_neg c12] at H
         have c12b0 : ((a0.size : Int) == 2) = false := beq_eq_false_iff_ne.mpr c12
         have c12b1 : ((a0.size : Int) != 2) = true := bne_iff_ne.mpr c12
         obtain rfl := Option.some.inj H
         have p5 : 0 ≤ (0 : Int) := (by omega)
         have q5 : 0 < a0.size := (by have : (0 : Int) < (a0.size : Int) := of_decide_eq_true (by first|(with_reducible assumption) | assumption); omega)
         have hx5 : ∀ h : 0 < a0.size, ((a0[0]'h).toNat : Int) = bt a0 0 := bt_at a0 0
         clear p5
         have qi5 : (0 < (a0.size : Int)) = True := eq_true (of_decide_eq_true (by first|(with_reducible assumption) | assumption))
         replace q5 := eq_true q5
         go_enter Try.func29, Try.ntmps29
         go_wp2_with (first | (go_at_call 37; (with_reducible refine (emulatorref25_letter.calls (bt a0 0) true _ A6.out).mono ?_); rintro e w' ⟨rfl, ⟨nd, rfl⟩⟩) | (go_at_call 38; (with_reducible refine (emulatorref25_word.calls k a0 0 false t128 _ A8.out).mono ?_); rintro e w' ⟨rfl, ⟨nd, rfl⟩⟩))
         go_ret
         exact ⟨by first | rfl | (simp; done) | (simp [*]; done), by repeat (first | exact Drawn0.refl _ | apply Drawn0.step)⟩
     ·rw [if_neg c9] at H
      have c9b0 : (t128 == (a0.size : Int)) = false := beq_eq_false_iff_ne.mpr c9
      have c9b1 : (t128 != (a0.size : Int)) = true := bne_iff_ne.mpr c9
      obtain rfl := Option.some.inj H
      have p5 : 0 ≤ (0 : Int) := (by omega)
      have q5 : 0 < a0.size := (by have : (0 : Int) < (a0.size : Int) := of_decide_eq_true (by first|(with_reducible assumption) | assumption); omega)
      have hx5 : ∀ h : 0 < a0.size, ((a0[0]'h).toNat : Int) = bt a0 0 := bt_at a0 0
      clear p5
      have qi5 : (0 < (a0.size : Int)) = True := eq_true (of_decide_eq_true (by first|(with_reducible assumption) | assumption))
      replace q5 := eq_true q5
      go_enter Try.func29, Try.ntmps29
      go_wp2_with (first | (go_at_call 37; (with_reducible refine (emulatorref25_letter.calls (bt a0 0) true _ A6.out).mono ?_); rintro e w' ⟨rfl, ⟨nd, rfl⟩⟩) | (go_at_call 38; (with_reducible refine (emulatorref25_word.calls k a0 0 false t128 _ A8.out).mono ?_); rintro e w' ⟨rfl, ⟨nd, rfl⟩⟩))
      go_ret
      exact ⟨by first | rfl | (simp; done) | (simp [*]; done), by repeat (first | exact Drawn0.refl _ | apply Drawn0.step)⟩
    ·replace c7 := Bool.eq_false_iff.mpr c7
     subst c7
     have H1 : (some false) = some r := by rw [if_neg (show ¬ (false = true) by decide)] at H; exact H
     clear H
     have H := H1
     clear H1
     obtain rfl := Option.some.inj H
     have p5 : 0 ≤ (0 : Int) := (by omega)
     have q5 : 0 < a0.size := (by have : (0 : Int) < (a0.size : Int) := of_decide_eq_true (by first|(with_reducible assumption) | assumption); omega)
     have hx5 : ∀ h : 0 < a0.size, ((a0[0]'h).toNat : Int) = bt a0 0 := bt_at a0 0
     clear p5
     have qi5 : (0 < (a0.size : Int)) = True := eq_true (of_decide_eq_true (by first|(with_reducible assumption) | assumption))
     replace q5 := eq_true q5
     go_enter Try.func29, Try.ntmps29
     go_wp2_with (first | (go_at_call 37; (with_reducible refine (emulatorref25_letter.calls (bt a0 0) false _ A6.out).mono ?_); rintro e w' ⟨rfl, ⟨nd, rfl⟩⟩))
     go_ret
     exact ⟨by first | rfl | (simp; done) | (simp [*]; done), by repeat (first | exact Drawn0.refl _ | apply Drawn0.step)⟩
   ·rw [if_neg c4] at H
    exact absurd H (by simp)
end Go.Proofs.Ytpinoobgnnlccaa.A
namespace Go.Proofs.Ytpinoobgnnlccaa.A
open Go.RowKit Go.Proofs.YtpinoobgnnlccaaW.PrintWords Go.Proofs.YtpinoobgnnlccaaW.PrintLast Go.Proofs.YtpinoobgnnlccaaW.PrintMore
attribute [local go_sem] max2_int min2_int max_two min_two max_three min_three max_four min_four
set_option linter.unusedVariables false
set_option linter.unusedSimpArgs false
def emulatorref26_Valid.j0 : Nat → Bool → Int → ByteArray → Int → Option (Bool)
 | 0, _, _, _, _ => none
 | k + 1, x20, x130000, x130001, x130002 => if x20 = true then (some false) else (if x130000 = 4 then ((emulatorref25_Name.f k x130001).bind fun t130 => (some t130)) else (some (x130001.toList == ([] : List UInt8))))
def emulatorref26_Valid.f (k : Nat) (a0_0 : Int) (a0_1 : ByteArray) (a0_2 : Int) : Option (Bool) := if a0_0 < 0 then (emulatorref26_Valid.j0 k true a0_0 a0_1 a0_2) else (if a0_0 > 4 then (emulatorref26_Valid.j0 k true a0_0 a0_1 a0_2) else (if a0_2 < 0 then (emulatorref26_Valid.j0 k true a0_0 a0_1 a0_2) else (emulatorref26_Valid.j0 k (decide (a0_2 > 65535)) a0_0 a0_1 a0_2)))
set_option maxHeartbeats 8000000 in
set_option maxRecDepth 100000 in
theorem emulatorref26_Valid.calls (k : Nat) (a0_0 : Int) (a0_1 : ByteArray) (a0_2 : Int) (r : Bool) (w : World) (h : emulatorref26_Valid.f k a0_0 a0_1 a0_2 = some r) :
  Calls Try.prog 18 #[.agg #[.int .i64 a0_0, .string a0_1, .int .i64 a0_2]] w fun e w' => e = .returned (.bool r) ∧ Below w.heap.size w w' := by
 have hu24 := Try.underlying24
 have HB := Aside0.mk (Below.refl w.heap.size w)
 have H : (if a0_0 < 0 then (emulatorref26_Valid.j0 k true a0_0 a0_1 a0_2) else (if a0_0 > 4 then (emulatorref26_Valid.j0 k true a0_0 a0_1 a0_2) else (if a0_2 < 0 then (emulatorref26_Valid.j0 k true a0_0 a0_1 a0_2) else (emulatorref26_Valid.j0 k (decide (a0_2 > 65535)) a0_0 a0_1 a0_2)))) = some r := h
 clear h
 have HC2 := Aside0.mk H
 clear H
 go_enter Try.func18, Try.ntmps18
 go_upto_region 1 with (first | ((with_reducible refine gate_dst (N := 1) rfl ?_); refine box_event ?hg (N := 1) ?hd (cs := #[.int .i64 a0_0, .string a0_1, .int .i64 a0_2]) (t := 24) ?hr ?_; (case hd => rfl); (case hg => rfl); (case hr => first | (go_simp; done) | (go_simp; rfl)); intro gb129 hg w3 hbox hb; have n0_ := Aside0.mk (below_step (by repeat (first|(with_reducible first | exact HB.out | apply below_alloc | apply pw_below_drewN | apply below_drew1) | exact HB.out)) hb); have n1_ := Aside0.mk (hbox); have n2_ := Aside0.mk ((by rw [hg]; exact (below_size (by repeat (first|(with_reducible first | exact HB.out | apply below_alloc | apply pw_below_drewN | apply below_drew1) | exact HB.out))) : w.heap.size ≤ gb129)); have n3_ := n2_; clear HB; have HB := n0_; have BK129 := n1_; have GW129 := n2_; have GE129 := n3_; clear n0_ n1_ n2_ n3_; clear hb hbox hg))
 (try simp only [Act.put, List.setIfInBounds_toArray, List.set_cons_zero, List.set_cons_succ])
 go_cut [20] (fun v20 wc => ∃ (kq : Nat) (x20_1 : Bool), v20 = .bool x20_1 ∧ Aside0 (emulatorref26_Valid.j0 kq x20_1 a0_0 a0_1 a0_2 = some r) ∧ Aside0 (kq ≤ k) ∧ Aside0 (wc.heap[gb129]? = some (.cells #[.int .i64 a0_0, .string a0_1, .int .i64 a0_2] 24 (0, 0))) ∧ Aside0 (Below w.heap.size w wc))
 case first =>
  have H := HC2.out
  clear HC2
  by_cases c4 : a0_0 < 0
  ·rw [if_pos c4] at H
   have c4b0 : decide (a0_0 < 0) = true := decide_eq_true c4
   clear c4
   (first | rw [c4b0] | (simp only [i64_w, i32_w]; rw [c4b0]) | skip)
   have H' := Aside0.mk H
   clear H
   have hcz5_0 : w3.cell? ⟨gb129, 0, none⟩ = some (.int .i64 a0_0) := (blk_cell BK129.out 0).trans rfl
   have hcz5_1 : w3.cell? ⟨gb129, 1, none⟩ = some (.string a0_1) := (blk_cell BK129.out 1).trans rfl
   have hcz5_2 : w3.cell? ⟨gb129, 2, none⟩ = some (.int .i64 a0_2) := (blk_cell BK129.out 2).trans rfl
   have hfz5_0 := blk_frozen BK129.out 0
   have hfz5_1 := blk_frozen BK129.out 1
   have hfz5_2 := blk_frozen BK129.out 2
   go_wp2
   go_meet
   case rel => exact ⟨_, (true), (by first | rfl | (simp; done) | (simp [*]; done)), H', ⟨by first | omega | exact Nat.le_refl _⟩, ⟨by (with_reducible repeat(first|apply bN|apply bD)); exact BK129.out⟩, ⟨by repeat (first|(with_reducible first | exact HB.out | apply below_alloc | apply pw_below_drewN | apply below_drew1 | refine below_set ?_ GE129.out) | exact HB.out)⟩⟩
  ·rw [if_neg c4] at H
   have c4b0 : decide (a0_0 < 0) = false := decide_eq_false c4
   clear c4
   (first | rw [c4b0] | (simp only [i64_w, i32_w]; rw [c4b0]) | skip)
   by_cases c6 : a0_0 > 4
   ·rw [if_pos c6] at H
    have c6b0 : decide (4 < a0_0) = true := decide_eq_true c6
    clear c6
    have H' := Aside0.mk H
    clear H
    have hcz7_0 : w3.cell? ⟨gb129, 0, none⟩ = some (.int .i64 a0_0) := (blk_cell BK129.out 0).trans rfl
    have hcz7_1 : w3.cell? ⟨gb129, 1, none⟩ = some (.string a0_1) := (blk_cell BK129.out 1).trans rfl
    have hcz7_2 : w3.cell? ⟨gb129, 2, none⟩ = some (.int .i64 a0_2) := (blk_cell BK129.out 2).trans rfl
    have hfz7_0 := blk_frozen BK129.out 0
    have hfz7_1 := blk_frozen BK129.out 1
    have hfz7_2 := blk_frozen BK129.out 2
    go_wp2
    go_meet
    case rel => exact ⟨_, (true), (by first | rfl | (simp; done) | (simp [*]; done)), H', ⟨by first | omega | exact Nat.le_refl _⟩, ⟨by (with_reducible repeat(first|apply bN|apply bD)); exact BK129.out⟩, ⟨by repeat (first|(with_reducible first | exact HB.out | apply below_alloc | apply pw_below_drewN | apply below_drew1 | refine below_set ?_ GE129.out) | exact HB.out)⟩⟩
   ·rw [if_neg c6] at H
    have c6b0 : decide (4 < a0_0) = false := decide_eq_false c6
    clear c6
    by_cases c8 : a0_2 < 0
    ·rw [if_pos c8] at H
     have c8b0 : decide (a0_2 < 0) = true := decide_eq_true c8
     clear c8
     have H' := Aside0.mk H
     clear H
     have hcz9_0 : w3.cell? ⟨gb129, 0, none⟩ = some (.int .i64 a0_0) := (blk_cell BK129.out 0).trans rfl
     have hcz9_1 : w3.cell? ⟨gb129, 1, none⟩ = some (.string a0_1) := (blk_cell BK129.out 1).trans rfl
     have hcz9_2 : w3.cell? ⟨gb129, 2, none⟩ = some (.int .i64 a0_2) := (blk_cell BK129.out 2).trans rfl
     have hfz9_0 := blk_frozen BK129.out 0
     have hfz9_1 := blk_frozen BK129.out 1
     have hfz9_2 := blk_frozen BK129.out 2
     go_wp2
     go_meet
     case rel => exact ⟨_, (true), (by first | rfl | (simp; done) | (simp [*]; done)), H', ⟨by first | omega | exact Nat.le_refl _⟩, ⟨by (with_reducible repeat(first|apply bN|apply bD)); exact BK129.out⟩, ⟨by repeat (first|(with_reducible first | exact HB.out | apply below_alloc | apply pw_below_drewN | apply below_drew1 | refine below_set ?_ GE129.out) | exact HB.out)⟩⟩
    ·rw [if_neg c8] at H
     have c8b0 : decide (a0_2 < 0) = false := decide_eq_false c8
     clear c8
     have H' := Aside0.mk H
     clear H
     have hcz10_0 : w3.cell? ⟨gb129, 0, none⟩ = some (.int .i64 a0_0) := (blk_cell BK129.out 0).trans rfl
     have hcz10_1 : w3.cell? ⟨gb129, 1, none⟩ = some (.string a0_1) := (blk_cell BK129.out 1).trans rfl
     have hcz10_2 : w3.cell? ⟨gb129, 2, none⟩ = some (.int .i64 a0_2) := (blk_cell BK129.out 2).trans rfl
     have hfz10_0 := blk_frozen BK129.out 0
     have hfz10_1 := blk_frozen BK129.out 1
     have hfz10_2 := blk_frozen BK129.out 2
     go_wp2
     go_meet
     case rel => exact ⟨_, (decide (a0_2 > 65535)), (by first | rfl | (simp; done) | (simp [*]; done)), H', ⟨by first | omega | exact Nat.le_refl _⟩, ⟨by (with_reducible repeat(first|apply bN|apply bD)); exact BK129.out⟩, ⟨by repeat (first|(with_reducible first | exact HB.out | apply below_alloc | apply pw_below_drewN | apply below_drew1 | refine below_set ?_ GE129.out) | exact HB.out)⟩⟩
 case rest =>
  clear HC2
  try clear c1
  try clear p2
  try clear c4
  try clear c4b0
  try clear c6
  try clear c6b0
  try clear c8
  try clear c8b0
  try clear hcz10_0
  try clear hcz10_1
  try clear hcz10_2
  try clear hcz5_0
  try clear hcz5_1
  try clear hcz5_2
  try clear hcz7_0
  try clear hcz7_1
  try clear hcz7_2
  try clear hcz9_0
  try clear hcz9_1
  try clear hcz9_2
  try clear hfz10_0
  try clear hfz10_1
  try clear hfz10_2
  try clear hfz5_0
  try clear hfz5_1
  try clear hfz5_2
  try clear hfz7_0
  try clear hfz7_1
  try clear hfz7_2
  try clear hfz9_0
  try clear hfz9_1
  try clear hfz9_2
  obtain ⟨kq, x20_1, rfl, HA, HJ1, BK129, HB⟩ := hcut
  cases kq with
  | zero => exact absurd HA.out (by simp [emulatorref26_Valid.j0])
  | succ kj1 =>
   have H := HA.out
   clear HA
   simp only [emulatorref26_Valid.j0] at H
   by_cases c11 : x20_1 = true
   ·subst c11
    have H1 : (some false) = some r := by rw [if_pos rfl] at H; exact H
    clear H
    have H := H1
    clear H1
    obtain rfl := Option.some.inj H
    go_wp2
    go_ret
    exact ⟨by first | rfl | (simp [errW_none, errW_some] <;> rfl) | (simp [*, errW_none, errW_some] <;> rfl), by repeat (first|(with_reducible first | exact HB.out | apply below_alloc | apply pw_below_drewN | apply below_drew1 | refine below_set ?_ GE129.out) | exact HB.out)⟩
   ·replace c11 := Bool.eq_false_iff.mpr c11
    subst c11
    have H1 : (if a0_0 = 4 then ((emulatorref25_Name.f kj1 a0_1).bind fun t130 => (some t130)) else (some (a0_1.toList == ([] : List UInt8)))) = some r := by rw [if_neg (show ¬ (false = true) by decide)] at H; exact H
    clear H
    have H := H1
    clear H1
    by_cases c12 : a0_0 = 4
    ·rw [if_pos c12] at H
     have c12b0 : (a0_0 == 4) = true := beq_iff_eq.mpr c12
     have c12b1 : (a0_0 != 4) = false := bne_eq_false_iff_eq.mpr c12
     clear c12
     replace H := Option.bind_eq_some_iff.mp H
     obtain ⟨t130, A130, H⟩ := H
     replace H : (some t130) = some r := H
     have A13 := Aside0.mk A130
     clear A130
     obtain rfl := Option.some.inj H
     have hcz14_0 : wc.cell? ⟨gb129, 0, none⟩ = some (.int .i64 a0_0) := (blk_cell BK129.out 0).trans rfl
     have hcz14_1 : wc.cell? ⟨gb129, 1, none⟩ = some (.string a0_1) := (blk_cell BK129.out 1).trans rfl
     have hcz14_2 : wc.cell? ⟨gb129, 2, none⟩ = some (.int .i64 a0_2) := (blk_cell BK129.out 2).trans rfl
     have hfz14_0 := blk_frozen BK129.out 0
     have hfz14_1 := blk_frozen BK129.out 1
     have hfz14_2 := blk_frozen BK129.out 2
     go_wp2_with (first | ((with_reducible refine gate_callee (f := 29) rfl ?_); refine goesL_ (some 26) rfl rfl Try.func29 (by kernel_rfl) rfl #[.string a0_1] rfl (by (try simp only [List.map_toArray, List.map_cons, List.map_nil]); first | done | rfl | (simp only [List.length_drop, List.length_take]; rfl)) ?_; (with_reducible refine (emulatorref25_Name.calls kj1 a0_1 t130 _ A13.out).mono ?_); rintro e w' ⟨rfl, ⟨nd, rfl⟩⟩; refine ⟨_, rfl, ?_⟩))
     go_ret
     exact ⟨by first | rfl | (simp [errW_none, errW_some] <;> rfl) | (simp [*, errW_none, errW_some] <;> rfl), by repeat (first|(with_reducible first | exact HB.out | apply below_alloc | apply pw_below_drewN | apply below_drew1 | refine below_set ?_ GE129.out) | exact HB.out)⟩
    ·rw [if_neg c12] at H
     have c12b0 : (a0_0 == 4) = false := beq_eq_false_iff_ne.mpr c12
     have c12b1 : (a0_0 != 4) = true := bne_iff_ne.mpr c12
     obtain rfl := Option.some.inj H
     have hcz15_0 : wc.cell? ⟨gb129, 0, none⟩ = some (.int .i64 a0_0) := (blk_cell BK129.out 0).trans rfl
     have hcz15_1 : wc.cell? ⟨gb129, 1, none⟩ = some (.string a0_1) := (blk_cell BK129.out 1).trans rfl
     have hcz15_2 : wc.cell? ⟨gb129, 2, none⟩ = some (.int .i64 a0_2) := (blk_cell BK129.out 2).trans rfl
     have hfz15_0 := blk_frozen BK129.out 0
     have hfz15_1 := blk_frozen BK129.out 1
     have hfz15_2 := blk_frozen BK129.out 2
     go_wp2
     go_ret
     exact ⟨by first | rfl | (simp [errW_none, errW_some] <;> rfl) | (simp [*, errW_none, errW_some] <;> rfl), by repeat (first|(with_reducible first | exact HB.out | apply below_alloc | apply pw_below_drewN | apply below_drew1 | refine below_set ?_ GE129.out) | exact HB.out)⟩
def emulatorref26_absolute.f (a0_0 : Int) (a0_1 : ByteArray) (a0_2 : Int) : Option (Bool) := some (a0_0 == 0)
set_option maxHeartbeats 8000000 in
set_option maxRecDepth 100000 in
theorem emulatorref26_absolute.calls (a0_0 : Int) (a0_1 : ByteArray) (a0_2 : Int) (r : Bool) (w : World) (h : emulatorref26_absolute.f a0_0 a0_1 a0_2 = some r) :
  Calls Try.prog 30 #[.agg #[.int .i64 a0_0, .string a0_1, .int .i64 a0_2]] w fun e w' => e = .returned (.bool r) ∧ Below w.heap.size w w' := by
 have hu24 := Try.underlying24
 have HB := Aside0.mk (Below.refl w.heap.size w)
 have H : (some (a0_0 == 0)) = some r := h
 clear h
 obtain rfl := Option.some.inj H
 go_enter Try.func30, Try.ntmps30
 go_wp2_with (first | ((with_reducible refine gate_dst (N := 1) rfl ?_); refine box_event ?hg (N := 1) ?hd (cs := #[.int .i64 a0_0, .string a0_1, .int .i64 a0_2]) (t := 24) ?hr ?_; (case hd => rfl); (case hg => rfl); (case hr => first | (go_simp; done) | (go_simp; rfl)); intro gb131 hg w2 hbox hb; have n0_ := Aside0.mk (below_step (by repeat (first|(with_reducible first | exact HB.out | apply below_alloc | apply pw_below_drewN | apply below_drew1) | exact HB.out)) hb); have n1_ := Aside0.mk (hbox); have n2_ := Aside0.mk ((by rw [hg]; exact (below_size (by repeat (first|(with_reducible first | exact HB.out | apply below_alloc | apply pw_below_drewN | apply below_drew1) | exact HB.out))) : w.heap.size ≤ gb131)); have n3_ := n2_; clear HB; have HB := n0_; have BK131 := n1_; have GW131 := n2_; have GE131 := n3_; clear n0_ n1_ n2_ n3_; clear hb hbox hg; have hcz3_0 : w2.cell? ⟨gb131, 0, none⟩ = some (.int .i64 a0_0) := (blk_cell BK131.out 0).trans rfl; have hcz3_1 : w2.cell? ⟨gb131, 1, none⟩ = some (.string a0_1) := (blk_cell BK131.out 1).trans rfl; have hcz3_2 : w2.cell? ⟨gb131, 2, none⟩ = some (.int .i64 a0_2) := (blk_cell BK131.out 2).trans rfl; have hfz3_0 := blk_frozen BK131.out 0; have hfz3_1 := blk_frozen BK131.out 1; have hfz3_2 := blk_frozen BK131.out 2))
 go_ret
 exact ⟨by first | rfl | (simp [errW_none, errW_some] <;> rfl) | (simp [*, errW_none, errW_some] <;> rfl), by repeat (first|(with_reducible first | exact HB.out | apply below_alloc | apply pw_below_drewN | apply below_drew1 | refine below_set ?_ GE131.out) | exact HB.out)⟩
end Go.Proofs.Ytpinoobgnnlccaa.A
namespace Go.Proofs.Ytpinoobgnnlccaa.A
open Go Go.RowKit Go.Proofs.YtpinoobgnnlccaaW.PrintWords
set_option linter.unusedSimpArgs false
set_option linter.unusedVariables false
theorem rletter_f (c : Int) : emulatorref25_letter.f c = some (nbC c true) := by
 unfold emulatorref25_letter.f nbC letC
 by_cases h1 : c ≥ 97 <;> by_cases h2 : c ≤ 122 <;> by_cases h3 : c ≥ 65 <;> by_cases h4 : c ≤ 90 <;> by_cases h5 : c = 95 <;> by_cases h6 : c = 46 <;> simp [h1, h2, h3, h4, h5, h6] <;> omega
theorem rdigit_f (c : Int) : emulatorref25_digit.f c = some (digC c) := by
 unfold emulatorref25_digit.f digC
 by_cases h1 : c ≥ 48 <;> by_cases h2 : c ≤ 57 <;> simp [h1, h2]
theorem nbC_split (c : Int) : nbC c false = (digC c || nbC c true) := by
 unfold nbC; cases letC c <;> cases digC c <;> simp
theorem w64 (n : Int) (h0 : -1000000000000 ≤ n) (h1 : n ≤ 1000000000000) : wrap64 n = n := by
 unfold wrap64; omega
theorem word_f (s : ByteArray) (hs : s.size ≤ 1000000000) : ∀ (k i : Nat), i ≤ s.size → s.size - i < k → emulatorref25_word.l0 k s (i : Int) false = some ((i : Int) + ((s.data.toList.drop i).takeWhile nbU).length) := by
 intro k
 induction k with
 | zero => intro i _ h; omega
 | succ k ih =>
  intro i hi hk
  have hl : s.data.toList.length = s.size := by simp
  rw [emulatorref25_word.l0]
  by_cases h : i < s.size
  ·rw [if_pos (by omega), if_pos (by omega), byte_at s i (by omega), rdigit_f, rletter_f, Option.bind_some, Option.bind_some]
   have hd : s.data.toList.drop i = s.data.toList[i] :: s.data.toList.drop (i + 1) := List.drop_eq_getElem_cons (by omega)
   have hn : nbU s.data.toList[i] = (digC (s.data.toList[i].toNat : Int) || nbC (s.data.toList[i].toNat : Int) true) := nbC_split _
   have hw : wrap64 ((i : Int) + 1) = ((i + 1 : Nat) : Int) := by rw [w64 _ (by omega) (by omega)]; omega
   rw [hd, List.takeWhile_cons, hn, hw]
   have ih' := ih (i + 1) (by omega) (by omega)
   cases h1 : digC (s.data.toList[i].toNat : Int)
   ·rw [if_neg (by simp)]
    cases h2 : nbC (s.data.toList[i].toNat : Int) true
    ·rw [if_neg (by simp)]; simp
    ·rw [if_pos rfl, if_neg (by simp), ih']; simp; omega
   ·rw [if_pos rfl, ih']; simp; omega
  ·rw [if_neg (by omega), List.drop_of_length_le (by omega)]; simp
theorem regs_two (c x : UInt8) : regs.contains [c, x] = ((decide ((c.toNat : Int) = 114) && (decide (48 ≤ (x.toNat : Int)) && decide ((x.toNat : Int) ≤ 53))) || (([c, x] : List UInt8) == [115, 112]) || (([c, x] : List UInt8) == [112, 99])) := by
 rw [Bool.eq_iff_iff]
 simp only [regs, List.contains_cons, List.contains_nil, Bool.or_false, Bool.or_eq_true, Bool.and_eq_true, beq_iff_eq, decide_eq_true_eq, List.cons.injEq, and_true, ← UInt8.toNat_inj]
 simp only [UInt8.toNat_ofNat]
 omega
theorem rname_f (k : Nat) (s : ByteArray) : emulatorref25_Name.f (k + 16) s = some (nameS s) := by
 unfold emulatorref25_Name.f nameS
 have hl : s.size = s.data.toList.length := by simp
 have hbt0 := byte_at s 0
 have hbt1 := byte_at s 1
 by_cases h14 : s.size ≤ 14
 ·have hword := word_f s (by omega) (k + 16) 0 (by omega) (by omega)
  simp only [ByteArray.toList_eq] at *
  generalize hg : s.data.toList = l at *
  cases l with
  | nil => rw [if_pos rfl]; simp [nameL]
  | cons c r =>
   rw [if_neg (by simp), if_neg (by omega), if_pos (by rw [hl]; simp)]
   have hb0 : bt s 0 = (c.toNat : Int) := hbt0 (by simp)
   rw [hb0, rletter_f, Option.bind_some]
   cases h0 : nbC (c.toNat : Int) true
   ·rw [if_neg (by simp)]; simp [nameL, h0]
   ·have hwf : emulatorref25_word.f (k + 16) s 0 false = some (((c :: r).takeWhile nbU).length : Int) := by
     unfold emulatorref25_word.f
     have := hword
     rw [List.drop_zero] at this
     rw [show ((0 : Nat) : Int) = 0 from rfl] at this
     rw [this]; simp
    rw [if_pos rfl, hwf, Option.bind_some]
    have htw := takeWhile_len (c :: r)
    have hlen : decide ((c :: r).length ≤ 14) = true := decide_eq_true (by omega)
    have hval : nameL (c :: r) = ((c :: r).all nbU && !(regs.contains (c :: r))) := by unfold nameL; rw [hlen]; simp [h0]
    rw [hval]
    by_cases hall : (c :: r).all nbU = true
    ·have e : ((c :: r).takeWhile nbU).length = (c :: r).length := htw.mpr hall
     rw [if_pos (by rw [e, hl]), hall, Bool.true_and]
     by_cases hsp : c :: r = [115, 112]
     ·rw [if_pos hsp, hsp]; simp [regs]
     ·rw [if_neg hsp]
      by_cases hpc : c :: r = [112, 99]
      ·rw [if_pos hpc, hpc]; simp [regs]
      ·rw [if_neg hpc]
       by_cases h2 : s.size = 2
       ·rw [if_pos (by omega)]
        obtain ⟨x, rfl⟩ : ∃ x, r = [x] := by
         match r, hl with
         | [], hl => simp at hl; omega
         | [x], _ => exact ⟨x, rfl⟩
         | x :: y :: z, hl => simp at hl; omega
        have hb1 : bt s 1 = (x.toNat : Int) := hbt1 (by simp)
        rw [regs_two, hb1]
        have e1 : (([c, x] : List UInt8) == [115, 112]) = false := by simpa using hsp
        have e2 : (([c, x] : List UInt8) == [112, 99]) = false := by simpa using hpc
        rw [e1, e2]
        by_cases hc : (c.toNat : Int) = 114
        ·rw [if_pos hc, if_pos (by omega)]
         by_cases hx : (x.toNat : Int) ≥ 48
         ·rw [if_pos hx]; simp [hc, show 48 ≤ (x.toNat : Int) from hx]
         ·rw [if_neg hx]; simp [show ¬ 48 ≤ (x.toNat : Int) from hx]
        ·rw [if_neg hc]; simp [hc]
       ·rw [if_neg (by omega)]
        have : regs.contains (c :: r) = false := by
         rw [Bool.eq_false_iff]
         intro hr
         simp only [regs, List.contains_cons, List.contains_nil, Bool.or_false, Bool.or_eq_true, beq_iff_eq] at hr
         apply h2; rw [hl]
         rcases hr with h | h | h | h | h | h | h | h <;> rw [h] <;> rfl
        rw [this]
    ·have hf : (c :: r).all nbU = false := by simpa using hall
     have e : ((c :: r).takeWhile nbU).length ≠ (c :: r).length := fun h => hall (htw.mp h)
     rw [if_neg (by intro h; apply e; rw [hl] at h; exact_mod_cast h), hf]; simp
 ·have hbig : nameL s.data.toList = false := by unfold nameL; rw [decide_eq_false (by omega : ¬ s.data.toList.length ≤ 14)]; simp
  rw [hbig]
  by_cases h0 : s.toList = []
  ·rw [if_pos h0]
  ·rw [if_neg h0, if_pos (by omega)]
theorem rvalid_f (k : Nat) (c : Int) (s : ByteArray) (n : Int) : emulatorref26_Valid.f (k + 17) c s n = some (validS c s n) := by
 unfold emulatorref26_Valid.f validS
 have hj : ∀ b, emulatorref26_Valid.j0 (k + 17) b c s n = if b = true then some false else if c = 4 then some (nameS s) else some (s.toList == ([] : List UInt8)) := fun b => by
  show emulatorref26_Valid.j0 ((k + 16) + 1) b c s n = _
  rw [emulatorref26_Valid.j0, rname_f k s]; rfl
 rw [hj, hj]
 by_cases h1 : c < 0
 ·simp [h1]
 by_cases h2 : 4 < c
 ·simp [h1, h2]
 by_cases h3 : n < 0
 ·simp [h1, h2, h3]
 by_cases h4 : 65535 < n
 ·simp [h1, h2, h3, h4]
 by_cases h5 : c = 4 <;> simp [h1, h2, h3, h4, h5, sIs]
end Go.Proofs.Ytpinoobgnnlccaa.A
namespace Go.Proofs.Ytpinoobgnnlccaa.A
open Go.RowKit Go.Proofs.YtpinoobgnnlccaaW.PrintWords Go.Proofs.YtpinoobgnnlccaaW.PrintLast Go.Proofs.YtpinoobgnnlccaaW.PrintMore
attribute [local go_sem] max2_int min2_int max_two min_two max_three min_three max_four min_four
set_option linter.unusedVariables false
set_option linter.unusedSimpArgs false
def emulatorref26_Add.j0 : Nat → Bool → Int → ByteArray → Int → Int → ByteArray → Int → Option (Int × ByteArray × Int × Int)
 | 0, _, _, _, _, _, _, _ => none
 | k + 1, x14, x133000, x133001, x133002, x134000, x134001, x134002 => if x14 = true then (some (0, (⟨#[]⟩ : ByteArray), 0, 1)) else ((emulatorref26_absolute.f x134000 x134001 x134002).bind fun t137 => (if t137 = true then (some (x133000, x133001, Go.bits .and .i64 (wrap64 (x133002 + x134002)) 65535, 0)) else ((emulatorref26_absolute.f x133000 x133001 x133002).bind fun t138 => (if t138 = true then (some (x134000, x134001, Go.bits .and .i64 (wrap64 (x133002 + x134002)) 65535, 0)) else (some (0, (⟨#[]⟩ : ByteArray), 0, 22))))))
def emulatorref26_Add.f (k : Nat) (a0_0 : Int) (a0_1 : ByteArray) (a0_2 : Int) (a1_0 : Int) (a1_1 : ByteArray) (a1_2 : Int) : Option (Int × ByteArray × Int × Int) := (emulatorref26_Valid.f k a0_0 a0_1 a0_2).bind fun t135 => (if t135 = true then ((emulatorref26_Valid.f k a1_0 a1_1 a1_2).bind fun t136 => (emulatorref26_Add.j0 k (!t136) a0_0 a0_1 a0_2 a1_0 a1_1 a1_2)) else (emulatorref26_Add.j0 k true a0_0 a0_1 a0_2 a1_0 a1_1 a1_2))
set_option maxHeartbeats 8000000 in
set_option maxRecDepth 100000 in
theorem emulatorref26_Add.calls (k : Nat) (a0_0 : Int) (a0_1 : ByteArray) (a0_2 : Int) (a1_0 : Int) (a1_1 : ByteArray) (a1_2 : Int) (r1 : Int) (r2 : ByteArray) (r3 : Int) (r4 : Int) (w : World) (h : emulatorref26_Add.f k a0_0 a0_1 a0_2 a1_0 a1_1 a1_2 = some (r1, r2, r3, r4)) :
  Calls Try.prog 20 #[.agg #[.int .i64 a0_0, .string a0_1, .int .i64 a0_2], .agg #[.int .i64 a1_0, .string a1_1, .int .i64 a1_2]] w fun e w' => e = .returned (.tuple #[.agg #[.int .i64 r1, .string r2, .int .i64 r3], .int .i64 r4]) ∧ Below w.heap.size w w' := by
 have hu24 := Try.underlying24
 have HB := Aside0.mk (Below.refl w.heap.size w)
 have H : ((emulatorref26_Valid.f k a0_0 a0_1 a0_2).bind fun t135 => (if t135 = true then ((emulatorref26_Valid.f k a1_0 a1_1 a1_2).bind fun t136 => (emulatorref26_Add.j0 k (!t136) a0_0 a0_1 a0_2 a1_0 a1_1 a1_2)) else (emulatorref26_Add.j0 k true a0_0 a0_1 a0_2 a1_0 a1_1 a1_2))) = some (r1, r2, r3, r4) := h
 clear h
 have HC3 := Aside0.mk H
 clear H
 go_enter Try.func20, Try.ntmps20
 go_upto_region 1 with (first | ((with_reducible refine gate_dst (N := 2) rfl ?_); refine box_event ?hg (N := 2) ?hd (cs := #[.int .i64 a0_0, .string a0_1, .int .i64 a0_2]) (t := 24) ?hr ?_; (case hd => rfl); (case hg => rfl); (case hr => first | (go_simp; done) | (go_simp; rfl)); intro gb132 hg w4 hbox hb; have n0_ := Aside0.mk (below_step (by repeat (first|(with_reducible first | exact HB.out | apply below_alloc | apply pw_below_drewN | apply below_drew1) | exact HB.out)) hb); have n1_ := Aside0.mk (hbox); have n2_ := Aside0.mk ((by rw [hg]; exact (below_size (by repeat (first|(with_reducible first | exact HB.out | apply below_alloc | apply pw_below_drewN | apply below_drew1) | exact HB.out))) : w.heap.size ≤ gb132)); have n3_ := n2_; clear HB; have HB := n0_; have BK132 := n1_; have GW132 := n2_; have GE132 := n3_; clear n0_ n1_ n2_ n3_; clear hb hbox hg) | ((with_reducible refine gate_dst (N := 3) rfl ?_); refine box_event ?hg (N := 3) ?hd (cs := #[.int .i64 a1_0, .string a1_1, .int .i64 a1_2]) (t := 24) ?hr ?_; (case hd => rfl); (case hg => rfl); (case hr => first | (go_simp; done) | (go_simp; rfl)); intro gb133 hg w5 hbox hb; have n0_ := Aside0.mk (blk_below (by (with_reducible repeat(first|apply bN|apply bD)); exact BK132.out) hb); have n1_ := Aside0.mk (below_step (by repeat (first|(with_reducible first | exact HB.out | apply below_alloc | apply pw_below_drewN | apply below_drew1 | refine below_set ?_ GE132.out) | exact HB.out)) hb); have n2_ := Aside0.mk (hbox); have n3_ := Aside0.mk ((by rw [hg]; exact (below_size (by repeat (first|(with_reducible first | exact HB.out | apply below_alloc | apply pw_below_drewN | apply below_drew1 | refine below_set ?_ GE132.out) | exact HB.out))) : w.heap.size ≤ gb133)); have n4_ := n3_; have n5_ := Aside0.mk ((by rw [hg]; exact Nat.ne_of_lt (blk_lt (by (with_reducible repeat(first|apply bN|apply bD)); exact BK132.out)) : gb132 ≠ gb133)); have n6_ := Aside0.mk n5_.out.symm; clear BK132; clear HB; have BK132 := n0_; have HB := n1_; have BK133 := n2_; have GW133 := n3_; have GE133 := n4_; have NB132_133 := n5_; have NB133_132 := n6_; clear n0_ n1_ n2_ n3_ n4_ n5_ n6_; clear hb hbox hg) | ((with_reducible refine gate_dst (N := 4) rfl ?_); refine box_event ?hg (N := 4) ?hd (cs := #[.int .i64 0, .string (⟨#[]⟩ : ByteArray), .int .i64 0]) (t := 24) ?hr ?_; (case hd => rfl); (case hg => rfl); (case hr => first | (go_simp; done) | (go_simp; rfl)); intro gb134 hg w6 hbox hb; have n0_ := Aside0.mk (blk_below (by (with_reducible repeat(first|apply bN|apply bD)); exact BK132.out) hb); have n1_ := Aside0.mk (blk_below (by (with_reducible repeat(first|apply bN|apply bD)); exact BK133.out) hb); have n2_ := Aside0.mk (below_step (by repeat (first|(with_reducible first | exact HB.out | apply below_alloc | apply pw_below_drewN | apply below_drew1 | refine below_set ?_ GE132.out | refine below_set ?_ GE133.out) | exact HB.out)) hb); have n3_ := Aside0.mk (hbox); have n4_ := Aside0.mk ((by rw [hg]; exact (below_size (by repeat (first|(with_reducible first | exact HB.out | apply below_alloc | apply pw_below_drewN | apply below_drew1 | refine below_set ?_ GE132.out | refine below_set ?_ GE133.out) | exact HB.out))) : w.heap.size ≤ gb134)); have n5_ := n4_; have n6_ := Aside0.mk ((by rw [hg]; exact Nat.ne_of_lt (blk_lt (by (with_reducible repeat(first|apply bN|apply bD)); exact BK132.out)) : gb132 ≠ gb134)); have n7_ := Aside0.mk n6_.out.symm; have n8_ := Aside0.mk ((by rw [hg]; exact Nat.ne_of_lt (blk_lt (by (with_reducible repeat(first|apply bN|apply bD)); exact BK133.out)) : gb133 ≠ gb134)); have n9_ := Aside0.mk n8_.out.symm; clear BK132; clear BK133; clear HB; have BK132 := n0_; have BK133 := n1_; have HB := n2_; have BK134 := n3_; have GW134 := n4_; have GE134 := n5_; have NB132_134 := n6_; have NB134_132 := n7_; have NB133_134 := n8_; have NB134_133 := n9_; clear n0_ n1_ n2_ n3_ n4_ n5_ n6_ n7_ n8_ n9_; clear hb hbox hg))
 (try simp only [Act.put, List.setIfInBounds_toArray, List.set_cons_zero, List.set_cons_succ])
 go_cut [14] (fun v14 wc => ∃ (kq : Nat) (x14_2 : Bool), v14 = .bool x14_2 ∧ Aside0 (emulatorref26_Add.j0 kq x14_2 a0_0 a0_1 a0_2 a1_0 a1_1 a1_2 = some (r1, r2, r3, r4)) ∧ Aside0 (kq ≤ k) ∧ Aside0 (wc.heap[gb132]? = some (.cells #[.int .i64 a0_0, .string a0_1, .int .i64 a0_2] 24 (0, 0))) ∧ Aside0 (wc.heap[gb133]? = some (.cells #[.int .i64 a1_0, .string a1_1, .int .i64 a1_2] 24 (0, 0))) ∧ Aside0 (wc.heap[gb134]? = some (.cells #[.int .i64 0, .string (⟨#[]⟩ : ByteArray), .int .i64 0] 24 (0, 0))) ∧ Aside0 (Below w.heap.size w wc))
 case first =>
  have H := HC3.out
  clear HC3
  replace H := Option.bind_eq_some_iff.mp H
  obtain ⟨t135, A70, H⟩ := H
  replace H : (if t135 = true then ((emulatorref26_Valid.f k a1_0 a1_1 a1_2).bind fun t136 => (emulatorref26_Add.j0 k (!t136) a0_0 a0_1 a0_2 a1_0 a1_1 a1_2)) else (emulatorref26_Add.j0 k true a0_0 a0_1 a0_2 a1_0 a1_1 a1_2)) = some (r1, r2, r3, r4) := H
  have A7 := Aside0.mk A70
  clear A70
  by_cases c8 : t135 = true
  ·subst c8
   have H1 : ((emulatorref26_Valid.f k a1_0 a1_1 a1_2).bind fun t136 => (emulatorref26_Add.j0 k (!t136) a0_0 a0_1 a0_2 a1_0 a1_1 a1_2)) = some (r1, r2, r3, r4) := by rw [if_pos rfl] at H; exact H
   clear H
   have H := H1
   clear H1
   replace H := Option.bind_eq_some_iff.mp H
   obtain ⟨t136, A90, H⟩ := H
   replace H : (emulatorref26_Add.j0 k (!t136) a0_0 a0_1 a0_2 a1_0 a1_1 a1_2) = some (r1, r2, r3, r4) := H
   have A9 := Aside0.mk A90
   clear A90
   have H' := Aside0.mk H
   clear H
   have hnb10 := NB132_133.out
   have hnc10 := NB133_132.out
   have hnb11 := NB132_134.out
   have hnc11 := NB134_132.out
   have hcz12_0 : w6.cell? ⟨gb132, 0, none⟩ = some (.int .i64 a0_0) := (blk_cell BK132.out 0).trans rfl
   have hcz12_1 : w6.cell? ⟨gb132, 1, none⟩ = some (.string a0_1) := (blk_cell BK132.out 1).trans rfl
   have hcz12_2 : w6.cell? ⟨gb132, 2, none⟩ = some (.int .i64 a0_2) := (blk_cell BK132.out 2).trans rfl
   have hfz12_0 := blk_frozen BK132.out 0
   have hfz12_1 := blk_frozen BK132.out 1
   have hfz12_2 := blk_frozen BK132.out 2
   go_wp2_with (first | ((with_reducible refine gate_callee (f := 18) rfl ?_); refine goesL_ (some 8) rfl rfl Try.func18 (by kernel_rfl) rfl #[.agg #[.int .i64 a0_0, .string a0_1, .int .i64 a0_2]] rfl (by (try simp only [List.map_toArray, List.map_cons, List.map_nil]); first | done | rfl | (simp only [List.length_drop, List.length_take]; rfl)) ?_; (with_reducible refine (emulatorref26_Valid.calls k a0_0 a0_1 a0_2 true _ A7.out).mono ?_); rintro e w13 ⟨rfl, hb⟩; refine ⟨_, rfl, ?_⟩; have n0_ := Aside0.mk (blk_below (by (with_reducible repeat(first|apply bN|apply bD)); exact BK132.out) hb); have n1_ := Aside0.mk (blk_below (by (with_reducible repeat(first|apply bN|apply bD)); exact BK133.out) hb); have n2_ := Aside0.mk (blk_below (by (with_reducible repeat(first|apply bN|apply bD)); exact BK134.out) hb); have n3_ := Aside0.mk (below_step (by repeat (first|(with_reducible first | exact HB.out | apply below_alloc | apply pw_below_drewN | apply below_drew1 | refine below_set ?_ GE132.out | refine below_set ?_ GE133.out | refine below_set ?_ GE134.out) | exact HB.out)) hb); clear BK132; clear BK133; clear BK134; clear HB; have BK132 := n0_; have BK133 := n1_; have BK134 := n2_; have HB := n3_; clear n0_ n1_ n2_ n3_; (try clear hb); (try clear hb2); (try clear hk); (try clear hi); have hnb14 := NB133_134.out; have hnc14 := NB134_133.out; have hcz15_0 : w13.cell? ⟨gb133, 0, none⟩ = some (.int .i64 a1_0) := (blk_cell BK133.out 0).trans rfl; have hcz15_1 : w13.cell? ⟨gb133, 1, none⟩ = some (.string a1_1) := (blk_cell BK133.out 1).trans rfl; have hcz15_2 : w13.cell? ⟨gb133, 2, none⟩ = some (.int .i64 a1_2) := (blk_cell BK133.out 2).trans rfl; have hfz15_0 := blk_frozen BK133.out 0; have hfz15_1 := blk_frozen BK133.out 1; have hfz15_2 := blk_frozen BK133.out 2) | (go_at_call 18; (with_reducible refine (emulatorref26_Valid.calls k a1_0 a1_1 a1_2 t136 _ A9.out).mono ?_); rintro e w16 ⟨rfl, hb⟩; have n0_ := Aside0.mk (blk_below (by (with_reducible repeat(first|apply bN|apply bD)); exact BK132.out) hb); have n1_ := Aside0.mk (blk_below (by (with_reducible repeat(first|apply bN|apply bD)); exact BK133.out) hb); have n2_ := Aside0.mk (blk_below (by (with_reducible repeat(first|apply bN|apply bD)); exact BK134.out) hb); have n3_ := Aside0.mk (below_step (by repeat (first|(with_reducible first | exact HB.out | apply below_alloc | apply pw_below_drewN | apply below_drew1 | refine below_set ?_ GE132.out | refine below_set ?_ GE133.out | refine below_set ?_ GE134.out) | exact HB.out)) hb); clear BK132; clear BK133; clear BK134; clear HB; have BK132 := n0_; have BK133 := n1_; have BK134 := n2_; have HB := n3_; clear n0_ n1_ n2_ n3_; (try clear hb); (try clear hb2); (try clear hk); (try clear hi)))
   go_meet
   case rel => exact ⟨_, (!t136), (by first | rfl | (simp; done) | (simp [*]; done)), H', ⟨by first | omega | exact Nat.le_refl _⟩, ⟨by (with_reducible repeat(first|apply bN|apply bD)); exact BK132.out⟩, ⟨by (with_reducible repeat(first|apply bN|apply bD)); exact BK133.out⟩, ⟨by (with_reducible repeat(first|apply bN|apply bD)); exact BK134.out⟩, ⟨by repeat (first|(with_reducible first | exact HB.out | apply below_alloc | apply pw_below_drewN | apply below_drew1 | refine below_set ?_ GE132.out | refine below_set ?_ GE133.out | refine below_set ?_ GE134.out) | exact HB.out)⟩⟩
  ·replace c8 := Bool.eq_false_iff.mpr c8
   subst c8
   have H1 : (emulatorref26_Add.j0 k true a0_0 a0_1 a0_2 a1_0 a1_1 a1_2) = some (r1, r2, r3, r4) := by rw [if_neg (show ¬ (false = true) by decide)] at H; exact H
   clear H
   have H := H1
   clear H1
   have H' := Aside0.mk H
   clear H
   have hnb17 := NB132_133.out
   have hnc17 := NB133_132.out
   have hnb18 := NB132_134.out
   have hnc18 := NB134_132.out
   have hcz19_0 : w6.cell? ⟨gb132, 0, none⟩ = some (.int .i64 a0_0) := (blk_cell BK132.out 0).trans rfl
   have hcz19_1 : w6.cell? ⟨gb132, 1, none⟩ = some (.string a0_1) := (blk_cell BK132.out 1).trans rfl
   have hcz19_2 : w6.cell? ⟨gb132, 2, none⟩ = some (.int .i64 a0_2) := (blk_cell BK132.out 2).trans rfl
   have hfz19_0 := blk_frozen BK132.out 0
   have hfz19_1 := blk_frozen BK132.out 1
   have hfz19_2 := blk_frozen BK132.out 2
   go_wp2_with (first | ((with_reducible refine gate_callee (f := 18) rfl ?_); refine goesL_ (some 8) rfl rfl Try.func18 (by kernel_rfl) rfl #[.agg #[.int .i64 a0_0, .string a0_1, .int .i64 a0_2]] rfl (by (try simp only [List.map_toArray, List.map_cons, List.map_nil]); first | done | rfl | (simp only [List.length_drop, List.length_take]; rfl)) ?_; (with_reducible refine (emulatorref26_Valid.calls k a0_0 a0_1 a0_2 false _ A7.out).mono ?_); rintro e w20 ⟨rfl, hb⟩; refine ⟨_, rfl, ?_⟩; have n0_ := Aside0.mk (blk_below (by (with_reducible repeat(first|apply bN|apply bD)); exact BK132.out) hb); have n1_ := Aside0.mk (blk_below (by (with_reducible repeat(first|apply bN|apply bD)); exact BK133.out) hb); have n2_ := Aside0.mk (blk_below (by (with_reducible repeat(first|apply bN|apply bD)); exact BK134.out) hb); have n3_ := Aside0.mk (below_step (by repeat (first|(with_reducible first | exact HB.out | apply below_alloc | apply pw_below_drewN | apply below_drew1 | refine below_set ?_ GE132.out | refine below_set ?_ GE133.out | refine below_set ?_ GE134.out) | exact HB.out)) hb); clear BK132; clear BK133; clear BK134; clear HB; have BK132 := n0_; have BK133 := n1_; have BK134 := n2_; have HB := n3_; clear n0_ n1_ n2_ n3_; (try clear hb); (try clear hb2); (try clear hk); (try clear hi)))
   go_meet
   case rel => exact ⟨_, (true), (by first | rfl | (simp; done) | (simp [*]; done)), H', ⟨by first | omega | exact Nat.le_refl _⟩, ⟨by (with_reducible repeat(first|apply bN|apply bD)); exact BK132.out⟩, ⟨by (with_reducible repeat(first|apply bN|apply bD)); exact BK133.out⟩, ⟨by (with_reducible repeat(first|apply bN|apply bD)); exact BK134.out⟩, ⟨by repeat (first|(with_reducible first | exact HB.out | apply below_alloc | apply pw_below_drewN | apply below_drew1 | refine below_set ?_ GE132.out | refine below_set ?_ GE133.out | refine below_set ?_ GE134.out) | exact HB.out)⟩⟩
 case rest =>
  clear HC3
  try clear c1
  try clear c2
  try clear p2
  try clear c8
  try clear c10
  try clear c11
  try clear c14
  try clear c17
  try clear c18
  try clear c20
  try clear hcz12_0
  try clear hcz12_1
  try clear hcz12_2
  try clear hcz15_0
  try clear hcz15_1
  try clear hcz15_2
  try clear hcz19_0
  try clear hcz19_1
  try clear hcz19_2
  try clear hfz12_0
  try clear hfz12_1
  try clear hfz12_2
  try clear hfz15_0
  try clear hfz15_1
  try clear hfz15_2
  try clear hfz19_0
  try clear hfz19_1
  try clear hfz19_2
  obtain ⟨kq, x14_2, rfl, HA, HJ2, BK132, BK133, BK134, HB⟩ := hcut
  cases kq with
  | zero => exact absurd HA.out (by simp [emulatorref26_Add.j0])
  | succ kj2 =>
   have H := HA.out
   clear HA
   simp only [emulatorref26_Add.j0] at H
   by_cases c21 : x14_2 = true
   ·subst c21
    have H1 : (some (0, (⟨#[]⟩ : ByteArray), 0, 1)) = some (r1, r2, r3, r4) := by rw [if_pos rfl] at H; exact H
    clear H
    have H := H1
    clear H1
    simp only [Option.some.injEq, Prod.mk.injEq] at H
    obtain ⟨rfl, rfl, rfl, rfl⟩ := H
    have hnb22 := NB134_132.out
    have hnc22 := NB132_134.out
    have hnb23 := NB134_133.out
    have hnc23 := NB133_134.out
    have hcz24_0 : wc.cell? ⟨gb134, 0, none⟩ = some (.int .i64 0) := (blk_cell BK134.out 0).trans rfl
    have hcz24_1 : wc.cell? ⟨gb134, 1, none⟩ = some (.string (⟨#[]⟩ : ByteArray)) := (blk_cell BK134.out 1).trans rfl
    have hcz24_2 : wc.cell? ⟨gb134, 2, none⟩ = some (.int .i64 0) := (blk_cell BK134.out 2).trans rfl
    have hfz24_0 := blk_frozen BK134.out 0
    have hfz24_1 := blk_frozen BK134.out 1
    have hfz24_2 := blk_frozen BK134.out 2
    go_wp2
    refine bodyPost_ret (results_ct rfl _ _ gb134 24 #[.int .i64 0, .string (⟨#[]⟩ : ByteArray), .int .i64 0] (0, 0) _ rfl (by (with_reducible repeat(first|apply bN|apply bD)); refine blk_put (cs := #[.int .i64 0, .string (⟨#[]⟩ : ByteArray), .int .i64 0]) ?_ 2 _ rfl; (with_reducible repeat(first|apply bN|apply bD)); refine blk_put (cs := #[.int .i64 0, .string (⟨#[]⟩ : ByteArray), .int .i64 0]) ?_ 1 _ rfl; (with_reducible repeat(first|apply bN|apply bD)); refine blk_put (cs := #[.int .i64 0, .string (⟨#[]⟩ : ByteArray), .int .i64 0]) ?_ 0 _ rfl; (with_reducible repeat(first|apply bN|apply bD)); exact BK134.out) Try.underlying24 rfl (by kernel_rfl)) rfl ?_
    exact ⟨by first | rfl | (simp [errW_none, errW_some] <;> rfl) | (simp [*, errW_none, errW_some] <;> rfl), by repeat (first|(with_reducible first | exact HB.out | apply below_alloc | apply pw_below_drewN | apply below_drew1 | refine below_set ?_ GE132.out | refine below_set ?_ GE133.out | refine below_set ?_ GE134.out) | exact HB.out)⟩
   ·replace c21 := Bool.eq_false_iff.mpr c21
    subst c21
    have H1 : ((emulatorref26_absolute.f a1_0 a1_1 a1_2).bind fun t137 => (if t137 = true then (some (a0_0, a0_1, Go.bits .and .i64 (wrap64 (a0_2 + a1_2)) 65535, 0)) else ((emulatorref26_absolute.f a0_0 a0_1 a0_2).bind fun t138 => (if t138 = true then (some (a1_0, a1_1, Go.bits .and .i64 (wrap64 (a0_2 + a1_2)) 65535, 0)) else (some (0, (⟨#[]⟩ : ByteArray), 0, 22)))))) = some (r1, r2, r3, r4) := by rw [if_neg (show ¬ (false = true) by decide)] at H; exact H
    clear H
    have H := H1
    clear H1
    replace H := Option.bind_eq_some_iff.mp H
    obtain ⟨t137, A250, H⟩ := H
    replace H : (if t137 = true then (some (a0_0, a0_1, Go.bits .and .i64 (wrap64 (a0_2 + a1_2)) 65535, 0)) else ((emulatorref26_absolute.f a0_0 a0_1 a0_2).bind fun t138 => (if t138 = true then (some (a1_0, a1_1, Go.bits .and .i64 (wrap64 (a0_2 + a1_2)) 65535, 0)) else (some (0, (⟨#[]⟩ : ByteArray), 0, 22))))) = some (r1, r2, r3, r4) := H
    have A25 := Aside0.mk A250
    clear A250
    by_cases c26 : t137 = true
    ·subst c26
     have H1 : (some (a0_0, a0_1, Go.bits .and .i64 (wrap64 (a0_2 + a1_2)) 65535, 0)) = some (r1, r2, r3, r4) := by rw [if_pos rfl] at H; exact H
     clear H
     have H := H1
     clear H1
     simp only [Option.some.injEq, Prod.mk.injEq] at H
     obtain ⟨rfl, rfl, rfl, rfl⟩ := H
     have hnb27 := NB132_133.out
     have hnc27 := NB133_132.out
     have hnb28 := NB132_134.out
     have hnc28 := NB134_132.out
     have hcz29_0 : wc.cell? ⟨gb132, 0, none⟩ = some (.int .i64 a0_0) := (blk_cell BK132.out 0).trans rfl
     have hcz29_1 : wc.cell? ⟨gb132, 1, none⟩ = some (.string a0_1) := (blk_cell BK132.out 1).trans rfl
     have hcz29_2 : wc.cell? ⟨gb132, 2, none⟩ = some (.int .i64 a0_2) := (blk_cell BK132.out 2).trans rfl
     have hfz29_0 := blk_frozen BK132.out 0
     have hfz29_1 := blk_frozen BK132.out 1
     have hfz29_2 := blk_frozen BK132.out 2
     have hnb30 := NB133_134.out
     have hnc30 := NB134_133.out
     have hcz31_0 : wc.cell? ⟨gb133, 0, none⟩ = some (.int .i64 a1_0) := (blk_cell BK133.out 0).trans rfl
     have hcz31_1 : wc.cell? ⟨gb133, 1, none⟩ = some (.string a1_1) := (blk_cell BK133.out 1).trans rfl
     have hcz31_2 : wc.cell? ⟨gb133, 2, none⟩ = some (.int .i64 a1_2) := (blk_cell BK133.out 2).trans rfl
     have hfz31_0 := blk_frozen BK133.out 0
     have hfz31_1 := blk_frozen BK133.out 1
     have hfz31_2 := blk_frozen BK133.out 2
     go_wp2_with (first | ((with_reducible refine gate_callee (f := 30) rfl ?_); refine goesL_ (some 23) rfl rfl Try.func30 (by kernel_rfl) rfl #[.agg #[.int .i64 a1_0, .string a1_1, .int .i64 a1_2]] rfl (by (try simp only [List.map_toArray, List.map_cons, List.map_nil]); first | done | rfl | (simp only [List.length_drop, List.length_take]; rfl)) ?_; (with_reducible refine (emulatorref26_absolute.calls a1_0 a1_1 a1_2 true _ A25.out).mono ?_); rintro e w32 ⟨rfl, hb⟩; refine ⟨_, rfl, ?_⟩; have n0_ := Aside0.mk (blk_below (by (with_reducible repeat(first|apply bN|apply bD)); exact BK132.out) hb); have n1_ := Aside0.mk (blk_below (by (with_reducible repeat(first|apply bN|apply bD)); exact BK133.out) hb); have n2_ := Aside0.mk (blk_below (by (with_reducible repeat(first|apply bN|apply bD)); exact BK134.out) hb); have n3_ := Aside0.mk (below_step (by repeat (first|(with_reducible first | exact HB.out | apply below_alloc | apply pw_below_drewN | apply below_drew1 | refine below_set ?_ GE132.out | refine below_set ?_ GE133.out | refine below_set ?_ GE134.out) | exact HB.out)) hb); clear BK132; clear BK133; clear BK134; clear HB; have BK132 := n0_; have BK133 := n1_; have BK134 := n2_; have HB := n3_; clear n0_ n1_ n2_ n3_; (try clear hb); (try clear hb2); (try clear hk); (try clear hi); have hcz33_0 : w32.cell? ⟨gb132, 0, none⟩ = some (.int .i64 a0_0) := (blk_cell BK132.out 0).trans rfl; have hcz33_1 : w32.cell? ⟨gb132, 1, none⟩ = some (.string a0_1) := (blk_cell BK132.out 1).trans rfl; have hcz33_2 : w32.cell? ⟨gb132, 2, none⟩ = some (.int .i64 a0_2) := (blk_cell BK132.out 2).trans rfl; have hfz33_0 := blk_frozen BK132.out 0; have hfz33_1 := blk_frozen BK132.out 1; have hfz33_2 := blk_frozen BK132.out 2; have hcz34_0 : w32.cell? ⟨gb134, 0, none⟩ = some (.int .i64 0) := (blk_cell BK134.out 0).trans rfl; have hcz34_1 : w32.cell? ⟨gb134, 1, none⟩ = some (.string (⟨#[]⟩ : ByteArray)) := (blk_cell BK134.out 1).trans rfl; have hcz34_2 : w32.cell? ⟨gb134, 2, none⟩ = some (.int .i64 0) := (blk_cell BK134.out 2).trans rfl; have hfz34_0 := blk_frozen BK134.out 0; have hfz34_1 := blk_frozen BK134.out 1; have hfz34_2 := blk_frozen BK134.out 2))
     refine bodyPost_ret (results_ct rfl _ _ gb134 24 #[.int .i64 a0_0, .string a0_1, .int .i64 (Go.bits .and .i64 (wrap64 (a0_2 + a1_2)) 65535)] (0, 0) _ rfl (by (with_reducible repeat(first|apply bN|apply bD)); refine blk_put (cs := #[.int .i64 a0_0, .string a0_1, .int .i64 0]) ?_ 2 _ rfl; (with_reducible repeat(first|apply bN|apply bD)); refine blk_put (cs := #[.int .i64 a0_0, .string (⟨#[]⟩ : ByteArray), .int .i64 0]) ?_ 1 _ rfl; (with_reducible repeat(first|apply bN|apply bD)); refine blk_put (cs := #[.int .i64 0, .string (⟨#[]⟩ : ByteArray), .int .i64 0]) ?_ 0 _ rfl; (with_reducible repeat(first|apply bN|apply bD)); refine blk_far ?_ NB134_132.out _; (with_reducible repeat(first|apply bN|apply bD)); exact BK134.out) Try.underlying24 rfl (by kernel_rfl)) rfl ?_
     exact ⟨by first | rfl | (simp [errW_none, errW_some] <;> rfl) | (simp [*, errW_none, errW_some] <;> rfl), by repeat (first|(with_reducible first | exact HB.out | apply below_alloc | apply pw_below_drewN | apply below_drew1 | refine below_set ?_ GE132.out | refine below_set ?_ GE133.out | refine below_set ?_ GE134.out) | exact HB.out)⟩
    ·replace c26 := Bool.eq_false_iff.mpr c26
     subst c26
     have H1 : ((emulatorref26_absolute.f a0_0 a0_1 a0_2).bind fun t138 => (if t138 = true then (some (a1_0, a1_1, Go.bits .and .i64 (wrap64 (a0_2 + a1_2)) 65535, 0)) else (some (0, (⟨#[]⟩ : ByteArray), 0, 22)))) = some (r1, r2, r3, r4) := by rw [if_neg (show ¬ (false = true) by decide)] at H; exact H
     clear H
     have H := H1
     clear H1
     replace H := Option.bind_eq_some_iff.mp H
     obtain ⟨t138, A350, H⟩ := H
     replace H : (if t138 = true then (some (a1_0, a1_1, Go.bits .and .i64 (wrap64 (a0_2 + a1_2)) 65535, 0)) else (some (0, (⟨#[]⟩ : ByteArray), 0, 22))) = some (r1, r2, r3, r4) := H
     have A35 := Aside0.mk A350
     clear A350
     by_cases c36 : t138 = true
     ·subst c36
      have H1 : (some (a1_0, a1_1, Go.bits .and .i64 (wrap64 (a0_2 + a1_2)) 65535, 0)) = some (r1, r2, r3, r4) := by rw [if_pos rfl] at H; exact H
      clear H
      have H := H1
      clear H1
      simp only [Option.some.injEq, Prod.mk.injEq] at H
      obtain ⟨rfl, rfl, rfl, rfl⟩ := H
      have hnb37 := NB132_133.out
      have hnc37 := NB133_132.out
      have hnb38 := NB132_134.out
      have hnc38 := NB134_132.out
      have hcz39_0 : wc.cell? ⟨gb132, 0, none⟩ = some (.int .i64 a0_0) := (blk_cell BK132.out 0).trans rfl
      have hcz39_1 : wc.cell? ⟨gb132, 1, none⟩ = some (.string a0_1) := (blk_cell BK132.out 1).trans rfl
      have hcz39_2 : wc.cell? ⟨gb132, 2, none⟩ = some (.int .i64 a0_2) := (blk_cell BK132.out 2).trans rfl
      have hfz39_0 := blk_frozen BK132.out 0
      have hfz39_1 := blk_frozen BK132.out 1
      have hfz39_2 := blk_frozen BK132.out 2
      have hnb40 := NB133_134.out
      have hnc40 := NB134_133.out
      have hcz41_0 : wc.cell? ⟨gb133, 0, none⟩ = some (.int .i64 a1_0) := (blk_cell BK133.out 0).trans rfl
      have hcz41_1 : wc.cell? ⟨gb133, 1, none⟩ = some (.string a1_1) := (blk_cell BK133.out 1).trans rfl
      have hcz41_2 : wc.cell? ⟨gb133, 2, none⟩ = some (.int .i64 a1_2) := (blk_cell BK133.out 2).trans rfl
      have hfz41_0 := blk_frozen BK133.out 0
      have hfz41_1 := blk_frozen BK133.out 1
      have hfz41_2 := blk_frozen BK133.out 2
      go_wp2_with (first | ((with_reducible refine gate_callee (f := 30) rfl ?_); refine goesL_ (some 23) rfl rfl Try.func30 (by kernel_rfl) rfl #[.agg #[.int .i64 a1_0, .string a1_1, .int .i64 a1_2]] rfl (by (try simp only [List.map_toArray, List.map_cons, List.map_nil]); first | done | rfl | (simp only [List.length_drop, List.length_take]; rfl)) ?_; (with_reducible refine (emulatorref26_absolute.calls a1_0 a1_1 a1_2 false _ A25.out).mono ?_); rintro e w42 ⟨rfl, hb⟩; refine ⟨_, rfl, ?_⟩; have n0_ := Aside0.mk (blk_below (by (with_reducible repeat(first|apply bN|apply bD)); exact BK132.out) hb); have n1_ := Aside0.mk (blk_below (by (with_reducible repeat(first|apply bN|apply bD)); exact BK133.out) hb); have n2_ := Aside0.mk (blk_below (by (with_reducible repeat(first|apply bN|apply bD)); exact BK134.out) hb); have n3_ := Aside0.mk (below_step (by repeat (first|(with_reducible first | exact HB.out | apply below_alloc | apply pw_below_drewN | apply below_drew1 | refine below_set ?_ GE132.out | refine below_set ?_ GE133.out | refine below_set ?_ GE134.out) | exact HB.out)) hb); clear BK132; clear BK133; clear BK134; clear HB; have BK132 := n0_; have BK133 := n1_; have BK134 := n2_; have HB := n3_; clear n0_ n1_ n2_ n3_; (try clear hb); (try clear hb2); (try clear hk); (try clear hi); have hcz43_0 : w42.cell? ⟨gb132, 0, none⟩ = some (.int .i64 a0_0) := (blk_cell BK132.out 0).trans rfl; have hcz43_1 : w42.cell? ⟨gb132, 1, none⟩ = some (.string a0_1) := (blk_cell BK132.out 1).trans rfl; have hcz43_2 : w42.cell? ⟨gb132, 2, none⟩ = some (.int .i64 a0_2) := (blk_cell BK132.out 2).trans rfl; have hfz43_0 := blk_frozen BK132.out 0; have hfz43_1 := blk_frozen BK132.out 1; have hfz43_2 := blk_frozen BK132.out 2) | ((with_reducible refine gate_callee (f := 30) rfl ?_); refine goesL_ (some 28) rfl rfl Try.func30 (by kernel_rfl) rfl #[.agg #[.int .i64 a0_0, .string a0_1, .int .i64 a0_2]] rfl (by (try simp only [List.map_toArray, List.map_cons, List.map_nil]); first | done | rfl | (simp only [List.length_drop, List.length_take]; rfl)) ?_; (with_reducible refine (emulatorref26_absolute.calls a0_0 a0_1 a0_2 true _ A35.out).mono ?_); rintro e w44 ⟨rfl, hb⟩; refine ⟨_, rfl, ?_⟩; have n0_ := Aside0.mk (blk_below (by (with_reducible repeat(first|apply bN|apply bD)); exact BK132.out) hb); have n1_ := Aside0.mk (blk_below (by (with_reducible repeat(first|apply bN|apply bD)); exact BK133.out) hb); have n2_ := Aside0.mk (blk_below (by (with_reducible repeat(first|apply bN|apply bD)); exact BK134.out) hb); have n3_ := Aside0.mk (below_step (by repeat (first|(with_reducible first | exact HB.out | apply below_alloc | apply pw_below_drewN | apply below_drew1 | refine below_set ?_ GE132.out | refine below_set ?_ GE133.out | refine below_set ?_ GE134.out) | exact HB.out)) hb); clear BK132; clear BK133; clear BK134; clear HB; have BK132 := n0_; have BK133 := n1_; have BK134 := n2_; have HB := n3_; clear n0_ n1_ n2_ n3_; (try clear hb); (try clear hb2); (try clear hk); (try clear hi); have hcz45_0 : w44.cell? ⟨gb133, 0, none⟩ = some (.int .i64 a1_0) := (blk_cell BK133.out 0).trans rfl; have hcz45_1 : w44.cell? ⟨gb133, 1, none⟩ = some (.string a1_1) := (blk_cell BK133.out 1).trans rfl; have hcz45_2 : w44.cell? ⟨gb133, 2, none⟩ = some (.int .i64 a1_2) := (blk_cell BK133.out 2).trans rfl; have hfz45_0 := blk_frozen BK133.out 0; have hfz45_1 := blk_frozen BK133.out 1; have hfz45_2 := blk_frozen BK133.out 2; have hcz46_0 : w44.cell? ⟨gb134, 0, none⟩ = some (.int .i64 0) := (blk_cell BK134.out 0).trans rfl; have hcz46_1 : w44.cell? ⟨gb134, 1, none⟩ = some (.string (⟨#[]⟩ : ByteArray)) := (blk_cell BK134.out 1).trans rfl; have hcz46_2 : w44.cell? ⟨gb134, 2, none⟩ = some (.int .i64 0) := (blk_cell BK134.out 2).trans rfl; have hfz46_0 := blk_frozen BK134.out 0; have hfz46_1 := blk_frozen BK134.out 1; have hfz46_2 := blk_frozen BK134.out 2))
      refine bodyPost_ret (results_ct rfl _ _ gb134 24 #[.int .i64 a1_0, .string a1_1, .int .i64 (Go.bits .and .i64 (wrap64 (a0_2 + a1_2)) 65535)] (0, 0) _ rfl (by (with_reducible repeat(first|apply bN|apply bD)); refine blk_put (cs := #[.int .i64 a1_0, .string a1_1, .int .i64 0]) ?_ 2 _ rfl; (with_reducible repeat(first|apply bN|apply bD)); refine blk_put (cs := #[.int .i64 a1_0, .string (⟨#[]⟩ : ByteArray), .int .i64 0]) ?_ 1 _ rfl; (with_reducible repeat(first|apply bN|apply bD)); refine blk_put (cs := #[.int .i64 0, .string (⟨#[]⟩ : ByteArray), .int .i64 0]) ?_ 0 _ rfl; (with_reducible repeat(first|apply bN|apply bD)); refine blk_far ?_ NB134_133.out _; (with_reducible repeat(first|apply bN|apply bD)); exact BK134.out) Try.underlying24 rfl (by kernel_rfl)) rfl ?_
      exact ⟨by first | rfl | (simp [errW_none, errW_some] <;> rfl) | (simp [*, errW_none, errW_some] <;> rfl), by repeat (first|(with_reducible first | exact HB.out | apply below_alloc | apply pw_below_drewN | apply below_drew1 | refine below_set ?_ GE132.out | refine below_set ?_ GE133.out | refine below_set ?_ GE134.out) | exact HB.out)⟩
     ·replace c36 := Bool.eq_false_iff.mpr c36
      subst c36
      have H1 : (some (0, (⟨#[]⟩ : ByteArray), 0, 22)) = some (r1, r2, r3, r4) := by rw [if_neg (show ¬ (false = true) by decide)] at H; exact H
      clear H
      have H := H1
      clear H1
      simp only [Option.some.injEq, Prod.mk.injEq] at H
      obtain ⟨rfl, rfl, rfl, rfl⟩ := H
      have hnb47 := NB132_133.out
      have hnc47 := NB133_132.out
      have hnb48 := NB132_134.out
      have hnc48 := NB134_132.out
      have hcz49_0 : wc.cell? ⟨gb132, 0, none⟩ = some (.int .i64 a0_0) := (blk_cell BK132.out 0).trans rfl
      have hcz49_1 : wc.cell? ⟨gb132, 1, none⟩ = some (.string a0_1) := (blk_cell BK132.out 1).trans rfl
      have hcz49_2 : wc.cell? ⟨gb132, 2, none⟩ = some (.int .i64 a0_2) := (blk_cell BK132.out 2).trans rfl
      have hfz49_0 := blk_frozen BK132.out 0
      have hfz49_1 := blk_frozen BK132.out 1
      have hfz49_2 := blk_frozen BK132.out 2
      have hnb50 := NB133_134.out
      have hnc50 := NB134_133.out
      have hcz51_0 : wc.cell? ⟨gb133, 0, none⟩ = some (.int .i64 a1_0) := (blk_cell BK133.out 0).trans rfl
      have hcz51_1 : wc.cell? ⟨gb133, 1, none⟩ = some (.string a1_1) := (blk_cell BK133.out 1).trans rfl
      have hcz51_2 : wc.cell? ⟨gb133, 2, none⟩ = some (.int .i64 a1_2) := (blk_cell BK133.out 2).trans rfl
      have hfz51_0 := blk_frozen BK133.out 0
      have hfz51_1 := blk_frozen BK133.out 1
      have hfz51_2 := blk_frozen BK133.out 2
      go_wp2_with (first | ((with_reducible refine gate_callee (f := 30) rfl ?_); refine goesL_ (some 23) rfl rfl Try.func30 (by kernel_rfl) rfl #[.agg #[.int .i64 a1_0, .string a1_1, .int .i64 a1_2]] rfl (by (try simp only [List.map_toArray, List.map_cons, List.map_nil]); first | done | rfl | (simp only [List.length_drop, List.length_take]; rfl)) ?_; (with_reducible refine (emulatorref26_absolute.calls a1_0 a1_1 a1_2 false _ A25.out).mono ?_); rintro e w52 ⟨rfl, hb⟩; refine ⟨_, rfl, ?_⟩; have n0_ := Aside0.mk (blk_below (by (with_reducible repeat(first|apply bN|apply bD)); exact BK132.out) hb); have n1_ := Aside0.mk (blk_below (by (with_reducible repeat(first|apply bN|apply bD)); exact BK133.out) hb); have n2_ := Aside0.mk (blk_below (by (with_reducible repeat(first|apply bN|apply bD)); exact BK134.out) hb); have n3_ := Aside0.mk (below_step (by repeat (first|(with_reducible first | exact HB.out | apply below_alloc | apply pw_below_drewN | apply below_drew1 | refine below_set ?_ GE132.out | refine below_set ?_ GE133.out | refine below_set ?_ GE134.out) | exact HB.out)) hb); clear BK132; clear BK133; clear BK134; clear HB; have BK132 := n0_; have BK133 := n1_; have BK134 := n2_; have HB := n3_; clear n0_ n1_ n2_ n3_; (try clear hb); (try clear hb2); (try clear hk); (try clear hi); have hcz53_0 : w52.cell? ⟨gb132, 0, none⟩ = some (.int .i64 a0_0) := (blk_cell BK132.out 0).trans rfl; have hcz53_1 : w52.cell? ⟨gb132, 1, none⟩ = some (.string a0_1) := (blk_cell BK132.out 1).trans rfl; have hcz53_2 : w52.cell? ⟨gb132, 2, none⟩ = some (.int .i64 a0_2) := (blk_cell BK132.out 2).trans rfl; have hfz53_0 := blk_frozen BK132.out 0; have hfz53_1 := blk_frozen BK132.out 1; have hfz53_2 := blk_frozen BK132.out 2) | ((with_reducible refine gate_callee (f := 30) rfl ?_); refine goesL_ (some 28) rfl rfl Try.func30 (by kernel_rfl) rfl #[.agg #[.int .i64 a0_0, .string a0_1, .int .i64 a0_2]] rfl (by (try simp only [List.map_toArray, List.map_cons, List.map_nil]); first | done | rfl | (simp only [List.length_drop, List.length_take]; rfl)) ?_; (with_reducible refine (emulatorref26_absolute.calls a0_0 a0_1 a0_2 false _ A35.out).mono ?_); rintro e w54 ⟨rfl, hb⟩; refine ⟨_, rfl, ?_⟩; have n0_ := Aside0.mk (blk_below (by (with_reducible repeat(first|apply bN|apply bD)); exact BK132.out) hb); have n1_ := Aside0.mk (blk_below (by (with_reducible repeat(first|apply bN|apply bD)); exact BK133.out) hb); have n2_ := Aside0.mk (blk_below (by (with_reducible repeat(first|apply bN|apply bD)); exact BK134.out) hb); have n3_ := Aside0.mk (below_step (by repeat (first|(with_reducible first | exact HB.out | apply below_alloc | apply pw_below_drewN | apply below_drew1 | refine below_set ?_ GE132.out | refine below_set ?_ GE133.out | refine below_set ?_ GE134.out) | exact HB.out)) hb); clear BK132; clear BK133; clear BK134; clear HB; have BK132 := n0_; have BK133 := n1_; have BK134 := n2_; have HB := n3_; clear n0_ n1_ n2_ n3_; (try clear hb); (try clear hb2); (try clear hk); (try clear hi); have hcz55_0 : w54.cell? ⟨gb134, 0, none⟩ = some (.int .i64 0) := (blk_cell BK134.out 0).trans rfl; have hcz55_1 : w54.cell? ⟨gb134, 1, none⟩ = some (.string (⟨#[]⟩ : ByteArray)) := (blk_cell BK134.out 1).trans rfl; have hcz55_2 : w54.cell? ⟨gb134, 2, none⟩ = some (.int .i64 0) := (blk_cell BK134.out 2).trans rfl; have hfz55_0 := blk_frozen BK134.out 0; have hfz55_1 := blk_frozen BK134.out 1; have hfz55_2 := blk_frozen BK134.out 2))
      refine bodyPost_ret (results_ct rfl _ _ gb134 24 #[.int .i64 0, .string (⟨#[]⟩ : ByteArray), .int .i64 0] (0, 0) _ rfl (by (with_reducible repeat(first|apply bN|apply bD)); refine blk_put (cs := #[.int .i64 0, .string (⟨#[]⟩ : ByteArray), .int .i64 0]) ?_ 2 _ rfl; (with_reducible repeat(first|apply bN|apply bD)); refine blk_put (cs := #[.int .i64 0, .string (⟨#[]⟩ : ByteArray), .int .i64 0]) ?_ 1 _ rfl; (with_reducible repeat(first|apply bN|apply bD)); refine blk_put (cs := #[.int .i64 0, .string (⟨#[]⟩ : ByteArray), .int .i64 0]) ?_ 0 _ rfl; (with_reducible repeat(first|apply bN|apply bD)); exact BK134.out) Try.underlying24 rfl (by kernel_rfl)) rfl ?_
      exact ⟨by first | rfl | (simp [errW_none, errW_some] <;> rfl) | (simp [*, errW_none, errW_some] <;> rfl), by repeat (first|(with_reducible first | exact HB.out | apply below_alloc | apply pw_below_drewN | apply below_drew1 | refine below_set ?_ GE132.out | refine below_set ?_ GE133.out | refine below_set ?_ GE134.out) | exact HB.out)⟩
def asmexpr_Sub.f (a0_0 : Int) (a0_1 : ByteArray) (a0_2 : Int) (a1_0 : Int) (a1_1 : ByteArray) (a1_2 : Int) : Option (Int × ByteArray × Int × Int) := (asmexpr_Binary.f (⟨#[45]⟩ : ByteArray) a0_0 a0_1 a0_2 a1_0 a1_1 a1_2).bind fun bt142 => (some (bt142.1, bt142.2.1, bt142.2.2.1, bt142.2.2.2))
end Go.Proofs.Ytpinoobgnnlccaa.A
namespace Go.Proofs.Ytpinoobgnnlccaa.A
open Go.RowKit Go.Proofs.YtpinoobgnnlccaaW.PrintWords Go.Proofs.YtpinoobgnnlccaaW.PrintLast Go.Proofs.YtpinoobgnnlccaaW.PrintMore
attribute [local go_sem] max2_int min2_int max_two min_two max_three min_three max_four min_four
set_option linter.unusedVariables false
set_option linter.unusedSimpArgs false
def emulatorref26_Sub.j0 : Nat → Bool → Int → ByteArray → Int → Int → ByteArray → Int → Option (Int × ByteArray × Int × Int)
 | 0, _, _, _, _, _, _, _ => none
 | k + 1, x14, x147000, x147001, x147002, x148000, x148001, x148002 => if x14 = true then (some (0, (⟨#[]⟩ : ByteArray), 0, 1)) else ((emulatorref26_absolute.f x148000 x148001 x148002).bind fun t151 => (if t151 = true then (some (x147000, x147001, Go.bits .and .i64 (wrap64 (x147002 - x148002)) 65535, 0)) else (if x147000 = x148000 then (if x147000 = 4 then (some (0, (⟨#[]⟩ : ByteArray), 0, 22)) else (some (0, (⟨#[]⟩ : ByteArray), Go.bits .and .i64 (wrap64 (x147002 - x148002)) 65535, 0))) else (some (0, (⟨#[]⟩ : ByteArray), 0, 22)))))
def emulatorref26_Sub.f (k : Nat) (a0_0 : Int) (a0_1 : ByteArray) (a0_2 : Int) (a1_0 : Int) (a1_1 : ByteArray) (a1_2 : Int) : Option (Int × ByteArray × Int × Int) := (emulatorref26_Valid.f k a0_0 a0_1 a0_2).bind fun t149 => (if t149 = true then ((emulatorref26_Valid.f k a1_0 a1_1 a1_2).bind fun t150 => (emulatorref26_Sub.j0 k (!t150) a0_0 a0_1 a0_2 a1_0 a1_1 a1_2)) else (emulatorref26_Sub.j0 k true a0_0 a0_1 a0_2 a1_0 a1_1 a1_2))
set_option maxHeartbeats 8000000 in
set_option maxRecDepth 100000 in
theorem emulatorref26_Sub.calls (k : Nat) (a0_0 : Int) (a0_1 : ByteArray) (a0_2 : Int) (a1_0 : Int) (a1_1 : ByteArray) (a1_2 : Int) (r1 : Int) (r2 : ByteArray) (r3 : Int) (r4 : Int) (w : World) (h : emulatorref26_Sub.f k a0_0 a0_1 a0_2 a1_0 a1_1 a1_2 = some (r1, r2, r3, r4)) :
  Calls Try.prog 22 #[.agg #[.int .i64 a0_0, .string a0_1, .int .i64 a0_2], .agg #[.int .i64 a1_0, .string a1_1, .int .i64 a1_2]] w fun e w' => e = .returned (.tuple #[.agg #[.int .i64 r1, .string r2, .int .i64 r3], .int .i64 r4]) ∧ Below w.heap.size w w' := by
 have hu24 := Try.underlying24
 have HB := Aside0.mk (Below.refl w.heap.size w)
 have H : ((emulatorref26_Valid.f k a0_0 a0_1 a0_2).bind fun t149 => (if t149 = true then ((emulatorref26_Valid.f k a1_0 a1_1 a1_2).bind fun t150 => (emulatorref26_Sub.j0 k (!t150) a0_0 a0_1 a0_2 a1_0 a1_1 a1_2)) else (emulatorref26_Sub.j0 k true a0_0 a0_1 a0_2 a1_0 a1_1 a1_2))) = some (r1, r2, r3, r4) := h
 clear h
 have HC3 := Aside0.mk H
 clear H
 go_enter Try.func22, Try.ntmps22
 go_upto_region 1 with (first | ((with_reducible refine gate_dst (N := 2) rfl ?_); refine box_event ?hg (N := 2) ?hd (cs := #[.int .i64 a0_0, .string a0_1, .int .i64 a0_2]) (t := 24) ?hr ?_; (case hd => rfl); (case hg => rfl); (case hr => first | (go_simp; done) | (go_simp; rfl)); intro gb146 hg w4 hbox hb; have n0_ := Aside0.mk (below_step (by repeat (first|(with_reducible first | exact HB.out | apply below_alloc | apply pw_below_drewN | apply below_drew1) | exact HB.out)) hb); have n1_ := Aside0.mk (hbox); have n2_ := Aside0.mk ((by rw [hg]; exact (below_size (by repeat (first|(with_reducible first | exact HB.out | apply below_alloc | apply pw_below_drewN | apply below_drew1) | exact HB.out))) : w.heap.size ≤ gb146)); have n3_ := n2_; clear HB; have HB := n0_; have BK146 := n1_; have GW146 := n2_; have GE146 := n3_; clear n0_ n1_ n2_ n3_; clear hb hbox hg) | ((with_reducible refine gate_dst (N := 3) rfl ?_); refine box_event ?hg (N := 3) ?hd (cs := #[.int .i64 a1_0, .string a1_1, .int .i64 a1_2]) (t := 24) ?hr ?_; (case hd => rfl); (case hg => rfl); (case hr => first | (go_simp; done) | (go_simp; rfl)); intro gb147 hg w5 hbox hb; have n0_ := Aside0.mk (blk_below (by (with_reducible repeat(first|apply bN|apply bD)); exact BK146.out) hb); have n1_ := Aside0.mk (below_step (by repeat (first|(with_reducible first | exact HB.out | apply below_alloc | apply pw_below_drewN | apply below_drew1 | refine below_set ?_ GE146.out) | exact HB.out)) hb); have n2_ := Aside0.mk (hbox); have n3_ := Aside0.mk ((by rw [hg]; exact (below_size (by repeat (first|(with_reducible first | exact HB.out | apply below_alloc | apply pw_below_drewN | apply below_drew1 | refine below_set ?_ GE146.out) | exact HB.out))) : w.heap.size ≤ gb147)); have n4_ := n3_; have n5_ := Aside0.mk ((by rw [hg]; exact Nat.ne_of_lt (blk_lt (by (with_reducible repeat(first|apply bN|apply bD)); exact BK146.out)) : gb146 ≠ gb147)); have n6_ := Aside0.mk n5_.out.symm; clear BK146; clear HB; have BK146 := n0_; have HB := n1_; have BK147 := n2_; have GW147 := n3_; have GE147 := n4_; have NB146_147 := n5_; have NB147_146 := n6_; clear n0_ n1_ n2_ n3_ n4_ n5_ n6_; clear hb hbox hg) | ((with_reducible refine gate_dst (N := 4) rfl ?_); refine box_event ?hg (N := 4) ?hd (cs := #[.int .i64 0, .string (⟨#[]⟩ : ByteArray), .int .i64 0]) (t := 24) ?hr ?_; (case hd => rfl); (case hg => rfl); (case hr => first | (go_simp; done) | (go_simp; rfl)); intro gb148 hg w6 hbox hb; have n0_ := Aside0.mk (blk_below (by (with_reducible repeat(first|apply bN|apply bD)); exact BK146.out) hb); have n1_ := Aside0.mk (blk_below (by (with_reducible repeat(first|apply bN|apply bD)); exact BK147.out) hb); have n2_ := Aside0.mk (below_step (by repeat (first|(with_reducible first | exact HB.out | apply below_alloc | apply pw_below_drewN | apply below_drew1 | refine below_set ?_ GE146.out | refine below_set ?_ GE147.out) | exact HB.out)) hb); have n3_ := Aside0.mk (hbox); have n4_ := Aside0.mk ((by rw [hg]; exact (below_size (by repeat (first|(with_reducible first | exact HB.out | apply below_alloc | apply pw_below_drewN | apply below_drew1 | refine below_set ?_ GE146.out | refine below_set ?_ GE147.out) | exact HB.out))) : w.heap.size ≤ gb148)); have n5_ := n4_; have n6_ := Aside0.mk ((by rw [hg]; exact Nat.ne_of_lt (blk_lt (by (with_reducible repeat(first|apply bN|apply bD)); exact BK146.out)) : gb146 ≠ gb148)); have n7_ := Aside0.mk n6_.out.symm; have n8_ := Aside0.mk ((by rw [hg]; exact Nat.ne_of_lt (blk_lt (by (with_reducible repeat(first|apply bN|apply bD)); exact BK147.out)) : gb147 ≠ gb148)); have n9_ := Aside0.mk n8_.out.symm; clear BK146; clear BK147; clear HB; have BK146 := n0_; have BK147 := n1_; have HB := n2_; have BK148 := n3_; have GW148 := n4_; have GE148 := n5_; have NB146_148 := n6_; have NB148_146 := n7_; have NB147_148 := n8_; have NB148_147 := n9_; clear n0_ n1_ n2_ n3_ n4_ n5_ n6_ n7_ n8_ n9_; clear hb hbox hg))
 (try simp only [Act.put, List.setIfInBounds_toArray, List.set_cons_zero, List.set_cons_succ])
 go_cut [14] (fun v14 wc => ∃ (kq : Nat) (x14_2 : Bool), v14 = .bool x14_2 ∧ Aside0 (emulatorref26_Sub.j0 kq x14_2 a0_0 a0_1 a0_2 a1_0 a1_1 a1_2 = some (r1, r2, r3, r4)) ∧ Aside0 (kq ≤ k) ∧ Aside0 (wc.heap[gb146]? = some (.cells #[.int .i64 a0_0, .string a0_1, .int .i64 a0_2] 24 (0, 0))) ∧ Aside0 (wc.heap[gb147]? = some (.cells #[.int .i64 a1_0, .string a1_1, .int .i64 a1_2] 24 (0, 0))) ∧ Aside0 (wc.heap[gb148]? = some (.cells #[.int .i64 0, .string (⟨#[]⟩ : ByteArray), .int .i64 0] 24 (0, 0))) ∧ Aside0 (Below w.heap.size w wc))
 case first =>
  have H := HC3.out
  clear HC3
  replace H := Option.bind_eq_some_iff.mp H
  obtain ⟨t149, A70, H⟩ := H
  replace H : (if t149 = true then ((emulatorref26_Valid.f k a1_0 a1_1 a1_2).bind fun t150 => (emulatorref26_Sub.j0 k (!t150) a0_0 a0_1 a0_2 a1_0 a1_1 a1_2)) else (emulatorref26_Sub.j0 k true a0_0 a0_1 a0_2 a1_0 a1_1 a1_2)) = some (r1, r2, r3, r4) := H
  have A7 := Aside0.mk A70
  clear A70
  by_cases c8 : t149 = true
  ·subst c8
   have H1 : ((emulatorref26_Valid.f k a1_0 a1_1 a1_2).bind fun t150 => (emulatorref26_Sub.j0 k (!t150) a0_0 a0_1 a0_2 a1_0 a1_1 a1_2)) = some (r1, r2, r3, r4) := by rw [if_pos rfl] at H; exact H
   clear H
   have H := H1
   clear H1
   replace H := Option.bind_eq_some_iff.mp H
   obtain ⟨t150, A90, H⟩ := H
   replace H : (emulatorref26_Sub.j0 k (!t150) a0_0 a0_1 a0_2 a1_0 a1_1 a1_2) = some (r1, r2, r3, r4) := H
   have A9 := Aside0.mk A90
   clear A90
   have H' := Aside0.mk H
   clear H
   have hnb10 := NB146_147.out
   have hnc10 := NB147_146.out
   have hnb11 := NB146_148.out
   have hnc11 := NB148_146.out
   have hcz12_0 : w6.cell? ⟨gb146, 0, none⟩ = some (.int .i64 a0_0) := (blk_cell BK146.out 0).trans rfl
   have hcz12_1 : w6.cell? ⟨gb146, 1, none⟩ = some (.string a0_1) := (blk_cell BK146.out 1).trans rfl
   have hcz12_2 : w6.cell? ⟨gb146, 2, none⟩ = some (.int .i64 a0_2) := (blk_cell BK146.out 2).trans rfl
   have hfz12_0 := blk_frozen BK146.out 0
   have hfz12_1 := blk_frozen BK146.out 1
   have hfz12_2 := blk_frozen BK146.out 2
   go_wp2_with (first | ((with_reducible refine gate_callee (f := 18) rfl ?_); refine goesL_ (some 8) rfl rfl Try.func18 (by kernel_rfl) rfl #[.agg #[.int .i64 a0_0, .string a0_1, .int .i64 a0_2]] rfl (by (try simp only [List.map_toArray, List.map_cons, List.map_nil]); first | done | rfl | (simp only [List.length_drop, List.length_take]; rfl)) ?_; (with_reducible refine (emulatorref26_Valid.calls k a0_0 a0_1 a0_2 true _ A7.out).mono ?_); rintro e w13 ⟨rfl, hb⟩; refine ⟨_, rfl, ?_⟩; have n0_ := Aside0.mk (blk_below (by (with_reducible repeat(first|apply bN|apply bD)); exact BK146.out) hb); have n1_ := Aside0.mk (blk_below (by (with_reducible repeat(first|apply bN|apply bD)); exact BK147.out) hb); have n2_ := Aside0.mk (blk_below (by (with_reducible repeat(first|apply bN|apply bD)); exact BK148.out) hb); have n3_ := Aside0.mk (below_step (by repeat (first|(with_reducible first | exact HB.out | apply below_alloc | apply pw_below_drewN | apply below_drew1 | refine below_set ?_ GE146.out | refine below_set ?_ GE147.out | refine below_set ?_ GE148.out) | exact HB.out)) hb); clear BK146; clear BK147; clear BK148; clear HB; have BK146 := n0_; have BK147 := n1_; have BK148 := n2_; have HB := n3_; clear n0_ n1_ n2_ n3_; (try clear hb); (try clear hb2); (try clear hk); (try clear hi); have hnb14 := NB147_148.out; have hnc14 := NB148_147.out; have hcz15_0 : w13.cell? ⟨gb147, 0, none⟩ = some (.int .i64 a1_0) := (blk_cell BK147.out 0).trans rfl; have hcz15_1 : w13.cell? ⟨gb147, 1, none⟩ = some (.string a1_1) := (blk_cell BK147.out 1).trans rfl; have hcz15_2 : w13.cell? ⟨gb147, 2, none⟩ = some (.int .i64 a1_2) := (blk_cell BK147.out 2).trans rfl; have hfz15_0 := blk_frozen BK147.out 0; have hfz15_1 := blk_frozen BK147.out 1; have hfz15_2 := blk_frozen BK147.out 2) | (go_at_call 18; (with_reducible refine (emulatorref26_Valid.calls k a1_0 a1_1 a1_2 t150 _ A9.out).mono ?_); rintro e w16 ⟨rfl, hb⟩; have n0_ := Aside0.mk (blk_below (by (with_reducible repeat(first|apply bN|apply bD)); exact BK146.out) hb); have n1_ := Aside0.mk (blk_below (by (with_reducible repeat(first|apply bN|apply bD)); exact BK147.out) hb); have n2_ := Aside0.mk (blk_below (by (with_reducible repeat(first|apply bN|apply bD)); exact BK148.out) hb); have n3_ := Aside0.mk (below_step (by repeat (first|(with_reducible first | exact HB.out | apply below_alloc | apply pw_below_drewN | apply below_drew1 | refine below_set ?_ GE146.out | refine below_set ?_ GE147.out | refine below_set ?_ GE148.out) | exact HB.out)) hb); clear BK146; clear BK147; clear BK148; clear HB; have BK146 := n0_; have BK147 := n1_; have BK148 := n2_; have HB := n3_; clear n0_ n1_ n2_ n3_; (try clear hb); (try clear hb2); (try clear hk); (try clear hi)))
   go_meet
   case rel => exact ⟨_, (!t150), (by first | rfl | (simp; done) | (simp [*]; done)), H', ⟨by first | omega | exact Nat.le_refl _⟩, ⟨by (with_reducible repeat(first|apply bN|apply bD)); exact BK146.out⟩, ⟨by (with_reducible repeat(first|apply bN|apply bD)); exact BK147.out⟩, ⟨by (with_reducible repeat(first|apply bN|apply bD)); exact BK148.out⟩, ⟨by repeat (first|(with_reducible first | exact HB.out | apply below_alloc | apply pw_below_drewN | apply below_drew1 | refine below_set ?_ GE146.out | refine below_set ?_ GE147.out | refine below_set ?_ GE148.out) | exact HB.out)⟩⟩
  ·replace c8 := Bool.eq_false_iff.mpr c8
   subst c8
   have H1 : (emulatorref26_Sub.j0 k true a0_0 a0_1 a0_2 a1_0 a1_1 a1_2) = some (r1, r2, r3, r4) := by rw [if_neg (show ¬ (false = true) by decide)] at H; exact H
   clear H
   have H := H1
   clear H1
   have H' := Aside0.mk H
   clear H
   have hnb17 := NB146_147.out
   have hnc17 := NB147_146.out
   have hnb18 := NB146_148.out
   have hnc18 := NB148_146.out
   have hcz19_0 : w6.cell? ⟨gb146, 0, none⟩ = some (.int .i64 a0_0) := (blk_cell BK146.out 0).trans rfl
   have hcz19_1 : w6.cell? ⟨gb146, 1, none⟩ = some (.string a0_1) := (blk_cell BK146.out 1).trans rfl
   have hcz19_2 : w6.cell? ⟨gb146, 2, none⟩ = some (.int .i64 a0_2) := (blk_cell BK146.out 2).trans rfl
   have hfz19_0 := blk_frozen BK146.out 0
   have hfz19_1 := blk_frozen BK146.out 1
   have hfz19_2 := blk_frozen BK146.out 2
   go_wp2_with (first | ((with_reducible refine gate_callee (f := 18) rfl ?_); refine goesL_ (some 8) rfl rfl Try.func18 (by kernel_rfl) rfl #[.agg #[.int .i64 a0_0, .string a0_1, .int .i64 a0_2]] rfl (by (try simp only [List.map_toArray, List.map_cons, List.map_nil]); first | done | rfl | (simp only [List.length_drop, List.length_take]; rfl)) ?_; (with_reducible refine (emulatorref26_Valid.calls k a0_0 a0_1 a0_2 false _ A7.out).mono ?_); rintro e w20 ⟨rfl, hb⟩; refine ⟨_, rfl, ?_⟩; have n0_ := Aside0.mk (blk_below (by (with_reducible repeat(first|apply bN|apply bD)); exact BK146.out) hb); have n1_ := Aside0.mk (blk_below (by (with_reducible repeat(first|apply bN|apply bD)); exact BK147.out) hb); have n2_ := Aside0.mk (blk_below (by (with_reducible repeat(first|apply bN|apply bD)); exact BK148.out) hb); have n3_ := Aside0.mk (below_step (by repeat (first|(with_reducible first | exact HB.out | apply below_alloc | apply pw_below_drewN | apply below_drew1 | refine below_set ?_ GE146.out | refine below_set ?_ GE147.out | refine below_set ?_ GE148.out) | exact HB.out)) hb); clear BK146; clear BK147; clear BK148; clear HB; have BK146 := n0_; have BK147 := n1_; have BK148 := n2_; have HB := n3_; clear n0_ n1_ n2_ n3_; (try clear hb); (try clear hb2); (try clear hk); (try clear hi)))
   go_meet
   case rel => exact ⟨_, (true), (by first | rfl | (simp; done) | (simp [*]; done)), H', ⟨by first | omega | exact Nat.le_refl _⟩, ⟨by (with_reducible repeat(first|apply bN|apply bD)); exact BK146.out⟩, ⟨by (with_reducible repeat(first|apply bN|apply bD)); exact BK147.out⟩, ⟨by (with_reducible repeat(first|apply bN|apply bD)); exact BK148.out⟩, ⟨by repeat (first|(with_reducible first | exact HB.out | apply below_alloc | apply pw_below_drewN | apply below_drew1 | refine below_set ?_ GE146.out | refine below_set ?_ GE147.out | refine below_set ?_ GE148.out) | exact HB.out)⟩⟩
 case rest =>
  clear HC3
  try clear c1
  try clear c2
  try clear p2
  try clear c8
  try clear c10
  try clear c11
  try clear c14
  try clear c17
  try clear c18
  try clear hcz12_0
  try clear hcz12_1
  try clear hcz12_2
  try clear hcz15_0
  try clear hcz15_1
  try clear hcz15_2
  try clear hcz19_0
  try clear hcz19_1
  try clear hcz19_2
  try clear hfz12_0
  try clear hfz12_1
  try clear hfz12_2
  try clear hfz15_0
  try clear hfz15_1
  try clear hfz15_2
  try clear hfz19_0
  try clear hfz19_1
  try clear hfz19_2
  obtain ⟨kq, x14_2, rfl, HA, HJ2, BK146, BK147, BK148, HB⟩ := hcut
  cases kq with
  | zero => exact absurd HA.out (by simp [emulatorref26_Sub.j0])
  | succ kj2 =>
   have H := HA.out
   clear HA
   simp only [emulatorref26_Sub.j0] at H
   by_cases c21 : x14_2 = true
   ·subst c21
    have H1 : (some (0, (⟨#[]⟩ : ByteArray), 0, 1)) = some (r1, r2, r3, r4) := by rw [if_pos rfl] at H; exact H
    clear H
    have H := H1
    clear H1
    simp only [Option.some.injEq, Prod.mk.injEq] at H
    obtain ⟨rfl, rfl, rfl, rfl⟩ := H
    have hnb22 := NB148_146.out
    have hnc22 := NB146_148.out
    have hnb23 := NB148_147.out
    have hnc23 := NB147_148.out
    have hcz24_0 : wc.cell? ⟨gb148, 0, none⟩ = some (.int .i64 0) := (blk_cell BK148.out 0).trans rfl
    have hcz24_1 : wc.cell? ⟨gb148, 1, none⟩ = some (.string (⟨#[]⟩ : ByteArray)) := (blk_cell BK148.out 1).trans rfl
    have hcz24_2 : wc.cell? ⟨gb148, 2, none⟩ = some (.int .i64 0) := (blk_cell BK148.out 2).trans rfl
    have hfz24_0 := blk_frozen BK148.out 0
    have hfz24_1 := blk_frozen BK148.out 1
    have hfz24_2 := blk_frozen BK148.out 2
    go_wp2
    refine bodyPost_ret (results_ct rfl _ _ gb148 24 #[.int .i64 0, .string (⟨#[]⟩ : ByteArray), .int .i64 0] (0, 0) _ rfl (by (with_reducible repeat(first|apply bN|apply bD)); refine blk_put (cs := #[.int .i64 0, .string (⟨#[]⟩ : ByteArray), .int .i64 0]) ?_ 2 _ rfl; (with_reducible repeat(first|apply bN|apply bD)); refine blk_put (cs := #[.int .i64 0, .string (⟨#[]⟩ : ByteArray), .int .i64 0]) ?_ 1 _ rfl; (with_reducible repeat(first|apply bN|apply bD)); refine blk_put (cs := #[.int .i64 0, .string (⟨#[]⟩ : ByteArray), .int .i64 0]) ?_ 0 _ rfl; (with_reducible repeat(first|apply bN|apply bD)); exact BK148.out) Try.underlying24 rfl (by kernel_rfl)) rfl ?_
    exact ⟨by first | rfl | (simp [errW_none, errW_some] <;> rfl) | (simp [*, errW_none, errW_some] <;> rfl), by repeat (first|(with_reducible first | exact HB.out | apply below_alloc | apply pw_below_drewN | apply below_drew1 | refine below_set ?_ GE146.out | refine below_set ?_ GE147.out | refine below_set ?_ GE148.out) | exact HB.out)⟩
   ·replace c21 := Bool.eq_false_iff.mpr c21
    subst c21
    have H1 : ((emulatorref26_absolute.f a1_0 a1_1 a1_2).bind fun t151 => (if t151 = true then (some (a0_0, a0_1, Go.bits .and .i64 (wrap64 (a0_2 - a1_2)) 65535, 0)) else (if a0_0 = a1_0 then (if a0_0 = 4 then (some (0, (⟨#[]⟩ : ByteArray), 0, 22)) else (some (0, (⟨#[]⟩ : ByteArray), Go.bits .and .i64 (wrap64 (a0_2 - a1_2)) 65535, 0))) else (some (0, (⟨#[]⟩ : ByteArray), 0, 22))))) = some (r1, r2, r3, r4) := by rw [if_neg (show ¬ (false = true) by decide)] at H; exact H
    clear H
    have H := H1
    clear H1
    replace H := Option.bind_eq_some_iff.mp H
    obtain ⟨t151, A250, H⟩ := H
    replace H : (if t151 = true then (some (a0_0, a0_1, Go.bits .and .i64 (wrap64 (a0_2 - a1_2)) 65535, 0)) else (if a0_0 = a1_0 then (if a0_0 = 4 then (some (0, (⟨#[]⟩ : ByteArray), 0, 22)) else (some (0, (⟨#[]⟩ : ByteArray), Go.bits .and .i64 (wrap64 (a0_2 - a1_2)) 65535, 0))) else (some (0, (⟨#[]⟩ : ByteArray), 0, 22)))) = some (r1, r2, r3, r4) := H
    have A25 := Aside0.mk A250
    clear A250
    by_cases c26 : t151 = true
    ·subst c26
     have H1 : (some (a0_0, a0_1, Go.bits .and .i64 (wrap64 (a0_2 - a1_2)) 65535, 0)) = some (r1, r2, r3, r4) := by rw [if_pos rfl] at H; exact H
     clear H
     have H := H1
     clear H1
     simp only [Option.some.injEq, Prod.mk.injEq] at H
     obtain ⟨rfl, rfl, rfl, rfl⟩ := H
     have hnb27 := NB146_147.out
     have hnc27 := NB147_146.out
     have hnb28 := NB146_148.out
     have hnc28 := NB148_146.out
     have hcz29_0 : wc.cell? ⟨gb146, 0, none⟩ = some (.int .i64 a0_0) := (blk_cell BK146.out 0).trans rfl
     have hcz29_1 : wc.cell? ⟨gb146, 1, none⟩ = some (.string a0_1) := (blk_cell BK146.out 1).trans rfl
     have hcz29_2 : wc.cell? ⟨gb146, 2, none⟩ = some (.int .i64 a0_2) := (blk_cell BK146.out 2).trans rfl
     have hfz29_0 := blk_frozen BK146.out 0
     have hfz29_1 := blk_frozen BK146.out 1
     have hfz29_2 := blk_frozen BK146.out 2
     have hnb30 := NB147_148.out
     have hnc30 := NB148_147.out
     have hcz31_0 : wc.cell? ⟨gb147, 0, none⟩ = some (.int .i64 a1_0) := (blk_cell BK147.out 0).trans rfl
     have hcz31_1 : wc.cell? ⟨gb147, 1, none⟩ = some (.string a1_1) := (blk_cell BK147.out 1).trans rfl
     have hcz31_2 : wc.cell? ⟨gb147, 2, none⟩ = some (.int .i64 a1_2) := (blk_cell BK147.out 2).trans rfl
     have hfz31_0 := blk_frozen BK147.out 0
     have hfz31_1 := blk_frozen BK147.out 1
     have hfz31_2 := blk_frozen BK147.out 2
     go_wp2_with (first | ((with_reducible refine gate_callee (f := 30) rfl ?_); refine goesL_ (some 23) rfl rfl Try.func30 (by kernel_rfl) rfl #[.agg #[.int .i64 a1_0, .string a1_1, .int .i64 a1_2]] rfl (by (try simp only [List.map_toArray, List.map_cons, List.map_nil]); first | done | rfl | (simp only [List.length_drop, List.length_take]; rfl)) ?_; (with_reducible refine (emulatorref26_absolute.calls a1_0 a1_1 a1_2 true _ A25.out).mono ?_); rintro e w32 ⟨rfl, hb⟩; refine ⟨_, rfl, ?_⟩; have n0_ := Aside0.mk (blk_below (by (with_reducible repeat(first|apply bN|apply bD)); exact BK146.out) hb); have n1_ := Aside0.mk (blk_below (by (with_reducible repeat(first|apply bN|apply bD)); exact BK147.out) hb); have n2_ := Aside0.mk (blk_below (by (with_reducible repeat(first|apply bN|apply bD)); exact BK148.out) hb); have n3_ := Aside0.mk (below_step (by repeat (first|(with_reducible first | exact HB.out | apply below_alloc | apply pw_below_drewN | apply below_drew1 | refine below_set ?_ GE146.out | refine below_set ?_ GE147.out | refine below_set ?_ GE148.out) | exact HB.out)) hb); clear BK146; clear BK147; clear BK148; clear HB; have BK146 := n0_; have BK147 := n1_; have BK148 := n2_; have HB := n3_; clear n0_ n1_ n2_ n3_; (try clear hb); (try clear hb2); (try clear hk); (try clear hi); have hcz33_0 : w32.cell? ⟨gb146, 0, none⟩ = some (.int .i64 a0_0) := (blk_cell BK146.out 0).trans rfl; have hcz33_1 : w32.cell? ⟨gb146, 1, none⟩ = some (.string a0_1) := (blk_cell BK146.out 1).trans rfl; have hcz33_2 : w32.cell? ⟨gb146, 2, none⟩ = some (.int .i64 a0_2) := (blk_cell BK146.out 2).trans rfl; have hfz33_0 := blk_frozen BK146.out 0; have hfz33_1 := blk_frozen BK146.out 1; have hfz33_2 := blk_frozen BK146.out 2; have hcz34_0 : w32.cell? ⟨gb148, 0, none⟩ = some (.int .i64 0) := (blk_cell BK148.out 0).trans rfl; have hcz34_1 : w32.cell? ⟨gb148, 1, none⟩ = some (.string (⟨#[]⟩ : ByteArray)) := (blk_cell BK148.out 1).trans rfl; have hcz34_2 : w32.cell? ⟨gb148, 2, none⟩ = some (.int .i64 0) := (blk_cell BK148.out 2).trans rfl; have hfz34_0 := blk_frozen BK148.out 0; have hfz34_1 := blk_frozen BK148.out 1; have hfz34_2 := blk_frozen BK148.out 2))
     refine bodyPost_ret (results_ct rfl _ _ gb148 24 #[.int .i64 a0_0, .string a0_1, .int .i64 (Go.bits .and .i64 (wrap64 (a0_2 - a1_2)) 65535)] (0, 0) _ rfl (by (with_reducible repeat(first|apply bN|apply bD)); refine blk_put (cs := #[.int .i64 a0_0, .string a0_1, .int .i64 0]) ?_ 2 _ rfl; (with_reducible repeat(first|apply bN|apply bD)); refine blk_put (cs := #[.int .i64 a0_0, .string (⟨#[]⟩ : ByteArray), .int .i64 0]) ?_ 1 _ rfl; (with_reducible repeat(first|apply bN|apply bD)); refine blk_put (cs := #[.int .i64 0, .string (⟨#[]⟩ : ByteArray), .int .i64 0]) ?_ 0 _ rfl; (with_reducible repeat(first|apply bN|apply bD)); refine blk_far ?_ NB148_146.out _; (with_reducible repeat(first|apply bN|apply bD)); exact BK148.out) Try.underlying24 rfl (by kernel_rfl)) rfl ?_
     exact ⟨by first | rfl | (simp [errW_none, errW_some] <;> rfl) | (simp [*, errW_none, errW_some] <;> rfl), by repeat (first|(with_reducible first | exact HB.out | apply below_alloc | apply pw_below_drewN | apply below_drew1 | refine below_set ?_ GE146.out | refine below_set ?_ GE147.out | refine below_set ?_ GE148.out) | exact HB.out)⟩
    ·replace c26 := Bool.eq_false_iff.mpr c26
     subst c26
     have H1 : (if a0_0 = a1_0 then (if a0_0 = 4 then (some (0, (⟨#[]⟩ : ByteArray), 0, 22)) else (some (0, (⟨#[]⟩ : ByteArray), Go.bits .and .i64 (wrap64 (a0_2 - a1_2)) 65535, 0))) else (some (0, (⟨#[]⟩ : ByteArray), 0, 22))) = some (r1, r2, r3, r4) := by rw [if_neg (show ¬ (false = true) by decide)] at H; exact H
     clear H
     have H := H1
     clear H1
     by_cases c35 : a0_0 = a1_0
     ·rw [if_pos c35] at H
      have c35b0 : (a0_0 == a1_0) = true := beq_iff_eq.mpr c35
      have c35b1 : (a0_0 != a1_0) = false := bne_eq_false_iff_eq.mpr c35
      clear c35
      by_cases c36 : a0_0 = 4
      ·rw [if_pos c36] at H
       have c36b0 : (a0_0 == 4) = true := beq_iff_eq.mpr c36
       have c36b1 : (a0_0 != 4) = false := bne_eq_false_iff_eq.mpr c36
       clear c36
       simp only [Option.some.injEq, Prod.mk.injEq] at H
       obtain ⟨rfl, rfl, rfl, rfl⟩ := H
       have hnb37 := NB146_147.out
       have hnc37 := NB147_146.out
       have hnb38 := NB146_148.out
       have hnc38 := NB148_146.out
       have hcz39_0 : wc.cell? ⟨gb146, 0, none⟩ = some (.int .i64 a0_0) := (blk_cell BK146.out 0).trans rfl
       have hcz39_1 : wc.cell? ⟨gb146, 1, none⟩ = some (.string a0_1) := (blk_cell BK146.out 1).trans rfl
       have hcz39_2 : wc.cell? ⟨gb146, 2, none⟩ = some (.int .i64 a0_2) := (blk_cell BK146.out 2).trans rfl
       have hfz39_0 := blk_frozen BK146.out 0
       have hfz39_1 := blk_frozen BK146.out 1
       have hfz39_2 := blk_frozen BK146.out 2
       have hnb40 := NB147_148.out
       have hnc40 := NB148_147.out
       have hcz41_0 : wc.cell? ⟨gb147, 0, none⟩ = some (.int .i64 a1_0) := (blk_cell BK147.out 0).trans rfl
       have hcz41_1 : wc.cell? ⟨gb147, 1, none⟩ = some (.string a1_1) := (blk_cell BK147.out 1).trans rfl
       have hcz41_2 : wc.cell? ⟨gb147, 2, none⟩ = some (.int .i64 a1_2) := (blk_cell BK147.out 2).trans rfl
       have hfz41_0 := blk_frozen BK147.out 0
       have hfz41_1 := blk_frozen BK147.out 1
       have hfz41_2 := blk_frozen BK147.out 2
       go_wp2_with (first | ((with_reducible refine gate_callee (f := 30) rfl ?_); refine goesL_ (some 23) rfl rfl Try.func30 (by kernel_rfl) rfl #[.agg #[.int .i64 a1_0, .string a1_1, .int .i64 a1_2]] rfl (by (try simp only [List.map_toArray, List.map_cons, List.map_nil]); first | done | rfl | (simp only [List.length_drop, List.length_take]; rfl)) ?_; (with_reducible refine (emulatorref26_absolute.calls a1_0 a1_1 a1_2 false _ A25.out).mono ?_); rintro e w42 ⟨rfl, hb⟩; refine ⟨_, rfl, ?_⟩; have n0_ := Aside0.mk (blk_below (by (with_reducible repeat(first|apply bN|apply bD)); exact BK146.out) hb); have n1_ := Aside0.mk (blk_below (by (with_reducible repeat(first|apply bN|apply bD)); exact BK147.out) hb); have n2_ := Aside0.mk (blk_below (by (with_reducible repeat(first|apply bN|apply bD)); exact BK148.out) hb); have n3_ := Aside0.mk (below_step (by repeat (first|(with_reducible first | exact HB.out | apply below_alloc | apply pw_below_drewN | apply below_drew1 | refine below_set ?_ GE146.out | refine below_set ?_ GE147.out | refine below_set ?_ GE148.out) | exact HB.out)) hb); clear BK146; clear BK147; clear BK148; clear HB; have BK146 := n0_; have BK147 := n1_; have BK148 := n2_; have HB := n3_; clear n0_ n1_ n2_ n3_; (try clear hb); (try clear hb2); (try clear hk); (try clear hi); have hcz43_0 : w42.cell? ⟨gb146, 0, none⟩ = some (.int .i64 a0_0) := (blk_cell BK146.out 0).trans rfl; have hcz43_1 : w42.cell? ⟨gb146, 1, none⟩ = some (.string a0_1) := (blk_cell BK146.out 1).trans rfl; have hcz43_2 : w42.cell? ⟨gb146, 2, none⟩ = some (.int .i64 a0_2) := (blk_cell BK146.out 2).trans rfl; have hfz43_0 := blk_frozen BK146.out 0; have hfz43_1 := blk_frozen BK146.out 1; have hfz43_2 := blk_frozen BK146.out 2; have hcz44_0 : w42.cell? ⟨gb147, 0, none⟩ = some (.int .i64 a1_0) := (blk_cell BK147.out 0).trans rfl; have hcz44_1 : w42.cell? ⟨gb147, 1, none⟩ = some (.string a1_1) := (blk_cell BK147.out 1).trans rfl; have hcz44_2 : w42.cell? ⟨gb147, 2, none⟩ = some (.int .i64 a1_2) := (blk_cell BK147.out 2).trans rfl; have hfz44_0 := blk_frozen BK147.out 0; have hfz44_1 := blk_frozen BK147.out 1; have hfz44_2 := blk_frozen BK147.out 2; have hcz45_0 : w42.cell? ⟨gb148, 0, none⟩ = some (.int .i64 0) := (blk_cell BK148.out 0).trans rfl; have hcz45_1 : w42.cell? ⟨gb148, 1, none⟩ = some (.string (⟨#[]⟩ : ByteArray)) := (blk_cell BK148.out 1).trans rfl; have hcz45_2 : w42.cell? ⟨gb148, 2, none⟩ = some (.int .i64 0) := (blk_cell BK148.out 2).trans rfl; have hfz45_0 := blk_frozen BK148.out 0; have hfz45_1 := blk_frozen BK148.out 1; have hfz45_2 := blk_frozen BK148.out 2))
       refine bodyPost_ret (results_ct rfl _ _ gb148 24 #[.int .i64 0, .string (⟨#[]⟩ : ByteArray), .int .i64 0] (0, 0) _ rfl (by (with_reducible repeat(first|apply bN|apply bD)); refine blk_put (cs := #[.int .i64 0, .string (⟨#[]⟩ : ByteArray), .int .i64 0]) ?_ 2 _ rfl; (with_reducible repeat(first|apply bN|apply bD)); refine blk_put (cs := #[.int .i64 0, .string (⟨#[]⟩ : ByteArray), .int .i64 0]) ?_ 1 _ rfl; (with_reducible repeat(first|apply bN|apply bD)); refine blk_put (cs := #[.int .i64 0, .string (⟨#[]⟩ : ByteArray), .int .i64 0]) ?_ 0 _ rfl; (with_reducible repeat(first|apply bN|apply bD)); exact BK148.out) Try.underlying24 rfl (by kernel_rfl)) rfl ?_
       exact ⟨by first | rfl | (simp [errW_none, errW_some] <;> rfl) | (simp [*, errW_none, errW_some] <;> rfl), by repeat (first|(with_reducible first | exact HB.out | apply below_alloc | apply pw_below_drewN | apply below_drew1 | refine below_set ?_ GE146.out | refine below_set ?_ GE147.out | refine below_set ?_ GE148.out) | exact HB.out)⟩
      ·rw [if_neg c36] at H
       have c36b0 : (a0_0 == 4) = false := beq_eq_false_iff_ne.mpr c36
       have c36b1 : (a0_0 != 4) = true := bne_iff_ne.mpr c36
       simp only [Option.some.injEq, Prod.mk.injEq] at H
       obtain ⟨rfl, rfl, rfl, rfl⟩ := H
       have hnb46 := NB146_147.out
       have hnc46 := NB147_146.out
       have hnb47 := NB146_148.out
       have hnc47 := NB148_146.out
       have hcz48_0 : wc.cell? ⟨gb146, 0, none⟩ = some (.int .i64 a0_0) := (blk_cell BK146.out 0).trans rfl
       have hcz48_1 : wc.cell? ⟨gb146, 1, none⟩ = some (.string a0_1) := (blk_cell BK146.out 1).trans rfl
       have hcz48_2 : wc.cell? ⟨gb146, 2, none⟩ = some (.int .i64 a0_2) := (blk_cell BK146.out 2).trans rfl
       have hfz48_0 := blk_frozen BK146.out 0
       have hfz48_1 := blk_frozen BK146.out 1
       have hfz48_2 := blk_frozen BK146.out 2
       have hnb49 := NB147_148.out
       have hnc49 := NB148_147.out
       have hcz50_0 : wc.cell? ⟨gb147, 0, none⟩ = some (.int .i64 a1_0) := (blk_cell BK147.out 0).trans rfl
       have hcz50_1 : wc.cell? ⟨gb147, 1, none⟩ = some (.string a1_1) := (blk_cell BK147.out 1).trans rfl
       have hcz50_2 : wc.cell? ⟨gb147, 2, none⟩ = some (.int .i64 a1_2) := (blk_cell BK147.out 2).trans rfl
       have hfz50_0 := blk_frozen BK147.out 0
       have hfz50_1 := blk_frozen BK147.out 1
       have hfz50_2 := blk_frozen BK147.out 2
       go_wp2_with (first | ((with_reducible refine gate_callee (f := 30) rfl ?_); refine goesL_ (some 23) rfl rfl Try.func30 (by kernel_rfl) rfl #[.agg #[.int .i64 a1_0, .string a1_1, .int .i64 a1_2]] rfl (by (try simp only [List.map_toArray, List.map_cons, List.map_nil]); first | done | rfl | (simp only [List.length_drop, List.length_take]; rfl)) ?_; (with_reducible refine (emulatorref26_absolute.calls a1_0 a1_1 a1_2 false _ A25.out).mono ?_); rintro e w51 ⟨rfl, hb⟩; refine ⟨_, rfl, ?_⟩; have n0_ := Aside0.mk (blk_below (by (with_reducible repeat(first|apply bN|apply bD)); exact BK146.out) hb); have n1_ := Aside0.mk (blk_below (by (with_reducible repeat(first|apply bN|apply bD)); exact BK147.out) hb); have n2_ := Aside0.mk (blk_below (by (with_reducible repeat(first|apply bN|apply bD)); exact BK148.out) hb); have n3_ := Aside0.mk (below_step (by repeat (first|(with_reducible first | exact HB.out | apply below_alloc | apply pw_below_drewN | apply below_drew1 | refine below_set ?_ GE146.out | refine below_set ?_ GE147.out | refine below_set ?_ GE148.out) | exact HB.out)) hb); clear BK146; clear BK147; clear BK148; clear HB; have BK146 := n0_; have BK147 := n1_; have BK148 := n2_; have HB := n3_; clear n0_ n1_ n2_ n3_; (try clear hb); (try clear hb2); (try clear hk); (try clear hi); have hcz52_0 : w51.cell? ⟨gb146, 0, none⟩ = some (.int .i64 a0_0) := (blk_cell BK146.out 0).trans rfl; have hcz52_1 : w51.cell? ⟨gb146, 1, none⟩ = some (.string a0_1) := (blk_cell BK146.out 1).trans rfl; have hcz52_2 : w51.cell? ⟨gb146, 2, none⟩ = some (.int .i64 a0_2) := (blk_cell BK146.out 2).trans rfl; have hfz52_0 := blk_frozen BK146.out 0; have hfz52_1 := blk_frozen BK146.out 1; have hfz52_2 := blk_frozen BK146.out 2; have hcz53_0 : w51.cell? ⟨gb147, 0, none⟩ = some (.int .i64 a1_0) := (blk_cell BK147.out 0).trans rfl; have hcz53_1 : w51.cell? ⟨gb147, 1, none⟩ = some (.string a1_1) := (blk_cell BK147.out 1).trans rfl; have hcz53_2 : w51.cell? ⟨gb147, 2, none⟩ = some (.int .i64 a1_2) := (blk_cell BK147.out 2).trans rfl; have hfz53_0 := blk_frozen BK147.out 0; have hfz53_1 := blk_frozen BK147.out 1; have hfz53_2 := blk_frozen BK147.out 2; have hcz54_0 : w51.cell? ⟨gb148, 0, none⟩ = some (.int .i64 0) := (blk_cell BK148.out 0).trans rfl; have hcz54_1 : w51.cell? ⟨gb148, 1, none⟩ = some (.string (⟨#[]⟩ : ByteArray)) := (blk_cell BK148.out 1).trans rfl; have hcz54_2 : w51.cell? ⟨gb148, 2, none⟩ = some (.int .i64 0) := (blk_cell BK148.out 2).trans rfl; have hfz54_0 := blk_frozen BK148.out 0; have hfz54_1 := blk_frozen BK148.out 1; have hfz54_2 := blk_frozen BK148.out 2))
       refine bodyPost_ret (results_ct rfl _ _ gb148 24 #[.int .i64 0, .string (⟨#[]⟩ : ByteArray), .int .i64 (Go.bits .and .i64 (wrap64 (a0_2 - a1_2)) 65535)] (0, 0) _ rfl (by (with_reducible repeat(first|apply bN|apply bD)); refine blk_put (cs := #[.int .i64 0, .string (⟨#[]⟩ : ByteArray), .int .i64 0]) ?_ 2 _ rfl; (with_reducible repeat(first|apply bN|apply bD)); refine blk_put (cs := #[.int .i64 0, .string (⟨#[]⟩ : ByteArray), .int .i64 0]) ?_ 1 _ rfl; (with_reducible repeat(first|apply bN|apply bD)); refine blk_put (cs := #[.int .i64 0, .string (⟨#[]⟩ : ByteArray), .int .i64 0]) ?_ 0 _ rfl; (with_reducible repeat(first|apply bN|apply bD)); exact BK148.out) Try.underlying24 rfl (by kernel_rfl)) rfl ?_
       exact ⟨by first | rfl | (simp [errW_none, errW_some] <;> rfl) | (simp [*, errW_none, errW_some] <;> rfl), by repeat (first|(with_reducible first | exact HB.out | apply below_alloc | apply pw_below_drewN | apply below_drew1 | refine below_set ?_ GE146.out | refine below_set ?_ GE147.out | refine below_set ?_ GE148.out) | exact HB.out)⟩
     ·rw [if_neg c35] at H
      have c35b0 : (a0_0 == a1_0) = false := beq_eq_false_iff_ne.mpr c35
      have c35b1 : (a0_0 != a1_0) = true := bne_iff_ne.mpr c35
      simp only [Option.some.injEq, Prod.mk.injEq] at H
      obtain ⟨rfl, rfl, rfl, rfl⟩ := H
      have hnb55 := NB146_147.out
      have hnc55 := NB147_146.out
      have hnb56 := NB146_148.out
      have hnc56 := NB148_146.out
      have hcz57_0 : wc.cell? ⟨gb146, 0, none⟩ = some (.int .i64 a0_0) := (blk_cell BK146.out 0).trans rfl
      have hcz57_1 : wc.cell? ⟨gb146, 1, none⟩ = some (.string a0_1) := (blk_cell BK146.out 1).trans rfl
      have hcz57_2 : wc.cell? ⟨gb146, 2, none⟩ = some (.int .i64 a0_2) := (blk_cell BK146.out 2).trans rfl
      have hfz57_0 := blk_frozen BK146.out 0
      have hfz57_1 := blk_frozen BK146.out 1
      have hfz57_2 := blk_frozen BK146.out 2
      have hnb58 := NB147_148.out
      have hnc58 := NB148_147.out
      have hcz59_0 : wc.cell? ⟨gb147, 0, none⟩ = some (.int .i64 a1_0) := (blk_cell BK147.out 0).trans rfl
      have hcz59_1 : wc.cell? ⟨gb147, 1, none⟩ = some (.string a1_1) := (blk_cell BK147.out 1).trans rfl
      have hcz59_2 : wc.cell? ⟨gb147, 2, none⟩ = some (.int .i64 a1_2) := (blk_cell BK147.out 2).trans rfl
      have hfz59_0 := blk_frozen BK147.out 0
      have hfz59_1 := blk_frozen BK147.out 1
      have hfz59_2 := blk_frozen BK147.out 2
      go_wp2_with (first | ((with_reducible refine gate_callee (f := 30) rfl ?_); refine goesL_ (some 23) rfl rfl Try.func30 (by kernel_rfl) rfl #[.agg #[.int .i64 a1_0, .string a1_1, .int .i64 a1_2]] rfl (by (try simp only [List.map_toArray, List.map_cons, List.map_nil]); first | done | rfl | (simp only [List.length_drop, List.length_take]; rfl)) ?_; (with_reducible refine (emulatorref26_absolute.calls a1_0 a1_1 a1_2 false _ A25.out).mono ?_); rintro e w60 ⟨rfl, hb⟩; refine ⟨_, rfl, ?_⟩; have n0_ := Aside0.mk (blk_below (by (with_reducible repeat(first|apply bN|apply bD)); exact BK146.out) hb); have n1_ := Aside0.mk (blk_below (by (with_reducible repeat(first|apply bN|apply bD)); exact BK147.out) hb); have n2_ := Aside0.mk (blk_below (by (with_reducible repeat(first|apply bN|apply bD)); exact BK148.out) hb); have n3_ := Aside0.mk (below_step (by repeat (first|(with_reducible first | exact HB.out | apply below_alloc | apply pw_below_drewN | apply below_drew1 | refine below_set ?_ GE146.out | refine below_set ?_ GE147.out | refine below_set ?_ GE148.out) | exact HB.out)) hb); clear BK146; clear BK147; clear BK148; clear HB; have BK146 := n0_; have BK147 := n1_; have BK148 := n2_; have HB := n3_; clear n0_ n1_ n2_ n3_; (try clear hb); (try clear hb2); (try clear hk); (try clear hi); have hcz61_0 : w60.cell? ⟨gb146, 0, none⟩ = some (.int .i64 a0_0) := (blk_cell BK146.out 0).trans rfl; have hcz61_1 : w60.cell? ⟨gb146, 1, none⟩ = some (.string a0_1) := (blk_cell BK146.out 1).trans rfl; have hcz61_2 : w60.cell? ⟨gb146, 2, none⟩ = some (.int .i64 a0_2) := (blk_cell BK146.out 2).trans rfl; have hfz61_0 := blk_frozen BK146.out 0; have hfz61_1 := blk_frozen BK146.out 1; have hfz61_2 := blk_frozen BK146.out 2; have hcz62_0 : w60.cell? ⟨gb147, 0, none⟩ = some (.int .i64 a1_0) := (blk_cell BK147.out 0).trans rfl; have hcz62_1 : w60.cell? ⟨gb147, 1, none⟩ = some (.string a1_1) := (blk_cell BK147.out 1).trans rfl; have hcz62_2 : w60.cell? ⟨gb147, 2, none⟩ = some (.int .i64 a1_2) := (blk_cell BK147.out 2).trans rfl; have hfz62_0 := blk_frozen BK147.out 0; have hfz62_1 := blk_frozen BK147.out 1; have hfz62_2 := blk_frozen BK147.out 2; have hcz63_0 : w60.cell? ⟨gb148, 0, none⟩ = some (.int .i64 0) := (blk_cell BK148.out 0).trans rfl; have hcz63_1 : w60.cell? ⟨gb148, 1, none⟩ = some (.string (⟨#[]⟩ : ByteArray)) := (blk_cell BK148.out 1).trans rfl; have hcz63_2 : w60.cell? ⟨gb148, 2, none⟩ = some (.int .i64 0) := (blk_cell BK148.out 2).trans rfl; have hfz63_0 := blk_frozen BK148.out 0; have hfz63_1 := blk_frozen BK148.out 1; have hfz63_2 := blk_frozen BK148.out 2))
      refine bodyPost_ret (results_ct rfl _ _ gb148 24 #[.int .i64 0, .string (⟨#[]⟩ : ByteArray), .int .i64 0] (0, 0) _ rfl (by (with_reducible repeat(first|apply bN|apply bD)); refine blk_put (cs := #[.int .i64 0, .string (⟨#[]⟩ : ByteArray), .int .i64 0]) ?_ 2 _ rfl; (with_reducible repeat(first|apply bN|apply bD)); refine blk_put (cs := #[.int .i64 0, .string (⟨#[]⟩ : ByteArray), .int .i64 0]) ?_ 1 _ rfl; (with_reducible repeat(first|apply bN|apply bD)); refine blk_put (cs := #[.int .i64 0, .string (⟨#[]⟩ : ByteArray), .int .i64 0]) ?_ 0 _ rfl; (with_reducible repeat(first|apply bN|apply bD)); exact BK148.out) Try.underlying24 rfl (by kernel_rfl)) rfl ?_
      exact ⟨by first | rfl | (simp [errW_none, errW_some] <;> rfl) | (simp [*, errW_none, errW_some] <;> rfl), by repeat (first|(with_reducible first | exact HB.out | apply below_alloc | apply pw_below_drewN | apply below_drew1 | refine below_set ?_ GE146.out | refine below_set ?_ GE147.out | refine below_set ?_ GE148.out) | exact HB.out)⟩
end Go.Proofs.Ytpinoobgnnlccaa.A
namespace Go.Proofs.Ytpinoobgnnlccaa.A
open Go.RowKit Go.Proofs.YtpinoobgnnlccaaW.PrintWords Go.Proofs.YtpinoobgnnlccaaW.PrintLast Go.Proofs.YtpinoobgnnlccaaW.PrintMore
attribute [local go_sem] max2_int min2_int max_two min_two max_three min_three max_four min_four
set_option linter.unusedVariables false
set_option linter.unusedSimpArgs false
def emulatorref26_Operator.f (a0 : ByteArray) : Option (Bool) := if a0.toList = ([43] : List UInt8) then (some true) else (if a0.toList = ([45] : List UInt8) then (some true) else (if a0.toList = ([42] : List UInt8) then (some true) else (if a0.toList = ([47] : List UInt8) then (some true) else (if a0.toList = ([38] : List UInt8) then (some true) else (some (a0.toList == ([124] : List UInt8)))))))
set_option maxHeartbeats 8000000 in
set_option maxRecDepth 100000 in
theorem emulatorref26_Operator.calls (a0 : ByteArray) (r : Bool) (w : World) (h : emulatorref26_Operator.f a0 = some r) :
  Calls Try.prog 32 #[.string a0] w fun e w' => e = .returned (.bool r) ∧ Drawn0 w w' := by
 have H : (if a0.toList = ([43] : List UInt8) then (some true) else (if a0.toList = ([45] : List UInt8) then (some true) else (if a0.toList = ([42] : List UInt8) then (some true) else (if a0.toList = ([47] : List UInt8) then (some true) else (if a0.toList = ([38] : List UInt8) then (some true) else (some (a0.toList == ([124] : List UInt8)))))))) = some r := h
 clear h
 by_cases c2 : a0.toList = ([43] : List UInt8)
 ·rw [if_pos c2] at H
  have c2b0 : (a0.toList == ([43] : List UInt8)) = true := beq_iff_eq.mpr c2
  have c2b1 : (a0.toList != ([43] : List UInt8)) = false := bne_eq_false_iff_eq.mpr c2
  clear c2
  obtain rfl := Option.some.inj H
  go_enter Try.func32, Try.ntmps32
  go_wp2
  go_ret
  exact ⟨by first | rfl | (simp; done) | (simp [*]; done), by repeat (first | exact Drawn0.refl _ | apply Drawn0.step)⟩
 ·rw [if_neg c2] at H
  have c2b0 : (a0.toList == ([43] : List UInt8)) = false := beq_eq_false_iff_ne.mpr c2
  have c2b1 : (a0.toList != ([43] : List UInt8)) = true := bne_iff_ne.mpr c2
  by_cases c3 : a0.toList = ([45] : List UInt8)
  ·rw [if_pos c3] at H
   have c3b0 : (a0.toList == ([45] : List UInt8)) = true := beq_iff_eq.mpr c3
   have c3b1 : (a0.toList != ([45] : List UInt8)) = false := bne_eq_false_iff_eq.mpr c3
   clear c3
   obtain rfl := Option.some.inj H
   go_enter Try.func32, Try.ntmps32
   go_wp2
   go_ret
   exact ⟨by first | rfl | (simp; done) | (simp [*]; done), by repeat (first | exact Drawn0.refl _ | apply Drawn0.step)⟩
  ·rw [if_neg c3] at H
   have c3b0 : (a0.toList == ([45] : List UInt8)) = false := beq_eq_false_iff_ne.mpr c3
   have c3b1 : (a0.toList != ([45] : List UInt8)) = true := bne_iff_ne.mpr c3
   by_cases c4 : a0.toList = ([42] : List UInt8)
   ·rw [if_pos c4] at H
    have c4b0 : (a0.toList == ([42] : List UInt8)) = true := beq_iff_eq.mpr c4
    have c4b1 : (a0.toList != ([42] : List UInt8)) = false := bne_eq_false_iff_eq.mpr c4
    clear c4
    obtain rfl := Option.some.inj H
    go_enter Try.func32, Try.ntmps32
    go_wp2
    go_ret
    exact ⟨by first | rfl | (simp; done) | (simp [*]; done), by repeat (first | exact Drawn0.refl _ | apply Drawn0.step)⟩
   ·rw [if_neg c4] at H
    have c4b0 : (a0.toList == ([42] : List UInt8)) = false := beq_eq_false_iff_ne.mpr c4
    have c4b1 : (a0.toList != ([42] : List UInt8)) = true := bne_iff_ne.mpr c4
    by_cases c5 : a0.toList = ([47] : List UInt8)
    ·rw [if_pos c5] at H
     have c5b0 : (a0.toList == ([47] : List UInt8)) = true := beq_iff_eq.mpr c5
     have c5b1 : (a0.toList != ([47] : List UInt8)) = false := bne_eq_false_iff_eq.mpr c5
     clear c5
     obtain rfl := Option.some.inj H
     go_enter Try.func32, Try.ntmps32
     go_wp2
     go_ret
     exact ⟨by first | rfl | (simp; done) | (simp [*]; done), by repeat (first | exact Drawn0.refl _ | apply Drawn0.step)⟩
    ·rw [if_neg c5] at H
     have c5b0 : (a0.toList == ([47] : List UInt8)) = false := beq_eq_false_iff_ne.mpr c5
     have c5b1 : (a0.toList != ([47] : List UInt8)) = true := bne_iff_ne.mpr c5
     by_cases c6 : a0.toList = ([38] : List UInt8)
     ·rw [if_pos c6] at H
      have c6b0 : (a0.toList == ([38] : List UInt8)) = true := beq_iff_eq.mpr c6
      have c6b1 : (a0.toList != ([38] : List UInt8)) = false := bne_eq_false_iff_eq.mpr c6
      clear c6
      obtain rfl := Option.some.inj H
      go_enter Try.func32, Try.ntmps32
      go_wp2
      go_ret
      exact ⟨by first | rfl | (simp; done) | (simp [*]; done), by repeat (first | exact Drawn0.refl _ | apply Drawn0.step)⟩
     ·rw [if_neg c6] at H
      have c6b0 : (a0.toList == ([38] : List UInt8)) = false := beq_eq_false_iff_ne.mpr c6
      have c6b1 : (a0.toList != ([38] : List UInt8)) = true := bne_iff_ne.mpr c6
      obtain rfl := Option.some.inj H
      go_enter Try.func32, Try.ntmps32
      go_wp2
      go_ret
      exact ⟨by first | rfl | (simp; done) | (simp [*]; done), by repeat (first | exact Drawn0.refl _ | apply Drawn0.step)⟩
end Go.Proofs.Ytpinoobgnnlccaa.A
namespace Go.Proofs.Ytpinoobgnnlccaa.A
open Go.RowKit Go.Proofs.YtpinoobgnnlccaaW.PrintWords Go.Proofs.YtpinoobgnnlccaaW.PrintLast Go.Proofs.YtpinoobgnnlccaaW.PrintMore
attribute [local go_sem] max2_int min2_int max_two min_two max_three min_three max_four min_four
set_option linter.unusedVariables false
set_option linter.unusedSimpArgs false
mutual
def emulatorref26_Binary.j0 : Nat → ByteArray → Bool → Int → ByteArray → Int → Int → ByteArray → Int → Option (Int × ByteArray × Int × Int)
 | 0, _, _, _, _, _, _, _, _ => none
 | k + 1, x0, x20, x153000, x153001, x153002, x154000, x154001, x154002 => if x20 = true then (some (0, (⟨#[]⟩ : ByteArray), 0, 1)) else (if x0.toList = ([43] : List UInt8) then ((emulatorref26_Add.f k x153000 x153001 x153002 x154000 x154001 x154002).bind fun bt158 => (some (bt158.1, bt158.2.1, bt158.2.2.1, bt158.2.2.2))) else (if x0.toList = ([45] : List UInt8) then ((emulatorref26_Sub.f k x153000 x153001 x153002 x154000 x154001 x154002).bind fun bt162 => (some (bt162.1, bt162.2.1, bt162.2.2.1, bt162.2.2.2))) else ((emulatorref26_absolute.f x153000 x153001 x153002).bind fun t166 => (if t166 = true then ((emulatorref26_absolute.f x154000 x154001 x154002).bind fun t167 => (emulatorref26_Binary.j1 k x0 (!t167) x153000 x153001 x153002 x154000 x154001 x154002)) else (emulatorref26_Binary.j1 k x0 true x153000 x153001 x153002 x154000 x154001 x154002)))))
def emulatorref26_Binary.j1 : Nat → ByteArray → Bool → Int → ByteArray → Int → Int → ByteArray → Int → Option (Int × ByteArray × Int × Int)
 | 0, _, _, _, _, _, _, _, _ => none
 | k + 1, x0, x43, x153000, x153001, x153002, x154000, x154001, x154002 => if x43 = true then (some (0, (⟨#[]⟩ : ByteArray), 0, 22)) else (if x0.toList = ([42] : List UInt8) then (some (0, (⟨#[]⟩ : ByteArray), Go.bits .and .i64 (wrap64 (x153002 * x154002)) 65535, 0)) else (if x0.toList = ([38] : List UInt8) then (some (0, (⟨#[]⟩ : ByteArray), Go.bits .and .i64 x153002 x154002, 0)) else (if x0.toList = ([124] : List UInt8) then (some (0, (⟨#[]⟩ : ByteArray), Go.bits .or .i64 x153002 x154002, 0)) else (if x154002 = 0 then (some (0, (⟨#[]⟩ : ByteArray), 0, 2)) else (some (0, (⟨#[]⟩ : ByteArray), wrap64 (Int.tdiv x153002 x154002), 0))))))
end
def emulatorref26_Binary.f (k : Nat) (a0 : ByteArray) (a1_0 : Int) (a1_1 : ByteArray) (a1_2 : Int) (a2_0 : Int) (a2_1 : ByteArray) (a2_2 : Int) : Option (Int × ByteArray × Int × Int) := (emulatorref26_Valid.f k a1_0 a1_1 a1_2).bind fun t155 => (if t155 = true then ((emulatorref26_Valid.f k a2_0 a2_1 a2_2).bind fun t156 => (if t156 = true then ((emulatorref26_Operator.f a0).bind fun t157 => (emulatorref26_Binary.j0 k a0 (!t157) a1_0 a1_1 a1_2 a2_0 a2_1 a2_2)) else (emulatorref26_Binary.j0 k a0 true a1_0 a1_1 a1_2 a2_0 a2_1 a2_2))) else (emulatorref26_Binary.j0 k a0 true a1_0 a1_1 a1_2 a2_0 a2_1 a2_2))
set_option maxHeartbeats 8000000 in
set_option maxRecDepth 100000 in
theorem emulatorref26_Binary.calls (k : Nat) (a0 : ByteArray) (a1_0 : Int) (a1_1 : ByteArray) (a1_2 : Int) (a2_0 : Int) (a2_1 : ByteArray) (a2_2 : Int) (r1 : Int) (r2 : ByteArray) (r3 : Int) (r4 : Int) (w : World) (h : emulatorref26_Binary.f k a0 a1_0 a1_1 a1_2 a2_0 a2_1 a2_2 = some (r1, r2, r3, r4)) :
  Calls Try.prog 24 #[.string a0, .agg #[.int .i64 a1_0, .string a1_1, .int .i64 a1_2], .agg #[.int .i64 a2_0, .string a2_1, .int .i64 a2_2]] w fun e w' => e = .returned (.tuple #[.agg #[.int .i64 r1, .string r2, .int .i64 r3], .int .i64 r4]) ∧ Below w.heap.size w w' := by
 have hu24 := Try.underlying24
 have HB := Aside0.mk (Below.refl w.heap.size w)
 have H : ((emulatorref26_Valid.f k a1_0 a1_1 a1_2).bind fun t155 => (if t155 = true then ((emulatorref26_Valid.f k a2_0 a2_1 a2_2).bind fun t156 => (if t156 = true then ((emulatorref26_Operator.f a0).bind fun t157 => (emulatorref26_Binary.j0 k a0 (!t157) a1_0 a1_1 a1_2 a2_0 a2_1 a2_2)) else (emulatorref26_Binary.j0 k a0 true a1_0 a1_1 a1_2 a2_0 a2_1 a2_2))) else (emulatorref26_Binary.j0 k a0 true a1_0 a1_1 a1_2 a2_0 a2_1 a2_2))) = some (r1, r2, r3, r4) := h
 clear h
 have HC4 := Aside0.mk H
 clear H
 go_enter Try.func24, Try.ntmps24
 go_upto_region 1 with (first | ((with_reducible refine gate_dst (N := 4) rfl ?_); refine box_event ?hg (N := 4) ?hd (cs := #[.int .i64 a1_0, .string a1_1, .int .i64 a1_2]) (t := 24) ?hr ?_; (case hd => rfl); (case hg => rfl); (case hr => first | (go_simp; done) | (go_simp; rfl)); intro gb152 hg w5 hbox hb; have n0_ := Aside0.mk (below_step (by repeat (first|(with_reducible first | exact HB.out | apply below_alloc | apply pw_below_drewN | apply below_drew1) | exact HB.out)) hb); have n1_ := Aside0.mk (hbox); have n2_ := Aside0.mk ((by rw [hg]; exact (below_size (by repeat (first|(with_reducible first | exact HB.out | apply below_alloc | apply pw_below_drewN | apply below_drew1) | exact HB.out))) : w.heap.size ≤ gb152)); have n3_ := n2_; clear HB; have HB := n0_; have BK152 := n1_; have GW152 := n2_; have GE152 := n3_; clear n0_ n1_ n2_ n3_; clear hb hbox hg) | ((with_reducible refine gate_dst (N := 5) rfl ?_); refine box_event ?hg (N := 5) ?hd (cs := #[.int .i64 a2_0, .string a2_1, .int .i64 a2_2]) (t := 24) ?hr ?_; (case hd => rfl); (case hg => rfl); (case hr => first | (go_simp; done) | (go_simp; rfl)); intro gb153 hg w6 hbox hb; have n0_ := Aside0.mk (blk_below (by (with_reducible repeat(first|apply bN|apply bD)); exact BK152.out) hb); have n1_ := Aside0.mk (below_step (by repeat (first|(with_reducible first | exact HB.out | apply below_alloc | apply pw_below_drewN | apply below_drew1 | refine below_set ?_ GE152.out) | exact HB.out)) hb); have n2_ := Aside0.mk (hbox); have n3_ := Aside0.mk ((by rw [hg]; exact (below_size (by repeat (first|(with_reducible first | exact HB.out | apply below_alloc | apply pw_below_drewN | apply below_drew1 | refine below_set ?_ GE152.out) | exact HB.out))) : w.heap.size ≤ gb153)); have n4_ := n3_; have n5_ := Aside0.mk ((by rw [hg]; exact Nat.ne_of_lt (blk_lt (by (with_reducible repeat(first|apply bN|apply bD)); exact BK152.out)) : gb152 ≠ gb153)); have n6_ := Aside0.mk n5_.out.symm; clear BK152; clear HB; have BK152 := n0_; have HB := n1_; have BK153 := n2_; have GW153 := n3_; have GE153 := n4_; have NB152_153 := n5_; have NB153_152 := n6_; clear n0_ n1_ n2_ n3_ n4_ n5_ n6_; clear hb hbox hg) | ((with_reducible refine gate_dst (N := 6) rfl ?_); refine box_event ?hg (N := 6) ?hd (cs := #[.int .i64 0, .string (⟨#[]⟩ : ByteArray), .int .i64 0]) (t := 24) ?hr ?_; (case hd => rfl); (case hg => rfl); (case hr => first | (go_simp; done) | (go_simp; rfl)); intro gb154 hg w7 hbox hb; have n0_ := Aside0.mk (blk_below (by (with_reducible repeat(first|apply bN|apply bD)); exact BK152.out) hb); have n1_ := Aside0.mk (blk_below (by (with_reducible repeat(first|apply bN|apply bD)); exact BK153.out) hb); have n2_ := Aside0.mk (below_step (by repeat (first|(with_reducible first | exact HB.out | apply below_alloc | apply pw_below_drewN | apply below_drew1 | refine below_set ?_ GE152.out | refine below_set ?_ GE153.out) | exact HB.out)) hb); have n3_ := Aside0.mk (hbox); have n4_ := Aside0.mk ((by rw [hg]; exact (below_size (by repeat (first|(with_reducible first | exact HB.out | apply below_alloc | apply pw_below_drewN | apply below_drew1 | refine below_set ?_ GE152.out | refine below_set ?_ GE153.out) | exact HB.out))) : w.heap.size ≤ gb154)); have n5_ := n4_; have n6_ := Aside0.mk ((by rw [hg]; exact Nat.ne_of_lt (blk_lt (by (with_reducible repeat(first|apply bN|apply bD)); exact BK152.out)) : gb152 ≠ gb154)); have n7_ := Aside0.mk n6_.out.symm; have n8_ := Aside0.mk ((by rw [hg]; exact Nat.ne_of_lt (blk_lt (by (with_reducible repeat(first|apply bN|apply bD)); exact BK153.out)) : gb153 ≠ gb154)); have n9_ := Aside0.mk n8_.out.symm; clear BK152; clear BK153; clear HB; have BK152 := n0_; have BK153 := n1_; have HB := n2_; have BK154 := n3_; have GW154 := n4_; have GE154 := n5_; have NB152_154 := n6_; have NB154_152 := n7_; have NB153_154 := n8_; have NB154_153 := n9_; clear n0_ n1_ n2_ n3_ n4_ n5_ n6_ n7_ n8_ n9_; clear hb hbox hg))
 (try simp only [Act.put, List.setIfInBounds_toArray, List.set_cons_zero, List.set_cons_succ])
 go_cut [20] (fun v20 wc => ∃ (kq : Nat) (x20_3 : Bool), v20 = .bool x20_3 ∧ Aside0 (emulatorref26_Binary.j0 kq a0 x20_3 a1_0 a1_1 a1_2 a2_0 a2_1 a2_2 = some (r1, r2, r3, r4)) ∧ Aside0 (kq ≤ k) ∧ Aside0 (wc.heap[gb152]? = some (.cells #[.int .i64 a1_0, .string a1_1, .int .i64 a1_2] 24 (0, 0))) ∧ Aside0 (wc.heap[gb153]? = some (.cells #[.int .i64 a2_0, .string a2_1, .int .i64 a2_2] 24 (0, 0))) ∧ Aside0 (wc.heap[gb154]? = some (.cells #[.int .i64 0, .string (⟨#[]⟩ : ByteArray), .int .i64 0] 24 (0, 0))) ∧ Aside0 (Below w.heap.size w wc))
 case first =>
  have H := HC4.out
  clear HC4
  replace H := Option.bind_eq_some_iff.mp H
  obtain ⟨t155, A80, H⟩ := H
  replace H : (if t155 = true then ((emulatorref26_Valid.f k a2_0 a2_1 a2_2).bind fun t156 => (if t156 = true then ((emulatorref26_Operator.f a0).bind fun t157 => (emulatorref26_Binary.j0 k a0 (!t157) a1_0 a1_1 a1_2 a2_0 a2_1 a2_2)) else (emulatorref26_Binary.j0 k a0 true a1_0 a1_1 a1_2 a2_0 a2_1 a2_2))) else (emulatorref26_Binary.j0 k a0 true a1_0 a1_1 a1_2 a2_0 a2_1 a2_2)) = some (r1, r2, r3, r4) := H
  have A8 := Aside0.mk A80
  clear A80
  by_cases c9 : t155 = true
  ·subst c9
   have H1 : ((emulatorref26_Valid.f k a2_0 a2_1 a2_2).bind fun t156 => (if t156 = true then ((emulatorref26_Operator.f a0).bind fun t157 => (emulatorref26_Binary.j0 k a0 (!t157) a1_0 a1_1 a1_2 a2_0 a2_1 a2_2)) else (emulatorref26_Binary.j0 k a0 true a1_0 a1_1 a1_2 a2_0 a2_1 a2_2))) = some (r1, r2, r3, r4) := by rw [if_pos rfl] at H; exact H
   clear H
   have H := H1
   clear H1
   replace H := Option.bind_eq_some_iff.mp H
   obtain ⟨t156, A100, H⟩ := H
   replace H : (if t156 = true then ((emulatorref26_Operator.f a0).bind fun t157 => (emulatorref26_Binary.j0 k a0 (!t157) a1_0 a1_1 a1_2 a2_0 a2_1 a2_2)) else (emulatorref26_Binary.j0 k a0 true a1_0 a1_1 a1_2 a2_0 a2_1 a2_2)) = some (r1, r2, r3, r4) := H
   have A10 := Aside0.mk A100
   clear A100
   by_cases c11 : t156 = true
   ·subst c11
    have H1 : ((emulatorref26_Operator.f a0).bind fun t157 => (emulatorref26_Binary.j0 k a0 (!t157) a1_0 a1_1 a1_2 a2_0 a2_1 a2_2)) = some (r1, r2, r3, r4) := by rw [if_pos rfl] at H; exact H
    clear H
    have H := H1
    clear H1
    replace H := Option.bind_eq_some_iff.mp H
    obtain ⟨t157, A120, H⟩ := H
    replace H : (emulatorref26_Binary.j0 k a0 (!t157) a1_0 a1_1 a1_2 a2_0 a2_1 a2_2) = some (r1, r2, r3, r4) := H
    have A12 := Aside0.mk A120
    clear A120
    have H' := Aside0.mk H
    clear H
    have hnb13 := NB152_153.out
    have hnc13 := NB153_152.out
    have hnb14 := NB152_154.out
    have hnc14 := NB154_152.out
    have hcz15_0 : w7.cell? ⟨gb152, 0, none⟩ = some (.int .i64 a1_0) := (blk_cell BK152.out 0).trans rfl
    have hcz15_1 : w7.cell? ⟨gb152, 1, none⟩ = some (.string a1_1) := (blk_cell BK152.out 1).trans rfl
    have hcz15_2 : w7.cell? ⟨gb152, 2, none⟩ = some (.int .i64 a1_2) := (blk_cell BK152.out 2).trans rfl
    have hfz15_0 := blk_frozen BK152.out 0
    have hfz15_1 := blk_frozen BK152.out 1
    have hfz15_2 := blk_frozen BK152.out 2
    go_wp2_with (first | ((with_reducible refine gate_callee (f := 18) rfl ?_); refine goesL_ (some 9) rfl rfl Try.func18 (by kernel_rfl) rfl #[.agg #[.int .i64 a1_0, .string a1_1, .int .i64 a1_2]] rfl (by (try simp only [List.map_toArray, List.map_cons, List.map_nil]); first | done | rfl | (simp only [List.length_drop, List.length_take]; rfl)) ?_; (with_reducible refine (emulatorref26_Valid.calls k a1_0 a1_1 a1_2 true _ A8.out).mono ?_); rintro e w16 ⟨rfl, hb⟩; refine ⟨_, rfl, ?_⟩; have n0_ := Aside0.mk (blk_below (by (with_reducible repeat(first|apply bN|apply bD)); exact BK152.out) hb); have n1_ := Aside0.mk (blk_below (by (with_reducible repeat(first|apply bN|apply bD)); exact BK153.out) hb); have n2_ := Aside0.mk (blk_below (by (with_reducible repeat(first|apply bN|apply bD)); exact BK154.out) hb); have n3_ := Aside0.mk (below_step (by repeat (first|(with_reducible first | exact HB.out | apply below_alloc | apply pw_below_drewN | apply below_drew1 | refine below_set ?_ GE152.out | refine below_set ?_ GE153.out | refine below_set ?_ GE154.out) | exact HB.out)) hb); clear BK152; clear BK153; clear BK154; clear HB; have BK152 := n0_; have BK153 := n1_; have BK154 := n2_; have HB := n3_; clear n0_ n1_ n2_ n3_; (try clear hb); (try clear hb2); (try clear hk); (try clear hi); have hnb17 := NB153_154.out; have hnc17 := NB154_153.out; have hcz18_0 : w16.cell? ⟨gb153, 0, none⟩ = some (.int .i64 a2_0) := (blk_cell BK153.out 0).trans rfl; have hcz18_1 : w16.cell? ⟨gb153, 1, none⟩ = some (.string a2_1) := (blk_cell BK153.out 1).trans rfl; have hcz18_2 : w16.cell? ⟨gb153, 2, none⟩ = some (.int .i64 a2_2) := (blk_cell BK153.out 2).trans rfl; have hfz18_0 := blk_frozen BK153.out 0; have hfz18_1 := blk_frozen BK153.out 1; have hfz18_2 := blk_frozen BK153.out 2) | (go_at_call 18; (with_reducible refine (emulatorref26_Valid.calls k a2_0 a2_1 a2_2 true _ A10.out).mono ?_); rintro e w19 ⟨rfl, hb⟩; have n0_ := Aside0.mk (blk_below (by (with_reducible repeat(first|apply bN|apply bD)); exact BK152.out) hb); have n1_ := Aside0.mk (blk_below (by (with_reducible repeat(first|apply bN|apply bD)); exact BK153.out) hb); have n2_ := Aside0.mk (blk_below (by (with_reducible repeat(first|apply bN|apply bD)); exact BK154.out) hb); have n3_ := Aside0.mk (below_step (by repeat (first|(with_reducible first | exact HB.out | apply below_alloc | apply pw_below_drewN | apply below_drew1 | refine below_set ?_ GE152.out | refine below_set ?_ GE153.out | refine below_set ?_ GE154.out) | exact HB.out)) hb); clear BK152; clear BK153; clear BK154; clear HB; have BK152 := n0_; have BK153 := n1_; have BK154 := n2_; have HB := n3_; clear n0_ n1_ n2_ n3_; (try clear hb); (try clear hb2); (try clear hk); (try clear hi)) | (go_at_call 32; (with_reducible refine (emulatorref26_Operator.calls a0 t157 _ A12.out).mono ?_); rintro e w' ⟨rfl, ⟨nd, rfl⟩⟩))
    go_meet
    case rel => exact ⟨_, (!t157), (by first | rfl | (simp; done) | (simp [*]; done)), H', ⟨by first | omega | exact Nat.le_refl _⟩, ⟨by (with_reducible repeat(first|apply bN|apply bD)); exact BK152.out⟩, ⟨by (with_reducible repeat(first|apply bN|apply bD)); exact BK153.out⟩, ⟨by (with_reducible repeat(first|apply bN|apply bD)); exact BK154.out⟩, ⟨by repeat (first|(with_reducible first | exact HB.out | apply below_alloc | apply pw_below_drewN | apply below_drew1 | refine below_set ?_ GE152.out | refine below_set ?_ GE153.out | refine below_set ?_ GE154.out) | exact HB.out)⟩⟩
   ·replace c11 := Bool.eq_false_iff.mpr c11
    subst c11
    have H1 : (emulatorref26_Binary.j0 k a0 true a1_0 a1_1 a1_2 a2_0 a2_1 a2_2) = some (r1, r2, r3, r4) := by rw [if_neg (show ¬ (false = true) by decide)] at H; exact H
    clear H
    have H := H1
    clear H1
    have H' := Aside0.mk H
    clear H
    have hnb20 := NB152_153.out
    have hnc20 := NB153_152.out
    have hnb21 := NB152_154.out
    have hnc21 := NB154_152.out
    have hcz22_0 : w7.cell? ⟨gb152, 0, none⟩ = some (.int .i64 a1_0) := (blk_cell BK152.out 0).trans rfl
    have hcz22_1 : w7.cell? ⟨gb152, 1, none⟩ = some (.string a1_1) := (blk_cell BK152.out 1).trans rfl
    have hcz22_2 : w7.cell? ⟨gb152, 2, none⟩ = some (.int .i64 a1_2) := (blk_cell BK152.out 2).trans rfl
    have hfz22_0 := blk_frozen BK152.out 0
    have hfz22_1 := blk_frozen BK152.out 1
    have hfz22_2 := blk_frozen BK152.out 2
    go_wp2_with (first | ((with_reducible refine gate_callee (f := 18) rfl ?_); refine goesL_ (some 9) rfl rfl Try.func18 (by kernel_rfl) rfl #[.agg #[.int .i64 a1_0, .string a1_1, .int .i64 a1_2]] rfl (by (try simp only [List.map_toArray, List.map_cons, List.map_nil]); first | done | rfl | (simp only [List.length_drop, List.length_take]; rfl)) ?_; (with_reducible refine (emulatorref26_Valid.calls k a1_0 a1_1 a1_2 true _ A8.out).mono ?_); rintro e w23 ⟨rfl, hb⟩; refine ⟨_, rfl, ?_⟩; have n0_ := Aside0.mk (blk_below (by (with_reducible repeat(first|apply bN|apply bD)); exact BK152.out) hb); have n1_ := Aside0.mk (blk_below (by (with_reducible repeat(first|apply bN|apply bD)); exact BK153.out) hb); have n2_ := Aside0.mk (blk_below (by (with_reducible repeat(first|apply bN|apply bD)); exact BK154.out) hb); have n3_ := Aside0.mk (below_step (by repeat (first|(with_reducible first | exact HB.out | apply below_alloc | apply pw_below_drewN | apply below_drew1 | refine below_set ?_ GE152.out | refine below_set ?_ GE153.out | refine below_set ?_ GE154.out) | exact HB.out)) hb); clear BK152; clear BK153; clear BK154; clear HB; have BK152 := n0_; have BK153 := n1_; have BK154 := n2_; have HB := n3_; clear n0_ n1_ n2_ n3_; (try clear hb); (try clear hb2); (try clear hk); (try clear hi); have hnb24 := NB153_154.out; have hnc24 := NB154_153.out; have hcz25_0 : w23.cell? ⟨gb153, 0, none⟩ = some (.int .i64 a2_0) := (blk_cell BK153.out 0).trans rfl; have hcz25_1 : w23.cell? ⟨gb153, 1, none⟩ = some (.string a2_1) := (blk_cell BK153.out 1).trans rfl; have hcz25_2 : w23.cell? ⟨gb153, 2, none⟩ = some (.int .i64 a2_2) := (blk_cell BK153.out 2).trans rfl; have hfz25_0 := blk_frozen BK153.out 0; have hfz25_1 := blk_frozen BK153.out 1; have hfz25_2 := blk_frozen BK153.out 2) | (go_at_call 18; (with_reducible refine (emulatorref26_Valid.calls k a2_0 a2_1 a2_2 false _ A10.out).mono ?_); rintro e w26 ⟨rfl, hb⟩; have n0_ := Aside0.mk (blk_below (by (with_reducible repeat(first|apply bN|apply bD)); exact BK152.out) hb); have n1_ := Aside0.mk (blk_below (by (with_reducible repeat(first|apply bN|apply bD)); exact BK153.out) hb); have n2_ := Aside0.mk (blk_below (by (with_reducible repeat(first|apply bN|apply bD)); exact BK154.out) hb); have n3_ := Aside0.mk (below_step (by repeat (first|(with_reducible first | exact HB.out | apply below_alloc | apply pw_below_drewN | apply below_drew1 | refine below_set ?_ GE152.out | refine below_set ?_ GE153.out | refine below_set ?_ GE154.out) | exact HB.out)) hb); clear BK152; clear BK153; clear BK154; clear HB; have BK152 := n0_; have BK153 := n1_; have BK154 := n2_; have HB := n3_; clear n0_ n1_ n2_ n3_; (try clear hb); (try clear hb2); (try clear hk); (try clear hi)))
    go_meet
    case rel => exact ⟨_, (true), (by first | rfl | (simp; done) | (simp [*]; done)), H', ⟨by first | omega | exact Nat.le_refl _⟩, ⟨by (with_reducible repeat(first|apply bN|apply bD)); exact BK152.out⟩, ⟨by (with_reducible repeat(first|apply bN|apply bD)); exact BK153.out⟩, ⟨by (with_reducible repeat(first|apply bN|apply bD)); exact BK154.out⟩, ⟨by repeat (first|(with_reducible first | exact HB.out | apply below_alloc | apply pw_below_drewN | apply below_drew1 | refine below_set ?_ GE152.out | refine below_set ?_ GE153.out | refine below_set ?_ GE154.out) | exact HB.out)⟩⟩
  ·replace c9 := Bool.eq_false_iff.mpr c9
   subst c9
   have H1 : (emulatorref26_Binary.j0 k a0 true a1_0 a1_1 a1_2 a2_0 a2_1 a2_2) = some (r1, r2, r3, r4) := by rw [if_neg (show ¬ (false = true) by decide)] at H; exact H
   clear H
   have H := H1
   clear H1
   have H' := Aside0.mk H
   clear H
   have hnb27 := NB152_153.out
   have hnc27 := NB153_152.out
   have hnb28 := NB152_154.out
   have hnc28 := NB154_152.out
   have hcz29_0 : w7.cell? ⟨gb152, 0, none⟩ = some (.int .i64 a1_0) := (blk_cell BK152.out 0).trans rfl
   have hcz29_1 : w7.cell? ⟨gb152, 1, none⟩ = some (.string a1_1) := (blk_cell BK152.out 1).trans rfl
   have hcz29_2 : w7.cell? ⟨gb152, 2, none⟩ = some (.int .i64 a1_2) := (blk_cell BK152.out 2).trans rfl
   have hfz29_0 := blk_frozen BK152.out 0
   have hfz29_1 := blk_frozen BK152.out 1
   have hfz29_2 := blk_frozen BK152.out 2
   go_wp2_with (first | ((with_reducible refine gate_callee (f := 18) rfl ?_); refine goesL_ (some 9) rfl rfl Try.func18 (by kernel_rfl) rfl #[.agg #[.int .i64 a1_0, .string a1_1, .int .i64 a1_2]] rfl (by (try simp only [List.map_toArray, List.map_cons, List.map_nil]); first | done | rfl | (simp only [List.length_drop, List.length_take]; rfl)) ?_; (with_reducible refine (emulatorref26_Valid.calls k a1_0 a1_1 a1_2 false _ A8.out).mono ?_); rintro e w30 ⟨rfl, hb⟩; refine ⟨_, rfl, ?_⟩; have n0_ := Aside0.mk (blk_below (by (with_reducible repeat(first|apply bN|apply bD)); exact BK152.out) hb); have n1_ := Aside0.mk (blk_below (by (with_reducible repeat(first|apply bN|apply bD)); exact BK153.out) hb); have n2_ := Aside0.mk (blk_below (by (with_reducible repeat(first|apply bN|apply bD)); exact BK154.out) hb); have n3_ := Aside0.mk (below_step (by repeat (first|(with_reducible first | exact HB.out | apply below_alloc | apply pw_below_drewN | apply below_drew1 | refine below_set ?_ GE152.out | refine below_set ?_ GE153.out | refine below_set ?_ GE154.out) | exact HB.out)) hb); clear BK152; clear BK153; clear BK154; clear HB; have BK152 := n0_; have BK153 := n1_; have BK154 := n2_; have HB := n3_; clear n0_ n1_ n2_ n3_; (try clear hb); (try clear hb2); (try clear hk); (try clear hi)))
   go_meet
   case rel => exact ⟨_, (true), (by first | rfl | (simp; done) | (simp [*]; done)), H', ⟨by first | omega | exact Nat.le_refl _⟩, ⟨by (with_reducible repeat(first|apply bN|apply bD)); exact BK152.out⟩, ⟨by (with_reducible repeat(first|apply bN|apply bD)); exact BK153.out⟩, ⟨by (with_reducible repeat(first|apply bN|apply bD)); exact BK154.out⟩, ⟨by repeat (first|(with_reducible first | exact HB.out | apply below_alloc | apply pw_below_drewN | apply below_drew1 | refine below_set ?_ GE152.out | refine below_set ?_ GE153.out | refine below_set ?_ GE154.out) | exact HB.out)⟩⟩
 case rest =>
  clear HC4
  try clear c1
  try clear c2
  try clear p2
  try clear c9
  try clear c11
  try clear c13
  try clear c14
  try clear c17
  try clear c18
  try clear c20
  try clear c21
  try clear c24
  try clear c27
  try clear c28
  try clear hcz15_0
  try clear hcz15_1
  try clear hcz15_2
  try clear hcz18_0
  try clear hcz18_1
  try clear hcz18_2
  try clear hcz22_0
  try clear hcz22_1
  try clear hcz22_2
  try clear hcz25_0
  try clear hcz25_1
  try clear hcz25_2
  try clear hcz29_0
  try clear hcz29_1
  try clear hcz29_2
  try clear hfz15_0
  try clear hfz15_1
  try clear hfz15_2
  try clear hfz18_0
  try clear hfz18_1
  try clear hfz18_2
  try clear hfz22_0
  try clear hfz22_1
  try clear hfz22_2
  try clear hfz25_0
  try clear hfz25_1
  try clear hfz25_2
  try clear hfz29_0
  try clear hfz29_1
  try clear hfz29_2
  obtain ⟨kq, x20_3, rfl, HA, HJ3, BK152, BK153, BK154, HB⟩ := hcut
  cases kq with
  | zero => exact absurd HA.out (by simp [emulatorref26_Binary.j0])
  | succ kj3 =>
   have H := HA.out
   clear HA
   simp only [emulatorref26_Binary.j0] at H
   by_cases c31 : x20_3 = true
   ·subst c31
    have H1 : (some (0, (⟨#[]⟩ : ByteArray), 0, 1)) = some (r1, r2, r3, r4) := by rw [if_pos rfl] at H; exact H
    clear H
    have H := H1
    clear H1
    simp only [Option.some.injEq, Prod.mk.injEq] at H
    obtain ⟨rfl, rfl, rfl, rfl⟩ := H
    have hnb32 := NB154_152.out
    have hnc32 := NB152_154.out
    have hnb33 := NB154_153.out
    have hnc33 := NB153_154.out
    have hcz34_0 : wc.cell? ⟨gb154, 0, none⟩ = some (.int .i64 0) := (blk_cell BK154.out 0).trans rfl
    have hcz34_1 : wc.cell? ⟨gb154, 1, none⟩ = some (.string (⟨#[]⟩ : ByteArray)) := (blk_cell BK154.out 1).trans rfl
    have hcz34_2 : wc.cell? ⟨gb154, 2, none⟩ = some (.int .i64 0) := (blk_cell BK154.out 2).trans rfl
    have hfz34_0 := blk_frozen BK154.out 0
    have hfz34_1 := blk_frozen BK154.out 1
    have hfz34_2 := blk_frozen BK154.out 2
    go_wp2
    refine bodyPost_ret (results_ct rfl _ _ gb154 24 #[.int .i64 0, .string (⟨#[]⟩ : ByteArray), .int .i64 0] (0, 0) _ rfl (by (with_reducible repeat(first|apply bN|apply bD)); refine blk_put (cs := #[.int .i64 0, .string (⟨#[]⟩ : ByteArray), .int .i64 0]) ?_ 2 _ rfl; (with_reducible repeat(first|apply bN|apply bD)); refine blk_put (cs := #[.int .i64 0, .string (⟨#[]⟩ : ByteArray), .int .i64 0]) ?_ 1 _ rfl; (with_reducible repeat(first|apply bN|apply bD)); refine blk_put (cs := #[.int .i64 0, .string (⟨#[]⟩ : ByteArray), .int .i64 0]) ?_ 0 _ rfl; (with_reducible repeat(first|apply bN|apply bD)); exact BK154.out) Try.underlying24 rfl (by kernel_rfl)) rfl ?_
    exact ⟨by first | rfl | (simp [errW_none, errW_some] <;> rfl) | (simp [*, errW_none, errW_some] <;> rfl), by repeat (first|(with_reducible first | exact HB.out | apply below_alloc | apply pw_below_drewN | apply below_drew1 | refine below_set ?_ GE152.out | refine below_set ?_ GE153.out | refine below_set ?_ GE154.out) | exact HB.out)⟩
   ·replace c31 := Bool.eq_false_iff.mpr c31
    subst c31
    have H1 : (if a0.toList = ([43] : List UInt8) then ((emulatorref26_Add.f kj3 a1_0 a1_1 a1_2 a2_0 a2_1 a2_2).bind fun bt158 => (some (bt158.1, bt158.2.1, bt158.2.2.1, bt158.2.2.2))) else (if a0.toList = ([45] : List UInt8) then ((emulatorref26_Sub.f kj3 a1_0 a1_1 a1_2 a2_0 a2_1 a2_2).bind fun bt162 => (some (bt162.1, bt162.2.1, bt162.2.2.1, bt162.2.2.2))) else ((emulatorref26_absolute.f a1_0 a1_1 a1_2).bind fun t166 => (if t166 = true then ((emulatorref26_absolute.f a2_0 a2_1 a2_2).bind fun t167 => (emulatorref26_Binary.j1 kj3 a0 (!t167) a1_0 a1_1 a1_2 a2_0 a2_1 a2_2)) else (emulatorref26_Binary.j1 kj3 a0 true a1_0 a1_1 a1_2 a2_0 a2_1 a2_2))))) = some (r1, r2, r3, r4) := by rw [if_neg (show ¬ (false = true) by decide)] at H; exact H
    clear H
    have H := H1
    clear H1
    by_cases c35 : a0.toList = ([43] : List UInt8)
    ·rw [if_pos c35] at H
     have c35b0 : (a0.toList == ([43] : List UInt8)) = true := beq_iff_eq.mpr c35
     have c35b1 : (a0.toList != ([43] : List UInt8)) = false := bne_eq_false_iff_eq.mpr c35
     clear c35
     replace H := Option.bind_eq_some_iff.mp H
     obtain ⟨⟨t158, t159, t160, t161⟩, A360, H⟩ := H
     replace H : (some (t158, t159, t160, t161)) = some (r1, r2, r3, r4) := H
     have A36 := Aside0.mk A360
     clear A360
     simp only [Option.some.injEq, Prod.mk.injEq] at H
     obtain ⟨rfl, rfl, rfl, rfl⟩ := H
     have hnb37 := NB152_153.out
     have hnc37 := NB153_152.out
     have hnb38 := NB152_154.out
     have hnc38 := NB154_152.out
     have hcz39_0 : wc.cell? ⟨gb152, 0, none⟩ = some (.int .i64 a1_0) := (blk_cell BK152.out 0).trans rfl
     have hcz39_1 : wc.cell? ⟨gb152, 1, none⟩ = some (.string a1_1) := (blk_cell BK152.out 1).trans rfl
     have hcz39_2 : wc.cell? ⟨gb152, 2, none⟩ = some (.int .i64 a1_2) := (blk_cell BK152.out 2).trans rfl
     have hfz39_0 := blk_frozen BK152.out 0
     have hfz39_1 := blk_frozen BK152.out 1
     have hfz39_2 := blk_frozen BK152.out 2
     have hnb40 := NB153_154.out
     have hnc40 := NB154_153.out
     have hcz41_0 : wc.cell? ⟨gb153, 0, none⟩ = some (.int .i64 a2_0) := (blk_cell BK153.out 0).trans rfl
     have hcz41_1 : wc.cell? ⟨gb153, 1, none⟩ = some (.string a2_1) := (blk_cell BK153.out 1).trans rfl
     have hcz41_2 : wc.cell? ⟨gb153, 2, none⟩ = some (.int .i64 a2_2) := (blk_cell BK153.out 2).trans rfl
     have hfz41_0 := blk_frozen BK153.out 0
     have hfz41_1 := blk_frozen BK153.out 1
     have hfz41_2 := blk_frozen BK153.out 2
     go_wp2_with (first | ((with_reducible refine gate_callee (f := 20) rfl ?_); refine goesL_ (some 26) rfl rfl Try.func20 (by kernel_rfl) rfl #[.agg #[.int .i64 a1_0, .string a1_1, .int .i64 a1_2], .agg #[.int .i64 a2_0, .string a2_1, .int .i64 a2_2]] rfl (by (try simp only [List.map_toArray, List.map_cons, List.map_nil]); first | done | rfl | (simp only [List.length_drop, List.length_take]; rfl)) ?_; (with_reducible refine (emulatorref26_Add.calls kj3 a1_0 a1_1 a1_2 a2_0 a2_1 a2_2 t158 t159 t160 t161 _ A36.out).mono ?_); rintro e w42 ⟨rfl, hb⟩; refine ⟨_, rfl, ?_⟩; have n0_ := Aside0.mk (blk_below (by (with_reducible repeat(first|apply bN|apply bD)); exact BK152.out) hb); have n1_ := Aside0.mk (blk_below (by (with_reducible repeat(first|apply bN|apply bD)); exact BK153.out) hb); have n2_ := Aside0.mk (blk_below (by (with_reducible repeat(first|apply bN|apply bD)); exact BK154.out) hb); have n3_ := Aside0.mk (below_step (by repeat (first|(with_reducible first | exact HB.out | apply below_alloc | apply pw_below_drewN | apply below_drew1 | refine below_set ?_ GE152.out | refine below_set ?_ GE153.out | refine below_set ?_ GE154.out) | exact HB.out)) hb); clear BK152; clear BK153; clear BK154; clear HB; have BK152 := n0_; have BK153 := n1_; have BK154 := n2_; have HB := n3_; clear n0_ n1_ n2_ n3_; (try clear hb); (try clear hb2); (try clear hk); (try clear hi); have hcz43_0 : w42.cell? ⟨gb154, 0, none⟩ = some (.int .i64 0) := (blk_cell BK154.out 0).trans rfl; have hcz43_1 : w42.cell? ⟨gb154, 1, none⟩ = some (.string (⟨#[]⟩ : ByteArray)) := (blk_cell BK154.out 1).trans rfl; have hcz43_2 : w42.cell? ⟨gb154, 2, none⟩ = some (.int .i64 0) := (blk_cell BK154.out 2).trans rfl; have hfz43_0 := blk_frozen BK154.out 0; have hfz43_1 := blk_frozen BK154.out 1; have hfz43_2 := blk_frozen BK154.out 2))
     refine bodyPost_ret (results_ct rfl _ _ gb154 24 #[.int .i64 t158, .string t159, .int .i64 t160] (0, 0) _ rfl (by (with_reducible repeat(first|apply bN|apply bD)); refine blk_put (cs := #[.int .i64 t158, .string t159, .int .i64 0]) ?_ 2 _ rfl; (with_reducible repeat(first|apply bN|apply bD)); refine blk_put (cs := #[.int .i64 t158, .string (⟨#[]⟩ : ByteArray), .int .i64 0]) ?_ 1 _ rfl; (with_reducible repeat(first|apply bN|apply bD)); refine blk_put (cs := #[.int .i64 0, .string (⟨#[]⟩ : ByteArray), .int .i64 0]) ?_ 0 _ rfl; (with_reducible repeat(first|apply bN|apply bD)); exact BK154.out) Try.underlying24 rfl (by kernel_rfl)) rfl ?_
     exact ⟨by first | rfl | (simp [errW_none, errW_some] <;> rfl) | (simp [*, errW_none, errW_some] <;> rfl), by repeat (first|(with_reducible first | exact HB.out | apply below_alloc | apply pw_below_drewN | apply below_drew1 | refine below_set ?_ GE152.out | refine below_set ?_ GE153.out | refine below_set ?_ GE154.out) | exact HB.out)⟩
    ·rw [if_neg c35] at H
     have c35b0 : (a0.toList == ([43] : List UInt8)) = false := beq_eq_false_iff_ne.mpr c35
     have c35b1 : (a0.toList != ([43] : List UInt8)) = true := bne_iff_ne.mpr c35
     by_cases c44 : a0.toList = ([45] : List UInt8)
     ·rw [if_pos c44] at H
      have c44b0 : (a0.toList == ([45] : List UInt8)) = true := beq_iff_eq.mpr c44
      have c44b1 : (a0.toList != ([45] : List UInt8)) = false := bne_eq_false_iff_eq.mpr c44
      clear c44
      replace H := Option.bind_eq_some_iff.mp H
      obtain ⟨⟨t162, t163, t164, t165⟩, A450, H⟩ := H
      replace H : (some (t162, t163, t164, t165)) = some (r1, r2, r3, r4) := H
      have A45 := Aside0.mk A450
      clear A450
      simp only [Option.some.injEq, Prod.mk.injEq] at H
      obtain ⟨rfl, rfl, rfl, rfl⟩ := H
      have hnb46 := NB152_153.out
      have hnc46 := NB153_152.out
      have hnb47 := NB152_154.out
      have hnc47 := NB154_152.out
      have hcz48_0 : wc.cell? ⟨gb152, 0, none⟩ = some (.int .i64 a1_0) := (blk_cell BK152.out 0).trans rfl
      have hcz48_1 : wc.cell? ⟨gb152, 1, none⟩ = some (.string a1_1) := (blk_cell BK152.out 1).trans rfl
      have hcz48_2 : wc.cell? ⟨gb152, 2, none⟩ = some (.int .i64 a1_2) := (blk_cell BK152.out 2).trans rfl
      have hfz48_0 := blk_frozen BK152.out 0
      have hfz48_1 := blk_frozen BK152.out 1
      have hfz48_2 := blk_frozen BK152.out 2
      have hnb49 := NB153_154.out
      have hnc49 := NB154_153.out
      have hcz50_0 : wc.cell? ⟨gb153, 0, none⟩ = some (.int .i64 a2_0) := (blk_cell BK153.out 0).trans rfl
      have hcz50_1 : wc.cell? ⟨gb153, 1, none⟩ = some (.string a2_1) := (blk_cell BK153.out 1).trans rfl
      have hcz50_2 : wc.cell? ⟨gb153, 2, none⟩ = some (.int .i64 a2_2) := (blk_cell BK153.out 2).trans rfl
      have hfz50_0 := blk_frozen BK153.out 0
      have hfz50_1 := blk_frozen BK153.out 1
      have hfz50_2 := blk_frozen BK153.out 2
      go_wp2_with (first | ((with_reducible refine gate_callee (f := 22) rfl ?_); refine goesL_ (some 33) rfl rfl Try.func22 (by kernel_rfl) rfl #[.agg #[.int .i64 a1_0, .string a1_1, .int .i64 a1_2], .agg #[.int .i64 a2_0, .string a2_1, .int .i64 a2_2]] rfl (by (try simp only [List.map_toArray, List.map_cons, List.map_nil]); first | done | rfl | (simp only [List.length_drop, List.length_take]; rfl)) ?_; (with_reducible refine (emulatorref26_Sub.calls kj3 a1_0 a1_1 a1_2 a2_0 a2_1 a2_2 t162 t163 t164 t165 _ A45.out).mono ?_); rintro e w51 ⟨rfl, hb⟩; refine ⟨_, rfl, ?_⟩; have n0_ := Aside0.mk (blk_below (by (with_reducible repeat(first|apply bN|apply bD)); exact BK152.out) hb); have n1_ := Aside0.mk (blk_below (by (with_reducible repeat(first|apply bN|apply bD)); exact BK153.out) hb); have n2_ := Aside0.mk (blk_below (by (with_reducible repeat(first|apply bN|apply bD)); exact BK154.out) hb); have n3_ := Aside0.mk (below_step (by repeat (first|(with_reducible first | exact HB.out | apply below_alloc | apply pw_below_drewN | apply below_drew1 | refine below_set ?_ GE152.out | refine below_set ?_ GE153.out | refine below_set ?_ GE154.out) | exact HB.out)) hb); clear BK152; clear BK153; clear BK154; clear HB; have BK152 := n0_; have BK153 := n1_; have BK154 := n2_; have HB := n3_; clear n0_ n1_ n2_ n3_; (try clear hb); (try clear hb2); (try clear hk); (try clear hi); have hcz52_0 : w51.cell? ⟨gb154, 0, none⟩ = some (.int .i64 0) := (blk_cell BK154.out 0).trans rfl; have hcz52_1 : w51.cell? ⟨gb154, 1, none⟩ = some (.string (⟨#[]⟩ : ByteArray)) := (blk_cell BK154.out 1).trans rfl; have hcz52_2 : w51.cell? ⟨gb154, 2, none⟩ = some (.int .i64 0) := (blk_cell BK154.out 2).trans rfl; have hfz52_0 := blk_frozen BK154.out 0; have hfz52_1 := blk_frozen BK154.out 1; have hfz52_2 := blk_frozen BK154.out 2))
      refine bodyPost_ret (results_ct rfl _ _ gb154 24 #[.int .i64 t162, .string t163, .int .i64 t164] (0, 0) _ rfl (by (with_reducible repeat(first|apply bN|apply bD)); refine blk_put (cs := #[.int .i64 t162, .string t163, .int .i64 0]) ?_ 2 _ rfl; (with_reducible repeat(first|apply bN|apply bD)); refine blk_put (cs := #[.int .i64 t162, .string (⟨#[]⟩ : ByteArray), .int .i64 0]) ?_ 1 _ rfl; (with_reducible repeat(first|apply bN|apply bD)); refine blk_put (cs := #[.int .i64 0, .string (⟨#[]⟩ : ByteArray), .int .i64 0]) ?_ 0 _ rfl; (with_reducible repeat(first|apply bN|apply bD)); exact BK154.out) Try.underlying24 rfl (by kernel_rfl)) rfl ?_
      exact ⟨by first | rfl | (simp [errW_none, errW_some] <;> rfl) | (simp [*, errW_none, errW_some] <;> rfl), by repeat (first|(with_reducible first | exact HB.out | apply below_alloc | apply pw_below_drewN | apply below_drew1 | refine below_set ?_ GE152.out | refine below_set ?_ GE153.out | refine below_set ?_ GE154.out) | exact HB.out)⟩
     ·rw [if_neg c44] at H
      have c44b0 : (a0.toList == ([45] : List UInt8)) = false := beq_eq_false_iff_ne.mpr c44
      have c44b1 : (a0.toList != ([45] : List UInt8)) = true := bne_iff_ne.mpr c44
      have HC53 := Aside0.mk H
      clear H
      go_upto_region 7 with (fail)
      go_cut [43] (fun v43 wc => ∃ (kq : Nat) (x43_52 : Bool), v43 = .bool x43_52 ∧ Aside0 (emulatorref26_Binary.j1 kq a0 x43_52 a1_0 a1_1 a1_2 a2_0 a2_1 a2_2 = some (r1, r2, r3, r4)) ∧ Aside0 (kq ≤ kj3) ∧ Aside0 (wc.heap[gb152]? = some (.cells #[.int .i64 a1_0, .string a1_1, .int .i64 a1_2] 24 (0, 0))) ∧ Aside0 (wc.heap[gb153]? = some (.cells #[.int .i64 a2_0, .string a2_1, .int .i64 a2_2] 24 (0, 0))) ∧ Aside0 (wc.heap[gb154]? = some (.cells #[.int .i64 0, .string (⟨#[]⟩ : ByteArray), .int .i64 0] 24 (0, 0))) ∧ Aside0 (Below w.heap.size w wc))
      case first =>
       have H := HC53.out
       clear HC53
       replace H := Option.bind_eq_some_iff.mp H
       obtain ⟨t166, A540, H⟩ := H
       replace H : (if t166 = true then ((emulatorref26_absolute.f a2_0 a2_1 a2_2).bind fun t167 => (emulatorref26_Binary.j1 kj3 a0 (!t167) a1_0 a1_1 a1_2 a2_0 a2_1 a2_2)) else (emulatorref26_Binary.j1 kj3 a0 true a1_0 a1_1 a1_2 a2_0 a2_1 a2_2)) = some (r1, r2, r3, r4) := H
       have A54 := Aside0.mk A540
       clear A540
       by_cases c55 : t166 = true
       ·subst c55
        have H1 : ((emulatorref26_absolute.f a2_0 a2_1 a2_2).bind fun t167 => (emulatorref26_Binary.j1 kj3 a0 (!t167) a1_0 a1_1 a1_2 a2_0 a2_1 a2_2)) = some (r1, r2, r3, r4) := by rw [if_pos rfl] at H; exact H
        clear H
        have H := H1
        clear H1
        replace H := Option.bind_eq_some_iff.mp H
        obtain ⟨t167, A560, H⟩ := H
        replace H : (emulatorref26_Binary.j1 kj3 a0 (!t167) a1_0 a1_1 a1_2 a2_0 a2_1 a2_2) = some (r1, r2, r3, r4) := H
        have A56 := Aside0.mk A560
        clear A560
        have H' := Aside0.mk H
        clear H
        have hnb57 := NB152_153.out
        have hnc57 := NB153_152.out
        have hnb58 := NB152_154.out
        have hnc58 := NB154_152.out
        have hcz59_0 : wc.cell? ⟨gb152, 0, none⟩ = some (.int .i64 a1_0) := (blk_cell BK152.out 0).trans rfl
        have hcz59_1 : wc.cell? ⟨gb152, 1, none⟩ = some (.string a1_1) := (blk_cell BK152.out 1).trans rfl
        have hcz59_2 : wc.cell? ⟨gb152, 2, none⟩ = some (.int .i64 a1_2) := (blk_cell BK152.out 2).trans rfl
        have hfz59_0 := blk_frozen BK152.out 0
        have hfz59_1 := blk_frozen BK152.out 1
        have hfz59_2 := blk_frozen BK152.out 2
        go_wp2_with (first | ((with_reducible refine gate_callee (f := 30) rfl ?_); refine goesL_ (some 37) rfl rfl Try.func30 (by kernel_rfl) rfl #[.agg #[.int .i64 a1_0, .string a1_1, .int .i64 a1_2]] rfl (by (try simp only [List.map_toArray, List.map_cons, List.map_nil]); first | done | rfl | (simp only [List.length_drop, List.length_take]; rfl)) ?_; (with_reducible refine (emulatorref26_absolute.calls a1_0 a1_1 a1_2 true _ A54.out).mono ?_); rintro e w60 ⟨rfl, hb⟩; refine ⟨_, rfl, ?_⟩; have n0_ := Aside0.mk (blk_below (by (with_reducible repeat(first|apply bN|apply bD)); exact BK152.out) hb); have n1_ := Aside0.mk (blk_below (by (with_reducible repeat(first|apply bN|apply bD)); exact BK153.out) hb); have n2_ := Aside0.mk (blk_below (by (with_reducible repeat(first|apply bN|apply bD)); exact BK154.out) hb); have n3_ := Aside0.mk (below_step (by repeat (first|(with_reducible first | exact HB.out | apply below_alloc | apply pw_below_drewN | apply below_drew1 | refine below_set ?_ GE152.out | refine below_set ?_ GE153.out | refine below_set ?_ GE154.out) | exact HB.out)) hb); clear BK152; clear BK153; clear BK154; clear HB; have BK152 := n0_; have BK153 := n1_; have BK154 := n2_; have HB := n3_; clear n0_ n1_ n2_ n3_; (try clear hb); (try clear hb2); (try clear hk); (try clear hi); have hnb61 := NB153_154.out; have hnc61 := NB154_153.out; have hcz62_0 : w60.cell? ⟨gb153, 0, none⟩ = some (.int .i64 a2_0) := (blk_cell BK153.out 0).trans rfl; have hcz62_1 : w60.cell? ⟨gb153, 1, none⟩ = some (.string a2_1) := (blk_cell BK153.out 1).trans rfl; have hcz62_2 : w60.cell? ⟨gb153, 2, none⟩ = some (.int .i64 a2_2) := (blk_cell BK153.out 2).trans rfl; have hfz62_0 := blk_frozen BK153.out 0; have hfz62_1 := blk_frozen BK153.out 1; have hfz62_2 := blk_frozen BK153.out 2) | (go_at_call 30; (with_reducible refine (emulatorref26_absolute.calls a2_0 a2_1 a2_2 t167 _ A56.out).mono ?_); rintro e w63 ⟨rfl, hb⟩; have n0_ := Aside0.mk (blk_below (by (with_reducible repeat(first|apply bN|apply bD)); exact BK152.out) hb); have n1_ := Aside0.mk (blk_below (by (with_reducible repeat(first|apply bN|apply bD)); exact BK153.out) hb); have n2_ := Aside0.mk (blk_below (by (with_reducible repeat(first|apply bN|apply bD)); exact BK154.out) hb); have n3_ := Aside0.mk (below_step (by repeat (first|(with_reducible first | exact HB.out | apply below_alloc | apply pw_below_drewN | apply below_drew1 | refine below_set ?_ GE152.out | refine below_set ?_ GE153.out | refine below_set ?_ GE154.out) | exact HB.out)) hb); clear BK152; clear BK153; clear BK154; clear HB; have BK152 := n0_; have BK153 := n1_; have BK154 := n2_; have HB := n3_; clear n0_ n1_ n2_ n3_; (try clear hb); (try clear hb2); (try clear hk); (try clear hi)))
        go_meet
        case rel => exact ⟨_, (!t167), (by first | rfl | (simp; done) | (simp [*]; done)), H', ⟨by have := HJ3.out; first | omega | exact Nat.le_refl _⟩, ⟨by (with_reducible repeat(first|apply bN|apply bD)); exact BK152.out⟩, ⟨by (with_reducible repeat(first|apply bN|apply bD)); exact BK153.out⟩, ⟨by (with_reducible repeat(first|apply bN|apply bD)); exact BK154.out⟩, ⟨by repeat (first|(with_reducible first | exact HB.out | apply below_alloc | apply pw_below_drewN | apply below_drew1 | refine below_set ?_ GE152.out | refine below_set ?_ GE153.out | refine below_set ?_ GE154.out) | exact HB.out)⟩⟩
       ·replace c55 := Bool.eq_false_iff.mpr c55
        subst c55
        have H1 : (emulatorref26_Binary.j1 kj3 a0 true a1_0 a1_1 a1_2 a2_0 a2_1 a2_2) = some (r1, r2, r3, r4) := by rw [if_neg (show ¬ (false = true) by decide)] at H; exact H
        clear H
        have H := H1
        clear H1
        have H' := Aside0.mk H
        clear H
        have hnb64 := NB152_153.out
        have hnc64 := NB153_152.out
        have hnb65 := NB152_154.out
        have hnc65 := NB154_152.out
        have hcz66_0 : wc.cell? ⟨gb152, 0, none⟩ = some (.int .i64 a1_0) := (blk_cell BK152.out 0).trans rfl
        have hcz66_1 : wc.cell? ⟨gb152, 1, none⟩ = some (.string a1_1) := (blk_cell BK152.out 1).trans rfl
        have hcz66_2 : wc.cell? ⟨gb152, 2, none⟩ = some (.int .i64 a1_2) := (blk_cell BK152.out 2).trans rfl
        have hfz66_0 := blk_frozen BK152.out 0
        have hfz66_1 := blk_frozen BK152.out 1
        have hfz66_2 := blk_frozen BK152.out 2
        go_wp2_with (first | ((with_reducible refine gate_callee (f := 30) rfl ?_); refine goesL_ (some 37) rfl rfl Try.func30 (by kernel_rfl) rfl #[.agg #[.int .i64 a1_0, .string a1_1, .int .i64 a1_2]] rfl (by (try simp only [List.map_toArray, List.map_cons, List.map_nil]); first | done | rfl | (simp only [List.length_drop, List.length_take]; rfl)) ?_; (with_reducible refine (emulatorref26_absolute.calls a1_0 a1_1 a1_2 false _ A54.out).mono ?_); rintro e w67 ⟨rfl, hb⟩; refine ⟨_, rfl, ?_⟩; have n0_ := Aside0.mk (blk_below (by (with_reducible repeat(first|apply bN|apply bD)); exact BK152.out) hb); have n1_ := Aside0.mk (blk_below (by (with_reducible repeat(first|apply bN|apply bD)); exact BK153.out) hb); have n2_ := Aside0.mk (blk_below (by (with_reducible repeat(first|apply bN|apply bD)); exact BK154.out) hb); have n3_ := Aside0.mk (below_step (by repeat (first|(with_reducible first | exact HB.out | apply below_alloc | apply pw_below_drewN | apply below_drew1 | refine below_set ?_ GE152.out | refine below_set ?_ GE153.out | refine below_set ?_ GE154.out) | exact HB.out)) hb); clear BK152; clear BK153; clear BK154; clear HB; have BK152 := n0_; have BK153 := n1_; have BK154 := n2_; have HB := n3_; clear n0_ n1_ n2_ n3_; (try clear hb); (try clear hb2); (try clear hk); (try clear hi)))
        go_meet
        case rel => exact ⟨_, (true), (by first | rfl | (simp; done) | (simp [*]; done)), H', ⟨by have := HJ3.out; first | omega | exact Nat.le_refl _⟩, ⟨by (with_reducible repeat(first|apply bN|apply bD)); exact BK152.out⟩, ⟨by (with_reducible repeat(first|apply bN|apply bD)); exact BK153.out⟩, ⟨by (with_reducible repeat(first|apply bN|apply bD)); exact BK154.out⟩, ⟨by repeat (first|(with_reducible first | exact HB.out | apply below_alloc | apply pw_below_drewN | apply below_drew1 | refine below_set ?_ GE152.out | refine below_set ?_ GE153.out | refine below_set ?_ GE154.out) | exact HB.out)⟩⟩
      case rest =>
       clear HC53
       try clear c1
       try clear c2
       try clear p2
       try clear c3
       try clear c4
       try clear c5
       try clear c6
       try clear c9
       try clear c11
       try clear c13
       try clear c14
       try clear c17
       try clear c18
       try clear c20
       try clear c21
       try clear c22
       try clear c24
       try clear c27
       try clear c28
       try clear c30
       try clear c31
       try clear c32
       try clear c33
       try clear c35
       try clear c35b0
       try clear c35b1
       try clear c37
       try clear c38
       try clear c40
       try clear c44
       try clear c44b0
       try clear c44b1
       try clear c46
       try clear c47
       try clear c49
       try clear c55
       try clear c57
       try clear c58
       try clear c61
       try clear c64
       try clear c65
       try clear hcz15_0
       try clear hcz15_1
       try clear hcz15_2
       try clear hcz18_0
       try clear hcz18_1
       try clear hcz18_2
       try clear hcz22_0
       try clear hcz22_1
       try clear hcz22_2
       try clear hcz25_0
       try clear hcz25_1
       try clear hcz25_2
       try clear hcz29_0
       try clear hcz29_1
       try clear hcz29_2
       try clear hcz34_0
       try clear hcz34_1
       try clear hcz34_2
       try clear hcz39_0
       try clear hcz39_1
       try clear hcz39_2
       try clear hcz41_0
       try clear hcz41_1
       try clear hcz41_2
       try clear hcz43_0
       try clear hcz43_1
       try clear hcz43_2
       try clear hcz48_0
       try clear hcz48_1
       try clear hcz48_2
       try clear hcz50_0
       try clear hcz50_1
       try clear hcz50_2
       try clear hcz52_0
       try clear hcz52_1
       try clear hcz52_2
       try clear hcz59_0
       try clear hcz59_1
       try clear hcz59_2
       try clear hcz62_0
       try clear hcz62_1
       try clear hcz62_2
       try clear hcz66_0
       try clear hcz66_1
       try clear hcz66_2
       try clear hfz15_0
       try clear hfz15_1
       try clear hfz15_2
       try clear hfz18_0
       try clear hfz18_1
       try clear hfz18_2
       try clear hfz22_0
       try clear hfz22_1
       try clear hfz22_2
       try clear hfz25_0
       try clear hfz25_1
       try clear hfz25_2
       try clear hfz29_0
       try clear hfz29_1
       try clear hfz29_2
       try clear hfz34_0
       try clear hfz34_1
       try clear hfz34_2
       try clear hfz39_0
       try clear hfz39_1
       try clear hfz39_2
       try clear hfz41_0
       try clear hfz41_1
       try clear hfz41_2
       try clear hfz43_0
       try clear hfz43_1
       try clear hfz43_2
       try clear hfz48_0
       try clear hfz48_1
       try clear hfz48_2
       try clear hfz50_0
       try clear hfz50_1
       try clear hfz50_2
       try clear hfz52_0
       try clear hfz52_1
       try clear hfz52_2
       try clear hfz59_0
       try clear hfz59_1
       try clear hfz59_2
       try clear hfz62_0
       try clear hfz62_1
       try clear hfz62_2
       try clear hfz66_0
       try clear hfz66_1
       try clear hfz66_2
       try clear p2
       obtain ⟨kq, x43_52, rfl, HA, HJ52, BK152, BK153, BK154, HB⟩ := hcut
       cases kq with
       | zero => exact absurd HA.out (by simp [emulatorref26_Binary.j1])
       | succ kj52 =>
        have H := HA.out
        clear HA
        simp only [emulatorref26_Binary.j1] at H
        by_cases c68 : x43_52 = true
        ·subst c68
         have H1 : (some (0, (⟨#[]⟩ : ByteArray), 0, 22)) = some (r1, r2, r3, r4) := by rw [if_pos rfl] at H; exact H
         clear H
         have H := H1
         clear H1
         simp only [Option.some.injEq, Prod.mk.injEq] at H
         obtain ⟨rfl, rfl, rfl, rfl⟩ := H
         have hnb69 := NB154_152.out
         have hnc69 := NB152_154.out
         have hnb70 := NB154_153.out
         have hnc70 := NB153_154.out
         have hcz71_0 : wc.cell? ⟨gb154, 0, none⟩ = some (.int .i64 0) := (blk_cell BK154.out 0).trans rfl
         have hcz71_1 : wc.cell? ⟨gb154, 1, none⟩ = some (.string (⟨#[]⟩ : ByteArray)) := (blk_cell BK154.out 1).trans rfl
         have hcz71_2 : wc.cell? ⟨gb154, 2, none⟩ = some (.int .i64 0) := (blk_cell BK154.out 2).trans rfl
         have hfz71_0 := blk_frozen BK154.out 0
         have hfz71_1 := blk_frozen BK154.out 1
         have hfz71_2 := blk_frozen BK154.out 2
         go_wp2
         refine bodyPost_ret (results_ct rfl _ _ gb154 24 #[.int .i64 0, .string (⟨#[]⟩ : ByteArray), .int .i64 0] (0, 0) _ rfl (by (with_reducible repeat(first|apply bN|apply bD)); refine blk_put (cs := #[.int .i64 0, .string (⟨#[]⟩ : ByteArray), .int .i64 0]) ?_ 2 _ rfl; (with_reducible repeat(first|apply bN|apply bD)); refine blk_put (cs := #[.int .i64 0, .string (⟨#[]⟩ : ByteArray), .int .i64 0]) ?_ 1 _ rfl; (with_reducible repeat(first|apply bN|apply bD)); refine blk_put (cs := #[.int .i64 0, .string (⟨#[]⟩ : ByteArray), .int .i64 0]) ?_ 0 _ rfl; (with_reducible repeat(first|apply bN|apply bD)); exact BK154.out) Try.underlying24 rfl (by kernel_rfl)) rfl ?_
         exact ⟨by first | rfl | (simp [errW_none, errW_some] <;> rfl) | (simp [*, errW_none, errW_some] <;> rfl), by repeat (first|(with_reducible first | exact HB.out | apply below_alloc | apply pw_below_drewN | apply below_drew1 | refine below_set ?_ GE152.out | refine below_set ?_ GE153.out | refine below_set ?_ GE154.out) | exact HB.out)⟩
        ·replace c68 := Bool.eq_false_iff.mpr c68
         subst c68
         have H1 : (if a0.toList = ([42] : List UInt8) then (some (0, (⟨#[]⟩ : ByteArray), Go.bits .and .i64 (wrap64 (a1_2 * a2_2)) 65535, 0)) else (if a0.toList = ([38] : List UInt8) then (some (0, (⟨#[]⟩ : ByteArray), Go.bits .and .i64 a1_2 a2_2, 0)) else (if a0.toList = ([124] : List UInt8) then (some (0, (⟨#[]⟩ : ByteArray), Go.bits .or .i64 a1_2 a2_2, 0)) else (if a2_2 = 0 then (some (0, (⟨#[]⟩ : ByteArray), 0, 2)) else (some (0, (⟨#[]⟩ : ByteArray), wrap64 (Int.tdiv a1_2 a2_2), 0)))))) = some (r1, r2, r3, r4) := by rw [if_neg (show ¬ (false = true) by decide)] at H; exact H
         clear H
         have H := H1
         clear H1
         by_cases c72 : a0.toList = ([42] : List UInt8)
         ·rw [if_pos c72] at H
          have c72b0 : (a0.toList == ([42] : List UInt8)) = true := beq_iff_eq.mpr c72
          have c72b1 : (a0.toList != ([42] : List UInt8)) = false := bne_eq_false_iff_eq.mpr c72
          clear c72
          simp only [Option.some.injEq, Prod.mk.injEq] at H
          obtain ⟨rfl, rfl, rfl, rfl⟩ := H
          have hnb73 := NB152_153.out
          have hnc73 := NB153_152.out
          have hnb74 := NB152_154.out
          have hnc74 := NB154_152.out
          have hcz75_0 : wc.cell? ⟨gb152, 0, none⟩ = some (.int .i64 a1_0) := (blk_cell BK152.out 0).trans rfl
          have hcz75_1 : wc.cell? ⟨gb152, 1, none⟩ = some (.string a1_1) := (blk_cell BK152.out 1).trans rfl
          have hcz75_2 : wc.cell? ⟨gb152, 2, none⟩ = some (.int .i64 a1_2) := (blk_cell BK152.out 2).trans rfl
          have hfz75_0 := blk_frozen BK152.out 0
          have hfz75_1 := blk_frozen BK152.out 1
          have hfz75_2 := blk_frozen BK152.out 2
          have hnb76 := NB153_154.out
          have hnc76 := NB154_153.out
          have hcz77_0 : wc.cell? ⟨gb153, 0, none⟩ = some (.int .i64 a2_0) := (blk_cell BK153.out 0).trans rfl
          have hcz77_1 : wc.cell? ⟨gb153, 1, none⟩ = some (.string a2_1) := (blk_cell BK153.out 1).trans rfl
          have hcz77_2 : wc.cell? ⟨gb153, 2, none⟩ = some (.int .i64 a2_2) := (blk_cell BK153.out 2).trans rfl
          have hfz77_0 := blk_frozen BK153.out 0
          have hfz77_1 := blk_frozen BK153.out 1
          have hfz77_2 := blk_frozen BK153.out 2
          have hcz78_0 : wc.cell? ⟨gb154, 0, none⟩ = some (.int .i64 0) := (blk_cell BK154.out 0).trans rfl
          have hcz78_1 : wc.cell? ⟨gb154, 1, none⟩ = some (.string (⟨#[]⟩ : ByteArray)) := (blk_cell BK154.out 1).trans rfl
          have hcz78_2 : wc.cell? ⟨gb154, 2, none⟩ = some (.int .i64 0) := (blk_cell BK154.out 2).trans rfl
          have hfz78_0 := blk_frozen BK154.out 0
          have hfz78_1 := blk_frozen BK154.out 1
          have hfz78_2 := blk_frozen BK154.out 2
          go_wp2
          refine bodyPost_ret (results_ct rfl _ _ gb154 24 #[.int .i64 0, .string (⟨#[]⟩ : ByteArray), .int .i64 (Go.bits .and .i64 (wrap64 (a1_2 * a2_2)) 65535)] (0, 0) _ rfl (by (with_reducible repeat(first|apply bN|apply bD)); refine blk_put (cs := #[.int .i64 0, .string (⟨#[]⟩ : ByteArray), .int .i64 0]) ?_ 2 _ rfl; (with_reducible repeat(first|apply bN|apply bD)); refine blk_put (cs := #[.int .i64 0, .string (⟨#[]⟩ : ByteArray), .int .i64 0]) ?_ 1 _ rfl; (with_reducible repeat(first|apply bN|apply bD)); refine blk_put (cs := #[.int .i64 0, .string (⟨#[]⟩ : ByteArray), .int .i64 0]) ?_ 0 _ rfl; (with_reducible repeat(first|apply bN|apply bD)); exact BK154.out) Try.underlying24 rfl (by kernel_rfl)) rfl ?_
          exact ⟨by first | rfl | (simp [errW_none, errW_some] <;> rfl) | (simp [*, errW_none, errW_some] <;> rfl), by repeat (first|(with_reducible first | exact HB.out | apply below_alloc | apply pw_below_drewN | apply below_drew1 | refine below_set ?_ GE152.out | refine below_set ?_ GE153.out | refine below_set ?_ GE154.out) | exact HB.out)⟩
         ·rw [if_neg c72] at H
          have c72b0 : (a0.toList == ([42] : List UInt8)) = false := beq_eq_false_iff_ne.mpr c72
          have c72b1 : (a0.toList != ([42] : List UInt8)) = true := bne_iff_ne.mpr c72
          by_cases c79 : a0.toList = ([38] : List UInt8)
          ·rw [if_pos c79] at H
           have c79b0 : (a0.toList == ([38] : List UInt8)) = true := beq_iff_eq.mpr c79
           have c79b1 : (a0.toList != ([38] : List UInt8)) = false := bne_eq_false_iff_eq.mpr c79
           clear c79
           simp only [Option.some.injEq, Prod.mk.injEq] at H
           obtain ⟨rfl, rfl, rfl, rfl⟩ := H
           have hnb80 := NB152_153.out
           have hnc80 := NB153_152.out
           have hnb81 := NB152_154.out
           have hnc81 := NB154_152.out
           have hcz82_0 : wc.cell? ⟨gb152, 0, none⟩ = some (.int .i64 a1_0) := (blk_cell BK152.out 0).trans rfl
           have hcz82_1 : wc.cell? ⟨gb152, 1, none⟩ = some (.string a1_1) := (blk_cell BK152.out 1).trans rfl
           have hcz82_2 : wc.cell? ⟨gb152, 2, none⟩ = some (.int .i64 a1_2) := (blk_cell BK152.out 2).trans rfl
           have hfz82_0 := blk_frozen BK152.out 0
           have hfz82_1 := blk_frozen BK152.out 1
           have hfz82_2 := blk_frozen BK152.out 2
           have hnb83 := NB153_154.out
           have hnc83 := NB154_153.out
           have hcz84_0 : wc.cell? ⟨gb153, 0, none⟩ = some (.int .i64 a2_0) := (blk_cell BK153.out 0).trans rfl
           have hcz84_1 : wc.cell? ⟨gb153, 1, none⟩ = some (.string a2_1) := (blk_cell BK153.out 1).trans rfl
           have hcz84_2 : wc.cell? ⟨gb153, 2, none⟩ = some (.int .i64 a2_2) := (blk_cell BK153.out 2).trans rfl
           have hfz84_0 := blk_frozen BK153.out 0
           have hfz84_1 := blk_frozen BK153.out 1
           have hfz84_2 := blk_frozen BK153.out 2
           have hcz85_0 : wc.cell? ⟨gb154, 0, none⟩ = some (.int .i64 0) := (blk_cell BK154.out 0).trans rfl
           have hcz85_1 : wc.cell? ⟨gb154, 1, none⟩ = some (.string (⟨#[]⟩ : ByteArray)) := (blk_cell BK154.out 1).trans rfl
           have hcz85_2 : wc.cell? ⟨gb154, 2, none⟩ = some (.int .i64 0) := (blk_cell BK154.out 2).trans rfl
           have hfz85_0 := blk_frozen BK154.out 0
           have hfz85_1 := blk_frozen BK154.out 1
           have hfz85_2 := blk_frozen BK154.out 2
           go_wp2
           refine bodyPost_ret (results_ct rfl _ _ gb154 24 #[.int .i64 0, .string (⟨#[]⟩ : ByteArray), .int .i64 (Go.bits .and .i64 a1_2 a2_2)] (0, 0) _ rfl (by (with_reducible repeat(first|apply bN|apply bD)); refine blk_put (cs := #[.int .i64 0, .string (⟨#[]⟩ : ByteArray), .int .i64 0]) ?_ 2 _ rfl; (with_reducible repeat(first|apply bN|apply bD)); refine blk_put (cs := #[.int .i64 0, .string (⟨#[]⟩ : ByteArray), .int .i64 0]) ?_ 1 _ rfl; (with_reducible repeat(first|apply bN|apply bD)); refine blk_put (cs := #[.int .i64 0, .string (⟨#[]⟩ : ByteArray), .int .i64 0]) ?_ 0 _ rfl; (with_reducible repeat(first|apply bN|apply bD)); exact BK154.out) Try.underlying24 rfl (by kernel_rfl)) rfl ?_
           exact ⟨by first | rfl | (simp [errW_none, errW_some] <;> rfl) | (simp [*, errW_none, errW_some] <;> rfl), by repeat (first|(with_reducible first | exact HB.out | apply below_alloc | apply pw_below_drewN | apply below_drew1 | refine below_set ?_ GE152.out | refine below_set ?_ GE153.out | refine below_set ?_ GE154.out) | exact HB.out)⟩
          ·rw [if_neg c79] at H
           have c79b0 : (a0.toList == ([38] : List UInt8)) = false := beq_eq_false_iff_ne.mpr c79
           have c79b1 : (a0.toList != ([38] : List UInt8)) = true := bne_iff_ne.mpr c79
           by_cases c86 : a0.toList = ([124] : List UInt8)
           ·rw [if_pos c86] at H
            have c86b0 : (a0.toList == ([124] : List UInt8)) = true := beq_iff_eq.mpr c86
            have c86b1 : (a0.toList != ([124] : List UInt8)) = false := bne_eq_false_iff_eq.mpr c86
            clear c86
            simp only [Option.some.injEq, Prod.mk.injEq] at H
            obtain ⟨rfl, rfl, rfl, rfl⟩ := H
            have hnb87 := NB152_153.out
            have hnc87 := NB153_152.out
            have hnb88 := NB152_154.out
            have hnc88 := NB154_152.out
            have hcz89_0 : wc.cell? ⟨gb152, 0, none⟩ = some (.int .i64 a1_0) := (blk_cell BK152.out 0).trans rfl
            have hcz89_1 : wc.cell? ⟨gb152, 1, none⟩ = some (.string a1_1) := (blk_cell BK152.out 1).trans rfl
            have hcz89_2 : wc.cell? ⟨gb152, 2, none⟩ = some (.int .i64 a1_2) := (blk_cell BK152.out 2).trans rfl
            have hfz89_0 := blk_frozen BK152.out 0
            have hfz89_1 := blk_frozen BK152.out 1
            have hfz89_2 := blk_frozen BK152.out 2
            have hnb90 := NB153_154.out
            have hnc90 := NB154_153.out
            have hcz91_0 : wc.cell? ⟨gb153, 0, none⟩ = some (.int .i64 a2_0) := (blk_cell BK153.out 0).trans rfl
            have hcz91_1 : wc.cell? ⟨gb153, 1, none⟩ = some (.string a2_1) := (blk_cell BK153.out 1).trans rfl
            have hcz91_2 : wc.cell? ⟨gb153, 2, none⟩ = some (.int .i64 a2_2) := (blk_cell BK153.out 2).trans rfl
            have hfz91_0 := blk_frozen BK153.out 0
            have hfz91_1 := blk_frozen BK153.out 1
            have hfz91_2 := blk_frozen BK153.out 2
            have hcz92_0 : wc.cell? ⟨gb154, 0, none⟩ = some (.int .i64 0) := (blk_cell BK154.out 0).trans rfl
            have hcz92_1 : wc.cell? ⟨gb154, 1, none⟩ = some (.string (⟨#[]⟩ : ByteArray)) := (blk_cell BK154.out 1).trans rfl
            have hcz92_2 : wc.cell? ⟨gb154, 2, none⟩ = some (.int .i64 0) := (blk_cell BK154.out 2).trans rfl
            have hfz92_0 := blk_frozen BK154.out 0
            have hfz92_1 := blk_frozen BK154.out 1
            have hfz92_2 := blk_frozen BK154.out 2
            go_wp2
            refine bodyPost_ret (results_ct rfl _ _ gb154 24 #[.int .i64 0, .string (⟨#[]⟩ : ByteArray), .int .i64 (Go.bits .or .i64 a1_2 a2_2)] (0, 0) _ rfl (by (with_reducible repeat(first|apply bN|apply bD)); refine blk_put (cs := #[.int .i64 0, .string (⟨#[]⟩ : ByteArray), .int .i64 0]) ?_ 2 _ rfl; (with_reducible repeat(first|apply bN|apply bD)); refine blk_put (cs := #[.int .i64 0, .string (⟨#[]⟩ : ByteArray), .int .i64 0]) ?_ 1 _ rfl; (with_reducible repeat(first|apply bN|apply bD)); refine blk_put (cs := #[.int .i64 0, .string (⟨#[]⟩ : ByteArray), .int .i64 0]) ?_ 0 _ rfl; (with_reducible repeat(first|apply bN|apply bD)); exact BK154.out) Try.underlying24 rfl (by kernel_rfl)) rfl ?_
            exact ⟨by first | rfl | (simp [errW_none, errW_some] <;> rfl) | (simp [*, errW_none, errW_some] <;> rfl), by repeat (first|(with_reducible first | exact HB.out | apply below_alloc | apply pw_below_drewN | apply below_drew1 | refine below_set ?_ GE152.out | refine below_set ?_ GE153.out | refine below_set ?_ GE154.out) | exact HB.out)⟩
           ·rw [if_neg c86] at H
            have c86b0 : (a0.toList == ([124] : List UInt8)) = false := beq_eq_false_iff_ne.mpr c86
            have c86b1 : (a0.toList != ([124] : List UInt8)) = true := bne_iff_ne.mpr c86
            by_cases c93 : a2_2 = 0
            ·rw [if_pos c93] at H
             have c93b0 : (a2_2 == 0) = true := beq_iff_eq.mpr c93
             have c93b1 : (a2_2 != 0) = false := bne_eq_false_iff_eq.mpr c93
             clear c93
             simp only [Option.some.injEq, Prod.mk.injEq] at H
             obtain ⟨rfl, rfl, rfl, rfl⟩ := H
             have hnb94 := NB153_152.out
             have hnc94 := NB152_153.out
             have hnb95 := NB153_154.out
             have hnc95 := NB154_153.out
             have hcz96_0 : wc.cell? ⟨gb153, 0, none⟩ = some (.int .i64 a2_0) := (blk_cell BK153.out 0).trans rfl
             have hcz96_1 : wc.cell? ⟨gb153, 1, none⟩ = some (.string a2_1) := (blk_cell BK153.out 1).trans rfl
             have hcz96_2 : wc.cell? ⟨gb153, 2, none⟩ = some (.int .i64 a2_2) := (blk_cell BK153.out 2).trans rfl
             have hfz96_0 := blk_frozen BK153.out 0
             have hfz96_1 := blk_frozen BK153.out 1
             have hfz96_2 := blk_frozen BK153.out 2
             have hnb97 := NB154_152.out
             have hnc97 := NB152_154.out
             have hcz98_0 : wc.cell? ⟨gb154, 0, none⟩ = some (.int .i64 0) := (blk_cell BK154.out 0).trans rfl
             have hcz98_1 : wc.cell? ⟨gb154, 1, none⟩ = some (.string (⟨#[]⟩ : ByteArray)) := (blk_cell BK154.out 1).trans rfl
             have hcz98_2 : wc.cell? ⟨gb154, 2, none⟩ = some (.int .i64 0) := (blk_cell BK154.out 2).trans rfl
             have hfz98_0 := blk_frozen BK154.out 0
             have hfz98_1 := blk_frozen BK154.out 1
             have hfz98_2 := blk_frozen BK154.out 2
             go_wp2
             refine bodyPost_ret (results_ct rfl _ _ gb154 24 #[.int .i64 0, .string (⟨#[]⟩ : ByteArray), .int .i64 0] (0, 0) _ rfl (by (with_reducible repeat(first|apply bN|apply bD)); refine blk_put (cs := #[.int .i64 0, .string (⟨#[]⟩ : ByteArray), .int .i64 0]) ?_ 2 _ rfl; (with_reducible repeat(first|apply bN|apply bD)); refine blk_put (cs := #[.int .i64 0, .string (⟨#[]⟩ : ByteArray), .int .i64 0]) ?_ 1 _ rfl; (with_reducible repeat(first|apply bN|apply bD)); refine blk_put (cs := #[.int .i64 0, .string (⟨#[]⟩ : ByteArray), .int .i64 0]) ?_ 0 _ rfl; (with_reducible repeat(first|apply bN|apply bD)); exact BK154.out) Try.underlying24 rfl (by kernel_rfl)) rfl ?_
             exact ⟨by first | rfl | (simp [errW_none, errW_some] <;> rfl) | (simp [*, errW_none, errW_some] <;> rfl), by repeat (first|(with_reducible first | exact HB.out | apply below_alloc | apply pw_below_drewN | apply below_drew1 | refine below_set ?_ GE152.out | refine below_set ?_ GE153.out | refine below_set ?_ GE154.out) | exact HB.out)⟩
            ·rw [if_neg c93] at H
             have c93b0 : (a2_2 == 0) = false := beq_eq_false_iff_ne.mpr c93
             have c93b1 : (a2_2 != 0) = true := bne_iff_ne.mpr c93
             simp only [Option.some.injEq, Prod.mk.injEq] at H
             obtain ⟨rfl, rfl, rfl, rfl⟩ := H
             have hnb99 := NB153_152.out
             have hnc99 := NB152_153.out
             have hnb100 := NB153_154.out
             have hnc100 := NB154_153.out
             have hcz101_0 : wc.cell? ⟨gb153, 0, none⟩ = some (.int .i64 a2_0) := (blk_cell BK153.out 0).trans rfl
             have hcz101_1 : wc.cell? ⟨gb153, 1, none⟩ = some (.string a2_1) := (blk_cell BK153.out 1).trans rfl
             have hcz101_2 : wc.cell? ⟨gb153, 2, none⟩ = some (.int .i64 a2_2) := (blk_cell BK153.out 2).trans rfl
             have hfz101_0 := blk_frozen BK153.out 0
             have hfz101_1 := blk_frozen BK153.out 1
             have hfz101_2 := blk_frozen BK153.out 2
             have hnb102 := NB152_154.out
             have hnc102 := NB154_152.out
             have hcz103_0 : wc.cell? ⟨gb152, 0, none⟩ = some (.int .i64 a1_0) := (blk_cell BK152.out 0).trans rfl
             have hcz103_1 : wc.cell? ⟨gb152, 1, none⟩ = some (.string a1_1) := (blk_cell BK152.out 1).trans rfl
             have hcz103_2 : wc.cell? ⟨gb152, 2, none⟩ = some (.int .i64 a1_2) := (blk_cell BK152.out 2).trans rfl
             have hfz103_0 := blk_frozen BK152.out 0
             have hfz103_1 := blk_frozen BK152.out 1
             have hfz103_2 := blk_frozen BK152.out 2
             have hcz104_0 : wc.cell? ⟨gb154, 0, none⟩ = some (.int .i64 0) := (blk_cell BK154.out 0).trans rfl
             have hcz104_1 : wc.cell? ⟨gb154, 1, none⟩ = some (.string (⟨#[]⟩ : ByteArray)) := (blk_cell BK154.out 1).trans rfl
             have hcz104_2 : wc.cell? ⟨gb154, 2, none⟩ = some (.int .i64 0) := (blk_cell BK154.out 2).trans rfl
             have hfz104_0 := blk_frozen BK154.out 0
             have hfz104_1 := blk_frozen BK154.out 1
             have hfz104_2 := blk_frozen BK154.out 2
             go_wp2
             refine bodyPost_ret (results_ct rfl _ _ gb154 24 #[.int .i64 0, .string (⟨#[]⟩ : ByteArray), .int .i64 (wrap64 (Int.tdiv a1_2 a2_2))] (0, 0) _ rfl (by (with_reducible repeat(first|apply bN|apply bD)); refine blk_put (cs := #[.int .i64 0, .string (⟨#[]⟩ : ByteArray), .int .i64 0]) ?_ 2 _ rfl; (with_reducible repeat(first|apply bN|apply bD)); refine blk_put (cs := #[.int .i64 0, .string (⟨#[]⟩ : ByteArray), .int .i64 0]) ?_ 1 _ rfl; (with_reducible repeat(first|apply bN|apply bD)); refine blk_put (cs := #[.int .i64 0, .string (⟨#[]⟩ : ByteArray), .int .i64 0]) ?_ 0 _ rfl; (with_reducible repeat(first|apply bN|apply bD)); exact BK154.out) Try.underlying24 rfl (by kernel_rfl)) rfl ?_
             exact ⟨by first | rfl | (simp [errW_none, errW_some] <;> rfl) | (simp [*, errW_none, errW_some] <;> rfl), by repeat (first|(with_reducible first | exact HB.out | apply below_alloc | apply pw_below_drewN | apply below_drew1 | refine below_set ?_ GE152.out | refine below_set ?_ GE153.out | refine below_set ?_ GE154.out) | exact HB.out)⟩
end Go.Proofs.Ytpinoobgnnlccaa.A
