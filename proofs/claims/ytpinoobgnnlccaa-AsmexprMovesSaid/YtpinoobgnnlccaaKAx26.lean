/- Of the proofs of the laws of emulatorlaw26: Ax26, PMoves, PMoves2. Conditions: those of each theorem. -/
import Derived.Test.YtpinoobgnnlccaaKAx0
import Derived.Test.YtpinoobgnnlccaaKXEq
import Derived.Test.YtpinoobgnnlccaaKAx1
import Derived.Test.YtpinoobgnnlccaaKAx6
import Derived.Test.YtpinoobgnnlccaaKAx15
import Derived.Test.YtpinoobgnnlccaaGreat
-- Written by a program of this session (mp.py) over the kit's print.py, with proofs by hand for what the print does not take.
namespace Go.Proofs.Ytpinoobgnnlccaa.A
open Go.RowKit Go.Proofs.YtpinoobgnnlccaaW.PrintWords Go.Proofs.YtpinoobgnnlccaaW.PrintLast Go.Proofs.YtpinoobgnnlccaaW.PrintMore
attribute [local go_sem] max2_int min2_int max_two min_two max_three min_three max_four min_four   -- for this text's walks alone
set_option linter.unusedVariables false
set_option linter.unusedSimpArgs false
attribute [local go_sem high] eqA24
/-! ### emulatorlaw26_AsmexprMoves: function 6 -/
mutual
def emulatorlaw26_AsmexprMoves.j0 : Nat → List (S44) → Int → Bool → List (S38) → Int → Int → ByteArray → Int → Option (Bool)
  | 0, _, _, _, _, _, _, _, _ => none
  | k + 1, x1, x2, x42, x320000, x320001, x320002, x320003, x320004 => if x42 = true then (some true) else (emulatorlaw26_AsmexprMoves.l0 k x1 x2 0 x320000 x320001 x320002 x320003 x320004)
def emulatorlaw26_AsmexprMoves.l0 : Nat → List (S44) → Int → Int → List (S38) → Int → Int → ByteArray → Int → Option (Bool)
  | 0, _, _, _, _, _, _, _, _ => none
  | k + 1, x1, x2, x7, x320000, x320001, x320002, x320003, x320004 => if x7 < (x320000.length : Int) then (if 0 ≤ x7 then (if ((rd_T38 x320000 x7).f0) = 4 then (if ((rd_T38 x320000 x7).f1).toList = ([43] : List UInt8) then (emulatorlaw26_AsmexprMoves.l0 k x1 x2 (wrap64 (x7 + 1)) x320000 x320001 x320002 x320003 x320004) else (if ((rd_T38 x320000 x7).f1).toList = ([45] : List UInt8) then (emulatorlaw26_AsmexprMoves.l0 k x1 x2 (wrap64 (x7 + 1)) x320000 x320001 x320002 x320003 x320004) else (some true))) else (emulatorlaw26_AsmexprMoves.l0 k x1 x2 (wrap64 (x7 + 1)) x320000 x320001 x320002 x320003 x320004)) else (none)) else ((asmexpr_Eval.f x320000 x320001 x1 x320002 x320003 x320004).bind fun bt326 => ((some (([] : List (S44)) : List (S44))).bind fun y332 => (if y332.length + x1.length < 3518437208883 then (emulatorlaw26_AsmexprMoves.l1 k x2 bt326.2.2.2.1 bt326.2.2.2.2 (y332 ++ x1) 0 x320000 x320001 x320002 x320003 x320004 bt326.1 bt326.2.1 bt326.2.2.1) else (none))))
def emulatorlaw26_AsmexprMoves.l1 : Nat → Int → Int → Int → List (S44) → Int → List (S38) → Int → Int → ByteArray → Int → Int → ByteArray → Int → Option (Bool)
  | 0, _, _, _, _, _, _, _, _, _, _, _, _, _ => none
  | k + 1, x2, x9, x10, x11, x12, x320000, x320001, x320002, x320003, x320004, x332000, x332001, x332002 => if x12 < (x11.length : Int) then (if 0 ≤ x12 then (if ((rd_T44 x11 x12).f1) = 1 then (emulatorlaw26_AsmexprMoves.l1 k x2 x9 x10 (x11.set (x12 : Int).toNat (⟨(rd_T44 x11 x12).f0, (rd_T44 x11 x12).f1, wrap64 ((Go.bits .and .i64 ((rd_T44 x11 x12).f2) 65535) + (wrap64 (x2))), (rd_T44 x11 x12).f3⟩ : S44)) (wrap64 (x12 + 1)) x320000 x320001 x320002 x320003 x320004 x332000 x332001 x332002) else (emulatorlaw26_AsmexprMoves.l1 k x2 x9 x10 x11 (wrap64 (x12 + 1)) x320000 x320001 x320002 x320003 x320004 x332000 x332001 x332002)) else (none)) else (if x320002 = 1 then (emulatorlaw26_AsmexprMoves.j3 k x2 x9 x10 x11 x320000 x320001 x320002 x320003 x320004 x332000 x332001 x332002 x320002 x320003 (Go.bits .and .i64 (wrap64 ((Go.bits .and .i64 x320004 65535) + (wrap64 (x2)))) 65535)) else (emulatorlaw26_AsmexprMoves.j3 k x2 x9 x10 x11 x320000 x320001 x320002 x320003 x320004 x332000 x332001 x332002 x320002 x320003 x320004))
def emulatorlaw26_AsmexprMoves.j3 : Nat → Int → Int → Int → List (S44) → List (S38) → Int → Int → ByteArray → Int → Int → ByteArray → Int → Int → ByteArray → Int → Option (Bool)
  | 0, _, _, _, _, _, _, _, _, _, _, _, _, _, _, _ => none
  | k + 1, x2, x9, x10, x11, x320000, x320001, x320002, x320003, x320004, x332000, x332001, x332002, x342000, x342001, x342002 => (asmexpr_Eval.f x320000 x320001 x11 x342000 x342001 x342002).bind fun bt342 => (if x10 = 0 then (emulatorlaw26_AsmexprMoves.j4 k x2 x9 x10 bt342.2.2.2.1 bt342.2.2.2.2 (bt342.2.2.2.2 != 0) x332000 x332001 x332002 bt342.1 bt342.2.1 bt342.2.2.1) else (emulatorlaw26_AsmexprMoves.j4 k x2 x9 x10 bt342.2.2.2.1 bt342.2.2.2.2 true x332000 x332001 x332002 bt342.1 bt342.2.1 bt342.2.2.1))
def emulatorlaw26_AsmexprMoves.j4 : Nat → Int → Int → Int → Int → Int → Bool → Int → ByteArray → Int → Int → ByteArray → Int → Option (Bool)
  | 0, _, _, _, _, _, _, _, _, _, _, _, _ => none
  | k + 1, x2, x9, x10, x15, x16, x144, x332000, x332001, x332002, x348000, x348001, x348002 => if x144 = true then (if x10 = x16 then (if x9 = x15 then ((emulatorlaw26_alive.f).bind fun t348 => (some t348)) else (some false)) else (some false)) else (if x332000 = 1 then (if (x332000 == x348000 && (x332001.toList == x348001.toList && ((Go.bits .and .i64 (wrap64 (x332002 + (wrap64 (x2)))) 65535) == x348002))) = true then (if x9 = x15 then ((emulatorlaw26_alive.f).bind fun t349 => (some t349)) else (some false)) else (some false)) else (if (x332000 == x348000 && (x332001.toList == x348001.toList && (x332002 == x348002))) = true then (if x9 = x15 then ((emulatorlaw26_alive.f).bind fun t350 => (some t350)) else (some false)) else (some false)))
end
def emulatorlaw26_AsmexprMoves.f (k : Nat) (l0_0 : List (S38)) (a0_1 : Int) (a0_2 : Int) (a0_3 : ByteArray) (a0_4 : Int) (l1 : List (S44)) (a2 : Int) : Option (Bool) := (emulatorref26_Great.f k l0_0).bind fun t320 => (if t320 = true then (emulatorlaw26_AsmexprMoves.j0 k l1 a2 true l0_0 a0_1 a0_2 a0_3 a0_4) else (if (l0_0.length : Int) > 60 then (emulatorlaw26_AsmexprMoves.j0 k l1 a2 true l0_0 a0_1 a0_2 a0_3 a0_4) else ((emulatorref26_GreatSymbols.f k l1).bind fun t321 => (if t321 = true then (emulatorlaw26_AsmexprMoves.j0 k l1 a2 true l0_0 a0_1 a0_2 a0_3 a0_4) else (if (a0_3.size : Int) > 100 then (emulatorlaw26_AsmexprMoves.j0 k l1 a2 true l0_0 a0_1 a0_2 a0_3 a0_4) else ((emulatorref26_Valid.f k a0_2 a0_3 a0_4).bind fun t322 => (emulatorlaw26_AsmexprMoves.j0 k l1 a2 (!t322) l0_0 a0_1 a0_2 a0_3 a0_4)))))))
theorem emulatorlaw26_AsmexprMoves.mono_l : ∀ k, (∀ y0 y1 y2 y3 y4 y5 y6 y7, LeO (emulatorlaw26_AsmexprMoves.j0 k y0 y1 y2 y3 y4 y5 y6 y7) (emulatorlaw26_AsmexprMoves.j0 (k + 1) y0 y1 y2 y3 y4 y5 y6 y7)) ∧ (∀ y0 y1 y2 y3 y4 y5 y6 y7, LeO (emulatorlaw26_AsmexprMoves.l0 k y0 y1 y2 y3 y4 y5 y6 y7) (emulatorlaw26_AsmexprMoves.l0 (k + 1) y0 y1 y2 y3 y4 y5 y6 y7)) ∧ (∀ y0 y1 y2 y3 y4 y5 y6 y7 y8 y9 y10 y11 y12, LeO (emulatorlaw26_AsmexprMoves.l1 k y0 y1 y2 y3 y4 y5 y6 y7 y8 y9 y10 y11 y12) (emulatorlaw26_AsmexprMoves.l1 (k + 1) y0 y1 y2 y3 y4 y5 y6 y7 y8 y9 y10 y11 y12)) ∧ (∀ y0 y1 y2 y3 y4 y5 y6 y7 y8 y9 y10 y11 y12 y13 y14, LeO (emulatorlaw26_AsmexprMoves.j3 k y0 y1 y2 y3 y4 y5 y6 y7 y8 y9 y10 y11 y12 y13 y14) (emulatorlaw26_AsmexprMoves.j3 (k + 1) y0 y1 y2 y3 y4 y5 y6 y7 y8 y9 y10 y11 y12 y13 y14)) ∧ (∀ y0 y1 y2 y3 y4 y5 y6 y7 y8 y9 y10 y11, LeO (emulatorlaw26_AsmexprMoves.j4 k y0 y1 y2 y3 y4 y5 y6 y7 y8 y9 y10 y11) (emulatorlaw26_AsmexprMoves.j4 (k + 1) y0 y1 y2 y3 y4 y5 y6 y7 y8 y9 y10 y11))
  | 0 => ⟨fun _ _ _ _ _ _ _ _ r h => by simp [emulatorlaw26_AsmexprMoves.j0] at h, fun _ _ _ _ _ _ _ _ r h => by simp [emulatorlaw26_AsmexprMoves.l0] at h, fun _ _ _ _ _ _ _ _ _ _ _ _ _ r h => by simp [emulatorlaw26_AsmexprMoves.l1] at h, fun _ _ _ _ _ _ _ _ _ _ _ _ _ _ _ r h => by simp [emulatorlaw26_AsmexprMoves.j3] at h, fun _ _ _ _ _ _ _ _ _ _ _ _ r h => by simp [emulatorlaw26_AsmexprMoves.j4] at h⟩
  | k + 1 => by
    obtain ⟨ih0, ih1, ih2, ih3, ih4⟩ := emulatorlaw26_AsmexprMoves.mono_l k
    refine ⟨?_, ?_, ?_, ?_, ?_⟩
    · intro y0 y1 y2 y3 y4 y5 y6 y7
      unfold emulatorlaw26_AsmexprMoves.j0
      repeat' first
      | (with_reducible exact ih0 _ _ _ _ _ _ _ _)
      | (with_reducible exact ih1 _ _ _ _ _ _ _ _)
      | (with_reducible exact ih2 _ _ _ _ _ _ _ _ _ _ _ _ _)
      | (with_reducible exact ih3 _ _ _ _ _ _ _ _ _ _ _ _ _ _ _)
      | (with_reducible exact ih4 _ _ _ _ _ _ _ _ _ _ _ _)
      | (with_reducible exact emulatorref26_Great.mono _ _)
      | (with_reducible exact emulatorref26_GreatSymbols.mono _ _)
      | (with_reducible exact emulatorref26_Valid.mono _ _ _ _)
      | (with_reducible exact LeO.refl _)
      | (with_reducible exact LeO.none _)
      | (with_reducible refine LeO.ite ?_ ?_)
      | (with_reducible refine LeO.bind ?_ (fun _ => ?_))
      | exact ih0 _ _ _ _ _ _ _ _
      | exact ih1 _ _ _ _ _ _ _ _
      | exact ih2 _ _ _ _ _ _ _ _ _ _ _ _ _
      | exact ih3 _ _ _ _ _ _ _ _ _ _ _ _ _ _ _
      | exact ih4 _ _ _ _ _ _ _ _ _ _ _ _
      | exact emulatorref26_Great.mono _ _
      | exact emulatorref26_GreatSymbols.mono _ _
      | exact emulatorref26_Valid.mono _ _ _ _
      | exact LeO.none _
      | refine LeO.ite ?_ ?_
      | refine LeO.bind ?_ (fun _ => ?_)
    · intro y0 y1 y2 y3 y4 y5 y6 y7
      unfold emulatorlaw26_AsmexprMoves.l0
      repeat' first
      | (with_reducible exact ih0 _ _ _ _ _ _ _ _)
      | (with_reducible exact ih1 _ _ _ _ _ _ _ _)
      | (with_reducible exact ih2 _ _ _ _ _ _ _ _ _ _ _ _ _)
      | (with_reducible exact ih3 _ _ _ _ _ _ _ _ _ _ _ _ _ _ _)
      | (with_reducible exact ih4 _ _ _ _ _ _ _ _ _ _ _ _)
      | (with_reducible exact emulatorref26_Great.mono _ _)
      | (with_reducible exact emulatorref26_GreatSymbols.mono _ _)
      | (with_reducible exact emulatorref26_Valid.mono _ _ _ _)
      | (with_reducible exact LeO.refl _)
      | (with_reducible exact LeO.none _)
      | (with_reducible refine LeO.ite ?_ ?_)
      | (with_reducible refine LeO.bind ?_ (fun _ => ?_))
      | exact ih0 _ _ _ _ _ _ _ _
      | exact ih1 _ _ _ _ _ _ _ _
      | exact ih2 _ _ _ _ _ _ _ _ _ _ _ _ _
      | exact ih3 _ _ _ _ _ _ _ _ _ _ _ _ _ _ _
      | exact ih4 _ _ _ _ _ _ _ _ _ _ _ _
      | exact emulatorref26_Great.mono _ _
      | exact emulatorref26_GreatSymbols.mono _ _
      | exact emulatorref26_Valid.mono _ _ _ _
      | exact LeO.none _
      | refine LeO.ite ?_ ?_
      | refine LeO.bind ?_ (fun _ => ?_)
    · intro y0 y1 y2 y3 y4 y5 y6 y7 y8 y9 y10 y11 y12
      unfold emulatorlaw26_AsmexprMoves.l1
      repeat' first
      | (with_reducible exact ih0 _ _ _ _ _ _ _ _)
      | (with_reducible exact ih1 _ _ _ _ _ _ _ _)
      | (with_reducible exact ih2 _ _ _ _ _ _ _ _ _ _ _ _ _)
      | (with_reducible exact ih3 _ _ _ _ _ _ _ _ _ _ _ _ _ _ _)
      | (with_reducible exact ih4 _ _ _ _ _ _ _ _ _ _ _ _)
      | (with_reducible exact emulatorref26_Great.mono _ _)
      | (with_reducible exact emulatorref26_GreatSymbols.mono _ _)
      | (with_reducible exact emulatorref26_Valid.mono _ _ _ _)
      | (with_reducible exact LeO.refl _)
      | (with_reducible exact LeO.none _)
      | (with_reducible refine LeO.ite ?_ ?_)
      | (with_reducible refine LeO.bind ?_ (fun _ => ?_))
      | exact ih0 _ _ _ _ _ _ _ _
      | exact ih1 _ _ _ _ _ _ _ _
      | exact ih2 _ _ _ _ _ _ _ _ _ _ _ _ _
      | exact ih3 _ _ _ _ _ _ _ _ _ _ _ _ _ _ _
      | exact ih4 _ _ _ _ _ _ _ _ _ _ _ _
      | exact emulatorref26_Great.mono _ _
      | exact emulatorref26_GreatSymbols.mono _ _
      | exact emulatorref26_Valid.mono _ _ _ _
      | exact LeO.none _
      | refine LeO.ite ?_ ?_
      | refine LeO.bind ?_ (fun _ => ?_)
    · intro y0 y1 y2 y3 y4 y5 y6 y7 y8 y9 y10 y11 y12 y13 y14
      unfold emulatorlaw26_AsmexprMoves.j3
      repeat' first
      | (with_reducible exact ih0 _ _ _ _ _ _ _ _)
      | (with_reducible exact ih1 _ _ _ _ _ _ _ _)
      | (with_reducible exact ih2 _ _ _ _ _ _ _ _ _ _ _ _ _)
      | (with_reducible exact ih3 _ _ _ _ _ _ _ _ _ _ _ _ _ _ _)
      | (with_reducible exact ih4 _ _ _ _ _ _ _ _ _ _ _ _)
      | (with_reducible exact emulatorref26_Great.mono _ _)
      | (with_reducible exact emulatorref26_GreatSymbols.mono _ _)
      | (with_reducible exact emulatorref26_Valid.mono _ _ _ _)
      | (with_reducible exact LeO.refl _)
      | (with_reducible exact LeO.none _)
      | (with_reducible refine LeO.ite ?_ ?_)
      | (with_reducible refine LeO.bind ?_ (fun _ => ?_))
      | exact ih0 _ _ _ _ _ _ _ _
      | exact ih1 _ _ _ _ _ _ _ _
      | exact ih2 _ _ _ _ _ _ _ _ _ _ _ _ _
      | exact ih3 _ _ _ _ _ _ _ _ _ _ _ _ _ _ _
      | exact ih4 _ _ _ _ _ _ _ _ _ _ _ _
      | exact emulatorref26_Great.mono _ _
      | exact emulatorref26_GreatSymbols.mono _ _
      | exact emulatorref26_Valid.mono _ _ _ _
      | exact LeO.none _
      | refine LeO.ite ?_ ?_
      | refine LeO.bind ?_ (fun _ => ?_)
    · intro y0 y1 y2 y3 y4 y5 y6 y7 y8 y9 y10 y11
      unfold emulatorlaw26_AsmexprMoves.j4
      repeat' first
      | (with_reducible exact ih0 _ _ _ _ _ _ _ _)
      | (with_reducible exact ih1 _ _ _ _ _ _ _ _)
      | (with_reducible exact ih2 _ _ _ _ _ _ _ _ _ _ _ _ _)
      | (with_reducible exact ih3 _ _ _ _ _ _ _ _ _ _ _ _ _ _ _)
      | (with_reducible exact ih4 _ _ _ _ _ _ _ _ _ _ _ _)
      | (with_reducible exact emulatorref26_Great.mono _ _)
      | (with_reducible exact emulatorref26_GreatSymbols.mono _ _)
      | (with_reducible exact emulatorref26_Valid.mono _ _ _ _)
      | (with_reducible exact LeO.refl _)
      | (with_reducible exact LeO.none _)
      | (with_reducible refine LeO.ite ?_ ?_)
      | (with_reducible refine LeO.bind ?_ (fun _ => ?_))
      | exact ih0 _ _ _ _ _ _ _ _
      | exact ih1 _ _ _ _ _ _ _ _
      | exact ih2 _ _ _ _ _ _ _ _ _ _ _ _ _
      | exact ih3 _ _ _ _ _ _ _ _ _ _ _ _ _ _ _
      | exact ih4 _ _ _ _ _ _ _ _ _ _ _ _
      | exact emulatorref26_Great.mono _ _
      | exact emulatorref26_GreatSymbols.mono _ _
      | exact emulatorref26_Valid.mono _ _ _ _
      | exact LeO.none _
      | refine LeO.ite ?_ ?_
      | refine LeO.bind ?_ (fun _ => ?_)
theorem emulatorlaw26_AsmexprMoves.mono : ∀ a0 a1 a2 a3 a4 a5 a6 k, LeO (emulatorlaw26_AsmexprMoves.f k a0 a1 a2 a3 a4 a5 a6) (emulatorlaw26_AsmexprMoves.f (k + 1) a0 a1 a2 a3 a4 a5 a6) := by
  intro a0 a1 a2 a3 a4 a5 a6 k
  obtain ⟨ih0, ih1, ih2, ih3, ih4⟩ := emulatorlaw26_AsmexprMoves.mono_l k
  unfold emulatorlaw26_AsmexprMoves.f
  repeat' first
      | (with_reducible exact ih0 _ _ _ _ _ _ _ _)
      | (with_reducible exact ih1 _ _ _ _ _ _ _ _)
      | (with_reducible exact ih2 _ _ _ _ _ _ _ _ _ _ _ _ _)
      | (with_reducible exact ih3 _ _ _ _ _ _ _ _ _ _ _ _ _ _ _)
      | (with_reducible exact ih4 _ _ _ _ _ _ _ _ _ _ _ _)
      | (with_reducible exact emulatorref26_Great.mono _ _)
      | (with_reducible exact emulatorref26_GreatSymbols.mono _ _)
      | (with_reducible exact emulatorref26_Valid.mono _ _ _ _)
      | (with_reducible exact LeO.refl _)
      | (with_reducible exact LeO.none _)
      | (with_reducible refine LeO.ite ?_ ?_)
      | (with_reducible refine LeO.bind ?_ (fun _ => ?_))
      | exact ih0 _ _ _ _ _ _ _ _
      | exact ih1 _ _ _ _ _ _ _ _
      | exact ih2 _ _ _ _ _ _ _ _ _ _ _ _ _
      | exact ih3 _ _ _ _ _ _ _ _ _ _ _ _ _ _ _
      | exact ih4 _ _ _ _ _ _ _ _ _ _ _ _
      | exact emulatorref26_Great.mono _ _
      | exact emulatorref26_GreatSymbols.mono _ _
      | exact emulatorref26_Valid.mono _ _ _ _
      | exact LeO.none _
      | refine LeO.ite ?_ ?_
      | refine LeO.bind ?_ (fun _ => ?_)
set_option maxHeartbeats 8000000 in
set_option maxRecDepth 100000 in
theorem emulatorlaw26_AsmexprMoves.calls (k : Nat) (A0_0 : Option Addr) (c0_0 : Nat) (l0_0 : List (S38)) (a0_1 : Int) (a0_2 : Int) (a0_3 : ByteArray) (a0_4 : Int) (A1 : Option Addr) (c1 : Nat) (l1 : List (S44)) (a2 : Int) (r : Bool) (w : World) (hr0_0 : Kd.C k38 w A0_0 l0_0.length l0_0) (hc0_0 : l0_0.length ≤ c0_0) (hr1 : Kd.C k44 w A1 l1.length l1) (hc1 : l1.length ≤ c1) (h : emulatorlaw26_AsmexprMoves.f k l0_0 a0_1 a0_2 a0_3 a0_4 l1 a2 = some r) (hrT : r = true) :
    Calls Try.prog 6 #[.agg #[.slice A0_0 l0_0.length c0_0, .int .i64 a0_1, .int .i64 a0_2, .string a0_3, .int .i64 a0_4], .slice A1 l1.length c1, .int .u16 a2] w fun e w' => e = .returned (.bool r) ∧ Below w.heap.size w w' := by
  have hu26 := Try.underlying26
  have hu24 := Try.underlying24
  have HR0_0 := Aside0.mk hr0_0
  have HC0_0 := Aside0.mk hc0_0
  clear hr0_0 hc0_0
  have HR1 := Aside0.mk hr1
  have HC1 := Aside0.mk hc1
  clear hr1 hc1
  have hr_ := Aside0.mk hrT
  clear hrT
  have HB := Aside0.mk (Below.refl w.heap.size w)
  have H : ((emulatorref26_Great.f k l0_0).bind fun t320 => (if t320 = true then (emulatorlaw26_AsmexprMoves.j0 k l1 a2 true l0_0 a0_1 a0_2 a0_3 a0_4) else (if (l0_0.length : Int) > 60 then (emulatorlaw26_AsmexprMoves.j0 k l1 a2 true l0_0 a0_1 a0_2 a0_3 a0_4) else ((emulatorref26_GreatSymbols.f k l1).bind fun t321 => (if t321 = true then (emulatorlaw26_AsmexprMoves.j0 k l1 a2 true l0_0 a0_1 a0_2 a0_3 a0_4) else (if (a0_3.size : Int) > 100 then (emulatorlaw26_AsmexprMoves.j0 k l1 a2 true l0_0 a0_1 a0_2 a0_3 a0_4) else ((emulatorref26_Valid.f k a0_2 a0_3 a0_4).bind fun t322 => (emulatorlaw26_AsmexprMoves.j0 k l1 a2 (!t322) l0_0 a0_1 a0_2 a0_3 a0_4)))))))) = some r := h
  clear h
  have HC4 := Aside0.mk H
  clear H
  go_enter Try.func6, Try.ntmps6
  go_upto_region 1 with (first | ((with_reducible refine gate_dst (N := 3) rfl ?_); (try (refine gate_guard (by rfl) ?_; dsimp only)); refine box_event ?hg (N := 3) ?hd (cs := #[.slice A0_0 l0_0.length c0_0, .int .i64 a0_1, .int .i64 a0_2, .string a0_3, .int .i64 a0_4]) (t := 26) ?hr ?_; (case hd => rfl); (case hg => rfl); (case hr => first | (go_simp; done) | (go_simp; rfl)); intro gb319 hg w5 hbox hb; have n0_ := Aside0.mk (below_step (by repeat (first | (with_reducible first | exact HB.out | apply below_alloc | apply pw_below_drewN | apply below_drew1) | exact HB.out)) hb); have n1_ := Aside0.mk (hbox); have n2_ := Aside0.mk ((by rw [hg]; exact (below_size (by repeat (first | (with_reducible first | exact HB.out | apply below_alloc | apply pw_below_drewN | apply below_drew1) | exact HB.out))) : w.heap.size ≤ gb319)); have n3_ := Aside0.mk ((by rw [hg]; exact (below_size (by repeat (first | (with_reducible first | exact HB.out | apply below_alloc | apply pw_below_drewN | apply below_drew1) | exact HB.out))) : w.heap.size ≤ gb319)); clear HB; have HB := n0_; have BK319 := n1_; have GW319 := n2_; have GE319 := n3_; clear n0_ n1_ n2_ n3_; clear hb hbox hg))
  (try simp only [Act.put, List.setIfInBounds_toArray, List.set_cons_zero, List.set_cons_succ])
  go_cut [42] (fun v42 wc => ∃ (kq : Nat) (x42_3 : Bool), v42 = .bool x42_3 ∧ Aside0 (emulatorlaw26_AsmexprMoves.j0 kq l1 a2 x42_3 l0_0 a0_1 a0_2 a0_3 a0_4 = some r) ∧ Aside0 (kq ≤ k) ∧ Aside0 (wc.heap[gb319]? = some (.cells #[(.slice A0_0 l0_0.length c0_0), .int .i64 a0_1, .int .i64 a0_2, .string a0_3, .int .i64 a0_4] 26 (0, 0))) ∧ Aside0 (Below w.heap.size w wc))
  case first =>
    have H := HC4.out
    clear HC4
    replace H := Option.bind_eq_some_iff.mp H
    obtain ⟨t320, A60, H⟩ := H
    replace H : (if t320 = true then (emulatorlaw26_AsmexprMoves.j0 k l1 a2 true l0_0 a0_1 a0_2 a0_3 a0_4) else (if (l0_0.length : Int) > 60 then (emulatorlaw26_AsmexprMoves.j0 k l1 a2 true l0_0 a0_1 a0_2 a0_3 a0_4) else ((emulatorref26_GreatSymbols.f k l1).bind fun t321 => (if t321 = true then (emulatorlaw26_AsmexprMoves.j0 k l1 a2 true l0_0 a0_1 a0_2 a0_3 a0_4) else (if (a0_3.size : Int) > 100 then (emulatorlaw26_AsmexprMoves.j0 k l1 a2 true l0_0 a0_1 a0_2 a0_3 a0_4) else ((emulatorref26_Valid.f k a0_2 a0_3 a0_4).bind fun t322 => (emulatorlaw26_AsmexprMoves.j0 k l1 a2 (!t322) l0_0 a0_1 a0_2 a0_3 a0_4))))))) = some r := H
    have A6 := Aside0.mk A60
    clear A60
    by_cases c7 : t320 = true
    · subst c7
      have H1 : (emulatorlaw26_AsmexprMoves.j0 k l1 a2 true l0_0 a0_1 a0_2 a0_3 a0_4) = some r := by rw [if_pos rfl] at H; exact H
      clear H
      have H := H1
      clear H1
      have H' := Aside0.mk H
      clear H
      have hcz8_0 : w5.cell? ⟨gb319, 0, none⟩ = some (.slice A0_0 l0_0.length c0_0) := (blk_cell BK319.out 0).trans rfl
      have hcz8_1 : w5.cell? ⟨gb319, 1, none⟩ = some (.int .i64 a0_1) := (blk_cell BK319.out 1).trans rfl
      have hcz8_2 : w5.cell? ⟨gb319, 2, none⟩ = some (.int .i64 a0_2) := (blk_cell BK319.out 2).trans rfl
      have hcz8_3 : w5.cell? ⟨gb319, 3, none⟩ = some (.string a0_3) := (blk_cell BK319.out 3).trans rfl
      have hcz8_4 : w5.cell? ⟨gb319, 4, none⟩ = some (.int .i64 a0_4) := (blk_cell BK319.out 4).trans rfl
      have hfz8_0 := blk_frozen BK319.out 0
      have hfz8_1 := blk_frozen BK319.out 1
      have hfz8_2 := blk_frozen BK319.out 2
      have hfz8_3 := blk_frozen BK319.out 3
      have hfz8_4 := blk_frozen BK319.out 4
      go_wp2_with (first | ((with_reducible refine gate_callee (f := 9) rfl ?_); refine goesL_ (some 19) rfl rfl Try.func9 (by kernel_rfl) rfl #[.slice A0_0 l0_0.length c0_0] rfl (by (try simp only [List.map_toArray, List.map_cons, List.map_nil]); first | done | rfl | (simp only [List.length_drop, List.length_take]; rfl)) ?_; (with_reducible refine (emulatorref26_Great.calls k _ _ l0_0 true _ ?side1 ?side2 A6.out).mono ?_); (case side1 => repeat (first | exact (Kd.C_below HR0_0.out HB.out) | (with_reducible refine Kd.C_alloc ?_ _) | (with_reducible refine Kd.C_drewN ?_ _) | (with_reducible refine Kd.C_drew ?_))); (case side2 => exact HC0_0.out); rintro e w' ⟨rfl, ⟨nd, rfl⟩⟩; refine ⟨_, rfl, ?_⟩))
      go_meet
      case rel => exact ⟨_, (true), (by first | rfl | (simp; done) | (simp [*]; done)), H', ⟨by first | omega | exact Nat.le_refl _⟩, ⟨by (with_reducible repeat (first | refine blk_drewN ?_ _ | refine blk_drew ?_ | refine blk_alloc ?_ _)); exact BK319.out⟩, ⟨by repeat (first | (with_reducible first | exact HB.out | apply below_alloc | apply pw_below_drewN | apply below_drew1 | refine below_set ?_ GE319.out) | exact HB.out)⟩⟩
    · replace c7 := Bool.eq_false_iff.mpr c7
      subst c7
      have H1 : (if (l0_0.length : Int) > 60 then (emulatorlaw26_AsmexprMoves.j0 k l1 a2 true l0_0 a0_1 a0_2 a0_3 a0_4) else ((emulatorref26_GreatSymbols.f k l1).bind fun t321 => (if t321 = true then (emulatorlaw26_AsmexprMoves.j0 k l1 a2 true l0_0 a0_1 a0_2 a0_3 a0_4) else (if (a0_3.size : Int) > 100 then (emulatorlaw26_AsmexprMoves.j0 k l1 a2 true l0_0 a0_1 a0_2 a0_3 a0_4) else ((emulatorref26_Valid.f k a0_2 a0_3 a0_4).bind fun t322 => (emulatorlaw26_AsmexprMoves.j0 k l1 a2 (!t322) l0_0 a0_1 a0_2 a0_3 a0_4)))))) = some r := by rw [if_neg (show ¬ (false = true) by decide)] at H; exact H
      clear H
      have H := H1
      clear H1
      by_cases c9 : (l0_0.length : Int) > 60
      · rw [if_pos c9] at H
        have c9b0 : decide (60 < (l0_0.length : Int)) = true := decide_eq_true c9
        have c9b1 : decide (60 < l0_0.length) = true := decide_eq_true (by omega)
        clear c9
        (first | rw [c9b0] | (simp only [i64_w, i32_w]; rw [c9b0]) | skip)
        have H' := Aside0.mk H
        clear H
        have hcz10_0 : w5.cell? ⟨gb319, 0, none⟩ = some (.slice A0_0 l0_0.length c0_0) := (blk_cell BK319.out 0).trans rfl
        have hcz10_1 : w5.cell? ⟨gb319, 1, none⟩ = some (.int .i64 a0_1) := (blk_cell BK319.out 1).trans rfl
        have hcz10_2 : w5.cell? ⟨gb319, 2, none⟩ = some (.int .i64 a0_2) := (blk_cell BK319.out 2).trans rfl
        have hcz10_3 : w5.cell? ⟨gb319, 3, none⟩ = some (.string a0_3) := (blk_cell BK319.out 3).trans rfl
        have hcz10_4 : w5.cell? ⟨gb319, 4, none⟩ = some (.int .i64 a0_4) := (blk_cell BK319.out 4).trans rfl
        have hfz10_0 := blk_frozen BK319.out 0
        have hfz10_1 := blk_frozen BK319.out 1
        have hfz10_2 := blk_frozen BK319.out 2
        have hfz10_3 := blk_frozen BK319.out 3
        have hfz10_4 := blk_frozen BK319.out 4
        go_wp2_with (first | ((with_reducible refine gate_callee (f := 9) rfl ?_); refine goesL_ (some 19) rfl rfl Try.func9 (by kernel_rfl) rfl #[.slice A0_0 l0_0.length c0_0] rfl (by (try simp only [List.map_toArray, List.map_cons, List.map_nil]); first | done | rfl | (simp only [List.length_drop, List.length_take]; rfl)) ?_; (with_reducible refine (emulatorref26_Great.calls k _ _ l0_0 false _ ?side1 ?side2 A6.out).mono ?_); (case side1 => repeat (first | exact (Kd.C_below HR0_0.out HB.out) | (with_reducible refine Kd.C_alloc ?_ _) | (with_reducible refine Kd.C_drewN ?_ _) | (with_reducible refine Kd.C_drew ?_))); (case side2 => exact HC0_0.out); rintro e w' ⟨rfl, ⟨nd, rfl⟩⟩; refine ⟨_, rfl, ?_⟩))
        go_meet
        case rel => exact ⟨_, (true), (by first | rfl | (simp; done) | (simp [*]; done)), H', ⟨by first | omega | exact Nat.le_refl _⟩, ⟨by (with_reducible repeat (first | refine blk_drewN ?_ _ | refine blk_drew ?_ | refine blk_alloc ?_ _)); exact BK319.out⟩, ⟨by repeat (first | (with_reducible first | exact HB.out | apply below_alloc | apply pw_below_drewN | apply below_drew1 | refine below_set ?_ GE319.out) | exact HB.out)⟩⟩
      · rw [if_neg c9] at H
        have c9b0 : decide (60 < (l0_0.length : Int)) = false := decide_eq_false c9
        have c9b1 : decide (60 < l0_0.length) = false := decide_eq_false (by omega)
        clear c9
        (first | rw [c9b0] | (simp only [i64_w, i32_w]; rw [c9b0]) | skip)
        replace H := Option.bind_eq_some_iff.mp H
        obtain ⟨t321, A110, H⟩ := H
        replace H : (if t321 = true then (emulatorlaw26_AsmexprMoves.j0 k l1 a2 true l0_0 a0_1 a0_2 a0_3 a0_4) else (if (a0_3.size : Int) > 100 then (emulatorlaw26_AsmexprMoves.j0 k l1 a2 true l0_0 a0_1 a0_2 a0_3 a0_4) else ((emulatorref26_Valid.f k a0_2 a0_3 a0_4).bind fun t322 => (emulatorlaw26_AsmexprMoves.j0 k l1 a2 (!t322) l0_0 a0_1 a0_2 a0_3 a0_4)))) = some r := H
        have A11 := Aside0.mk A110
        clear A110
        by_cases c12 : t321 = true
        · subst c12
          have H1 : (emulatorlaw26_AsmexprMoves.j0 k l1 a2 true l0_0 a0_1 a0_2 a0_3 a0_4) = some r := by rw [if_pos rfl] at H; exact H
          clear H
          have H := H1
          clear H1
          have H' := Aside0.mk H
          clear H
          have hcz13_0 : w5.cell? ⟨gb319, 0, none⟩ = some (.slice A0_0 l0_0.length c0_0) := (blk_cell BK319.out 0).trans rfl
          have hcz13_1 : w5.cell? ⟨gb319, 1, none⟩ = some (.int .i64 a0_1) := (blk_cell BK319.out 1).trans rfl
          have hcz13_2 : w5.cell? ⟨gb319, 2, none⟩ = some (.int .i64 a0_2) := (blk_cell BK319.out 2).trans rfl
          have hcz13_3 : w5.cell? ⟨gb319, 3, none⟩ = some (.string a0_3) := (blk_cell BK319.out 3).trans rfl
          have hcz13_4 : w5.cell? ⟨gb319, 4, none⟩ = some (.int .i64 a0_4) := (blk_cell BK319.out 4).trans rfl
          have hfz13_0 := blk_frozen BK319.out 0
          have hfz13_1 := blk_frozen BK319.out 1
          have hfz13_2 := blk_frozen BK319.out 2
          have hfz13_3 := blk_frozen BK319.out 3
          have hfz13_4 := blk_frozen BK319.out 4
          go_wp2_with (first | ((with_reducible refine gate_callee (f := 9) rfl ?_); refine goesL_ (some 19) rfl rfl Try.func9 (by kernel_rfl) rfl #[.slice A0_0 l0_0.length c0_0] rfl (by (try simp only [List.map_toArray, List.map_cons, List.map_nil]); first | done | rfl | (simp only [List.length_drop, List.length_take]; rfl)) ?_; (with_reducible refine (emulatorref26_Great.calls k _ _ l0_0 false _ ?side1 ?side2 A6.out).mono ?_); (case side1 => repeat (first | exact (Kd.C_below HR0_0.out HB.out) | (with_reducible refine Kd.C_alloc ?_ _) | (with_reducible refine Kd.C_drewN ?_ _) | (with_reducible refine Kd.C_drew ?_))); (case side2 => exact HC0_0.out); rintro e w' ⟨rfl, ⟨nd, rfl⟩⟩; refine ⟨_, rfl, ?_⟩) | (go_at_call 10; (with_reducible refine (emulatorref26_GreatSymbols.calls k _ _ l1 true _ ?side1 ?side2 A11.out).mono ?_); (case side1 => repeat (first | exact (Kd.C_below HR1.out (by repeat (first | (with_reducible first | exact HB.out | apply below_alloc | apply pw_below_drewN | apply below_drew1 | refine below_set ?_ GE319.out) | exact HB.out))) | (with_reducible refine Kd.C_alloc ?_ _) | (with_reducible refine Kd.C_drewN ?_ _) | (with_reducible refine Kd.C_drew ?_))); (case side2 => exact HC1.out); rintro e w' ⟨rfl, ⟨nd, rfl⟩⟩))
          go_meet
          case rel => exact ⟨_, (true), (by first | rfl | (simp; done) | (simp [*]; done)), H', ⟨by first | omega | exact Nat.le_refl _⟩, ⟨by (with_reducible repeat (first | refine blk_drewN ?_ _ | refine blk_drew ?_ | refine blk_alloc ?_ _)); exact BK319.out⟩, ⟨by repeat (first | (with_reducible first | exact HB.out | apply below_alloc | apply pw_below_drewN | apply below_drew1 | refine below_set ?_ GE319.out) | exact HB.out)⟩⟩
        · replace c12 := Bool.eq_false_iff.mpr c12
          subst c12
          have H1 : (if (a0_3.size : Int) > 100 then (emulatorlaw26_AsmexprMoves.j0 k l1 a2 true l0_0 a0_1 a0_2 a0_3 a0_4) else ((emulatorref26_Valid.f k a0_2 a0_3 a0_4).bind fun t322 => (emulatorlaw26_AsmexprMoves.j0 k l1 a2 (!t322) l0_0 a0_1 a0_2 a0_3 a0_4))) = some r := by rw [if_neg (show ¬ (false = true) by decide)] at H; exact H
          clear H
          have H := H1
          clear H1
          by_cases c14 : (a0_3.size : Int) > 100
          · rw [if_pos c14] at H
            have c14b0 : decide (100 < (a0_3.size : Int)) = true := decide_eq_true c14
            have c14b1 : decide (100 < a0_3.size) = true := decide_eq_true (by omega)
            clear c14
            have H' := Aside0.mk H
            clear H
            have hcz15_0 : w5.cell? ⟨gb319, 0, none⟩ = some (.slice A0_0 l0_0.length c0_0) := (blk_cell BK319.out 0).trans rfl
            have hcz15_1 : w5.cell? ⟨gb319, 1, none⟩ = some (.int .i64 a0_1) := (blk_cell BK319.out 1).trans rfl
            have hcz15_2 : w5.cell? ⟨gb319, 2, none⟩ = some (.int .i64 a0_2) := (blk_cell BK319.out 2).trans rfl
            have hcz15_3 : w5.cell? ⟨gb319, 3, none⟩ = some (.string a0_3) := (blk_cell BK319.out 3).trans rfl
            have hcz15_4 : w5.cell? ⟨gb319, 4, none⟩ = some (.int .i64 a0_4) := (blk_cell BK319.out 4).trans rfl
            have hfz15_0 := blk_frozen BK319.out 0
            have hfz15_1 := blk_frozen BK319.out 1
            have hfz15_2 := blk_frozen BK319.out 2
            have hfz15_3 := blk_frozen BK319.out 3
            have hfz15_4 := blk_frozen BK319.out 4
            go_wp2_with (first | ((with_reducible refine gate_callee (f := 9) rfl ?_); refine goesL_ (some 19) rfl rfl Try.func9 (by kernel_rfl) rfl #[.slice A0_0 l0_0.length c0_0] rfl (by (try simp only [List.map_toArray, List.map_cons, List.map_nil]); first | done | rfl | (simp only [List.length_drop, List.length_take]; rfl)) ?_; (with_reducible refine (emulatorref26_Great.calls k _ _ l0_0 false _ ?side1 ?side2 A6.out).mono ?_); (case side1 => repeat (first | exact (Kd.C_below HR0_0.out HB.out) | (with_reducible refine Kd.C_alloc ?_ _) | (with_reducible refine Kd.C_drewN ?_ _) | (with_reducible refine Kd.C_drew ?_))); (case side2 => exact HC0_0.out); rintro e w' ⟨rfl, ⟨nd, rfl⟩⟩; refine ⟨_, rfl, ?_⟩) | (go_at_call 10; (with_reducible refine (emulatorref26_GreatSymbols.calls k _ _ l1 false _ ?side1 ?side2 A11.out).mono ?_); (case side1 => repeat (first | exact (Kd.C_below HR1.out (by repeat (first | (with_reducible first | exact HB.out | apply below_alloc | apply pw_below_drewN | apply below_drew1 | refine below_set ?_ GE319.out) | exact HB.out))) | (with_reducible refine Kd.C_alloc ?_ _) | (with_reducible refine Kd.C_drewN ?_ _) | (with_reducible refine Kd.C_drew ?_))); (case side2 => exact HC1.out); rintro e w' ⟨rfl, ⟨nd, rfl⟩⟩))
            go_meet
            case rel => exact ⟨_, (true), (by first | rfl | (simp; done) | (simp [*]; done)), H', ⟨by first | omega | exact Nat.le_refl _⟩, ⟨by (with_reducible repeat (first | refine blk_drewN ?_ _ | refine blk_drew ?_ | refine blk_alloc ?_ _)); exact BK319.out⟩, ⟨by repeat (first | (with_reducible first | exact HB.out | apply below_alloc | apply pw_below_drewN | apply below_drew1 | refine below_set ?_ GE319.out) | exact HB.out)⟩⟩
          · rw [if_neg c14] at H
            have c14b0 : decide (100 < (a0_3.size : Int)) = false := decide_eq_false c14
            have c14b1 : decide (100 < a0_3.size) = false := decide_eq_false (by omega)
            clear c14
            replace H := Option.bind_eq_some_iff.mp H
            obtain ⟨t322, A160, H⟩ := H
            replace H : (emulatorlaw26_AsmexprMoves.j0 k l1 a2 (!t322) l0_0 a0_1 a0_2 a0_3 a0_4) = some r := H
            have A16 := Aside0.mk A160
            clear A160
            have H' := Aside0.mk H
            clear H
            have hcz17_0 : w5.cell? ⟨gb319, 0, none⟩ = some (.slice A0_0 l0_0.length c0_0) := (blk_cell BK319.out 0).trans rfl
            have hcz17_1 : w5.cell? ⟨gb319, 1, none⟩ = some (.int .i64 a0_1) := (blk_cell BK319.out 1).trans rfl
            have hcz17_2 : w5.cell? ⟨gb319, 2, none⟩ = some (.int .i64 a0_2) := (blk_cell BK319.out 2).trans rfl
            have hcz17_3 : w5.cell? ⟨gb319, 3, none⟩ = some (.string a0_3) := (blk_cell BK319.out 3).trans rfl
            have hcz17_4 : w5.cell? ⟨gb319, 4, none⟩ = some (.int .i64 a0_4) := (blk_cell BK319.out 4).trans rfl
            have hfz17_0 := blk_frozen BK319.out 0
            have hfz17_1 := blk_frozen BK319.out 1
            have hfz17_2 := blk_frozen BK319.out 2
            have hfz17_3 := blk_frozen BK319.out 3
            have hfz17_4 := blk_frozen BK319.out 4
            go_wp2_with (first | ((with_reducible refine gate_callee (f := 9) rfl ?_); refine goesL_ (some 19) rfl rfl Try.func9 (by kernel_rfl) rfl #[.slice A0_0 l0_0.length c0_0] rfl (by (try simp only [List.map_toArray, List.map_cons, List.map_nil]); first | done | rfl | (simp only [List.length_drop, List.length_take]; rfl)) ?_; (with_reducible refine (emulatorref26_Great.calls k _ _ l0_0 false _ ?side1 ?side2 A6.out).mono ?_); (case side1 => repeat (first | exact (Kd.C_below HR0_0.out HB.out) | (with_reducible refine Kd.C_alloc ?_ _) | (with_reducible refine Kd.C_drewN ?_ _) | (with_reducible refine Kd.C_drew ?_))); (case side2 => exact HC0_0.out); rintro e w' ⟨rfl, ⟨nd, rfl⟩⟩; refine ⟨_, rfl, ?_⟩) | (go_at_call 10; (with_reducible refine (emulatorref26_GreatSymbols.calls k _ _ l1 false _ ?side1 ?side2 A11.out).mono ?_); (case side1 => repeat (first | exact (Kd.C_below HR1.out (by repeat (first | (with_reducible first | exact HB.out | apply below_alloc | apply pw_below_drewN | apply below_drew1 | refine below_set ?_ GE319.out) | exact HB.out))) | (with_reducible refine Kd.C_alloc ?_ _) | (with_reducible refine Kd.C_drewN ?_ _) | (with_reducible refine Kd.C_drew ?_))); (case side2 => exact HC1.out); rintro e w' ⟨rfl, ⟨nd, rfl⟩⟩) | (go_at_call 18; (with_reducible refine (emulatorref26_Valid.calls k a0_2 a0_3 a0_4 t322 _ A16.out).mono ?_); rintro e w18 ⟨rfl, hb⟩; have n0_ := Aside0.mk (blk_below (g := gb319) (o := .cells #[.slice A0_0 l0_0.length c0_0, .int .i64 a0_1, .int .i64 a0_2, .string a0_3, .int .i64 a0_4] 26 (0, 0)) (by (with_reducible repeat (first | refine blk_drewN ?_ _ | refine blk_drew ?_ | refine blk_alloc ?_ _)); exact BK319.out) hb); have n1_ := Aside0.mk (below_step (by repeat (first | (with_reducible first | exact HB.out | apply below_alloc | apply pw_below_drewN | apply below_drew1 | refine below_set ?_ GE319.out) | exact HB.out)) hb); clear BK319; clear HB; have BK319 := n0_; have HB := n1_; clear n0_ n1_; (try clear hb); (try clear hb2); (try clear hk); (try clear hi)))
            go_meet
            case rel => exact ⟨_, (!t322), (by first | rfl | (simp; done) | (simp [*]; done)), H', ⟨by first | omega | exact Nat.le_refl _⟩, ⟨by (with_reducible repeat (first | refine blk_drewN ?_ _ | refine blk_drew ?_ | refine blk_alloc ?_ _)); exact BK319.out⟩, ⟨by repeat (first | (with_reducible first | exact HB.out | apply below_alloc | apply pw_below_drewN | apply below_drew1 | refine below_set ?_ GE319.out) | exact HB.out)⟩⟩
  case rest =>
    clear HC4
    try clear c1
    try clear p2
    try clear c6
    try clear c7
    try clear c9
    try clear c9b0
    try clear c9b1
    try clear c12
    try clear c14
    try clear c14b0
    try clear c14b1
    try clear hcz10_0
    try clear hcz10_1
    try clear hcz10_2
    try clear hcz10_3
    try clear hcz10_4
    try clear hcz13_0
    try clear hcz13_1
    try clear hcz13_2
    try clear hcz13_3
    try clear hcz13_4
    try clear hcz15_0
    try clear hcz15_1
    try clear hcz15_2
    try clear hcz15_3
    try clear hcz15_4
    try clear hcz17_0
    try clear hcz17_1
    try clear hcz17_2
    try clear hcz17_3
    try clear hcz17_4
    try clear hcz8_0
    try clear hcz8_1
    try clear hcz8_2
    try clear hcz8_3
    try clear hcz8_4
    try clear hfz10_0
    try clear hfz10_1
    try clear hfz10_2
    try clear hfz10_3
    try clear hfz10_4
    try clear hfz13_0
    try clear hfz13_1
    try clear hfz13_2
    try clear hfz13_3
    try clear hfz13_4
    try clear hfz15_0
    try clear hfz15_1
    try clear hfz15_2
    try clear hfz15_3
    try clear hfz15_4
    try clear hfz17_0
    try clear hfz17_1
    try clear hfz17_2
    try clear hfz17_3
    try clear hfz17_4
    try clear hfz8_0
    try clear hfz8_1
    try clear hfz8_2
    try clear hfz8_3
    try clear hfz8_4
    obtain ⟨kq, x42_3, rfl, HA, HJ3, BK319, HB⟩ := hcut
    cases kq with
    | zero => exact absurd HA.out (by simp [emulatorlaw26_AsmexprMoves.j0])
    | succ kj3 =>
      have H := HA.out
      clear HA
      simp only [emulatorlaw26_AsmexprMoves.j0] at H
      by_cases c19 : x42_3 = true
      · subst c19
        have H1 : (some true) = some r := by rw [if_pos rfl] at H; exact H
        clear H
        have H := H1
        clear H1
        obtain rfl := Option.some.inj H
        go_wp2
        go_ret
        exact ⟨by first | rfl | (simp [errW_none, errW_some] <;> rfl) | (simp [*, errW_none, errW_some] <;> rfl), by repeat (first | (with_reducible first | exact HB.out | apply below_alloc | apply pw_below_drewN | apply below_drew1 | refine below_set ?_ GE319.out) | exact HB.out)⟩
      · replace c19 := Bool.eq_false_iff.mpr c19
        subst c19
        have H1 : (emulatorlaw26_AsmexprMoves.l0 kj3 l1 a2 0 l0_0 a0_1 a0_2 a0_3 a0_4) = some r := by rw [if_neg (show ¬ (false = true) by decide)] at H; exact H
        clear H
        have H := H1
        clear H1
        have H' := Aside0.mk H
        clear H
        go_wp2
        go_loopg [7] kj3 (fun kq v7 w' => ∃ (x7_2 : Int), v7 = .int .i64 x7_2 ∧ Aside0 (emulatorlaw26_AsmexprMoves.l0 kq l1 a2 x7_2 l0_0 a0_1 a0_2 a0_3 a0_4 = some r) ∧ Aside0 (kq ≤ kj3) ∧ Aside0 (w'.heap[gb319]? = some (.cells #[(.slice A0_0 l0_0.length c0_0), .int .i64 a0_1, .int .i64 a0_2, .string a0_3, .int .i64 a0_4] 26 (0, 0))) ∧ Aside0 (Below w.heap.size w w'))
        case atStart => exact ⟨(0), (by first | rfl | (simp; done) | (simp [*]; done)), H', ⟨Nat.le_refl _⟩, ⟨by (with_reducible repeat (first | refine blk_drewN ?_ _ | refine blk_drew ?_ | refine blk_alloc ?_ _)); exact BK319.out⟩, ⟨by repeat (first | (with_reducible first | exact HB.out | apply below_alloc | apply pw_below_drewN | apply below_drew1 | refine below_set ?_ GE319.out) | exact HB.out)⟩⟩
        case round =>
          clear H'
          try clear c1
          try clear p2
          try clear c6
          try clear c7
          try clear c9
          try clear c9b0
          try clear c9b1
          try clear c12
          try clear c14
          try clear c14b0
          try clear c14b1
          try clear c19
          try clear hcz10_0
          try clear hcz10_1
          try clear hcz10_2
          try clear hcz10_3
          try clear hcz10_4
          try clear hcz13_0
          try clear hcz13_1
          try clear hcz13_2
          try clear hcz13_3
          try clear hcz13_4
          try clear hcz15_0
          try clear hcz15_1
          try clear hcz15_2
          try clear hcz15_3
          try clear hcz15_4
          try clear hcz17_0
          try clear hcz17_1
          try clear hcz17_2
          try clear hcz17_3
          try clear hcz17_4
          try clear hcz8_0
          try clear hcz8_1
          try clear hcz8_2
          try clear hcz8_3
          try clear hcz8_4
          try clear hfz10_0
          try clear hfz10_1
          try clear hfz10_2
          try clear hfz10_3
          try clear hfz10_4
          try clear hfz13_0
          try clear hfz13_1
          try clear hfz13_2
          try clear hfz13_3
          try clear hfz13_4
          try clear hfz15_0
          try clear hfz15_1
          try clear hfz15_2
          try clear hfz15_3
          try clear hfz15_4
          try clear hfz17_0
          try clear hfz17_1
          try clear hfz17_2
          try clear hfz17_3
          try clear hfz17_4
          try clear hfz8_0
          try clear hfz8_1
          try clear hfz8_2
          try clear hfz8_3
          try clear hfz8_4
          try clear p2
          obtain ⟨x7_2, rfl, HA, HK2, BK319, HB⟩ := hrel
          cases gk with
          | zero => exact absurd HA.out (by simp [emulatorlaw26_AsmexprMoves.l0])
          | succ k2 =>
            have H := HA.out
            clear HA
            simp only [emulatorlaw26_AsmexprMoves.l0] at H
            by_cases c20 : x7_2 < (l0_0.length : Int)
            · rw [if_pos c20] at H
              have c20b0 : decide (x7_2 < (l0_0.length : Int)) = true := decide_eq_true c20
              clear c20
              by_cases c21 : 0 ≤ x7_2
              · rw [if_pos c21] at H
                have c21b0 : decide (0 ≤ x7_2) = true := decide_eq_true c21
                clear c21
                by_cases c22 : ((rd_T38 l0_0 x7_2).f0) = 4
                · rw [if_pos c22] at H
                  have c22b0 : (((rd_T38 l0_0 x7_2).f0) == 4) = true := beq_iff_eq.mpr c22
                  have c22b1 : (((rd_T38 l0_0 x7_2).f0) != 4) = false := bne_eq_false_iff_eq.mpr c22
                  clear c22
                  by_cases c23 : ((rd_T38 l0_0 x7_2).f1).toList = ([43] : List UInt8)
                  · rw [if_pos c23] at H
                    have c23b0 : (((rd_T38 l0_0 x7_2).f1).toList == ([43] : List UInt8)) = true := beq_iff_eq.mpr c23
                    have c23b1 : (((rd_T38 l0_0 x7_2).f1).toList != ([43] : List UInt8)) = false := bne_eq_false_iff_eq.mpr c23
                    clear c23
                    have H' := Aside0.mk H
                    clear H
                    have hcz24_0 : wr.cell? ⟨gb319, 0, none⟩ = some (.slice A0_0 l0_0.length c0_0) := (blk_cell BK319.out 0).trans rfl
                    have hcz24_1 : wr.cell? ⟨gb319, 1, none⟩ = some (.int .i64 a0_1) := (blk_cell BK319.out 1).trans rfl
                    have hcz24_2 : wr.cell? ⟨gb319, 2, none⟩ = some (.int .i64 a0_2) := (blk_cell BK319.out 2).trans rfl
                    have hcz24_3 : wr.cell? ⟨gb319, 3, none⟩ = some (.string a0_3) := (blk_cell BK319.out 3).trans rfl
                    have hcz24_4 : wr.cell? ⟨gb319, 4, none⟩ = some (.int .i64 a0_4) := (blk_cell BK319.out 4).trans rfl
                    have hfz24_0 := blk_frozen BK319.out 0
                    have hfz24_1 := blk_frozen BK319.out 1
                    have hfz24_2 := blk_frozen BK319.out 2
                    have hfz24_3 := blk_frozen BK319.out 3
                    have hfz24_4 := blk_frozen BK319.out 4
                    have p323 : 0 ≤ (x7_2 : Int) := of_decide_eq_true (by first | (with_reducible assumption) | assumption)
                    have q323 : x7_2 < (l0_0.length : Int) := of_decide_eq_true (by first | (with_reducible assumption) | assumption)
                    obtain ⟨ad323, e323, hx323_0, hx323_1, hx323_2, hx323_3⟩ := at_T38 HR0_0.out x7_2 p323 q323
                    cases e323
                    replace hx323_0 := (HB.out.cell (World.block_lt_of_cell? w _ hx323_0)).trans hx323_0
                    replace hx323_1 := (HB.out.cell (World.block_lt_of_cell? w _ hx323_1)).trans hx323_1
                    replace hx323_2 := (HB.out.cell (World.block_lt_of_cell? w _ hx323_2)).trans hx323_2
                    replace hx323_3 := (HB.out.cell (World.block_lt_of_cell? w _ hx323_3)).trans hx323_3
                    replace p323 := eq_true p323
                    replace q323 := eq_true q323
                    have p324 : 0 ≤ (x7_2 : Int) := of_decide_eq_true (by first | (with_reducible assumption) | assumption)
                    have q324 : x7_2 < (l0_0.length : Int) := of_decide_eq_true (by first | (with_reducible assumption) | assumption)
                    obtain ⟨ad324, e324, hx324_0, hx324_1, hx324_2, hx324_3⟩ := at_T38 HR0_0.out x7_2 p324 q324
                    obtain rfl : ad323 = ad324 := (by injection e324)
                    replace hx324_0 := (HB.out.cell (World.block_lt_of_cell? w _ hx324_0)).trans hx324_0
                    replace hx324_1 := (HB.out.cell (World.block_lt_of_cell? w _ hx324_1)).trans hx324_1
                    replace hx324_2 := (HB.out.cell (World.block_lt_of_cell? w _ hx324_2)).trans hx324_2
                    replace hx324_3 := (HB.out.cell (World.block_lt_of_cell? w _ hx324_3)).trans hx324_3
                    replace p324 := eq_true p324
                    replace q324 := eq_true q324
                    go_wp2
                    go_roundg k2
                    case measure => have := HJ3.out; have := HK2.out; omega
                    case rel => exact ⟨(wrap64 (x7_2 + 1)), (by first | rfl | (simp; done) | (simp [*]; done)), H', ⟨by have := HJ3.out; have := HK2.out; omega⟩, ⟨by (with_reducible repeat (first | refine blk_drewN ?_ _ | refine blk_drew ?_ | refine blk_alloc ?_ _)); exact BK319.out⟩, ⟨by repeat (first | (with_reducible first | exact HB.out | apply below_alloc | apply pw_below_drewN | apply below_drew1 | refine below_set ?_ GE319.out) | exact HB.out)⟩⟩
                  · rw [if_neg c23] at H
                    have c23b0 : (((rd_T38 l0_0 x7_2).f1).toList == ([43] : List UInt8)) = false := beq_eq_false_iff_ne.mpr c23
                    have c23b1 : (((rd_T38 l0_0 x7_2).f1).toList != ([43] : List UInt8)) = true := bne_iff_ne.mpr c23
                    by_cases c25 : ((rd_T38 l0_0 x7_2).f1).toList = ([45] : List UInt8)
                    · rw [if_pos c25] at H
                      have c25b0 : (((rd_T38 l0_0 x7_2).f1).toList == ([45] : List UInt8)) = true := beq_iff_eq.mpr c25
                      have c25b1 : (((rd_T38 l0_0 x7_2).f1).toList != ([45] : List UInt8)) = false := bne_eq_false_iff_eq.mpr c25
                      clear c25
                      have H' := Aside0.mk H
                      clear H
                      have hcz26_0 : wr.cell? ⟨gb319, 0, none⟩ = some (.slice A0_0 l0_0.length c0_0) := (blk_cell BK319.out 0).trans rfl
                      have hcz26_1 : wr.cell? ⟨gb319, 1, none⟩ = some (.int .i64 a0_1) := (blk_cell BK319.out 1).trans rfl
                      have hcz26_2 : wr.cell? ⟨gb319, 2, none⟩ = some (.int .i64 a0_2) := (blk_cell BK319.out 2).trans rfl
                      have hcz26_3 : wr.cell? ⟨gb319, 3, none⟩ = some (.string a0_3) := (blk_cell BK319.out 3).trans rfl
                      have hcz26_4 : wr.cell? ⟨gb319, 4, none⟩ = some (.int .i64 a0_4) := (blk_cell BK319.out 4).trans rfl
                      have hfz26_0 := blk_frozen BK319.out 0
                      have hfz26_1 := blk_frozen BK319.out 1
                      have hfz26_2 := blk_frozen BK319.out 2
                      have hfz26_3 := blk_frozen BK319.out 3
                      have hfz26_4 := blk_frozen BK319.out 4
                      have p323 : 0 ≤ (x7_2 : Int) := of_decide_eq_true (by first | (with_reducible assumption) | assumption)
                      have q323 : x7_2 < (l0_0.length : Int) := of_decide_eq_true (by first | (with_reducible assumption) | assumption)
                      obtain ⟨ad323, e323, hx323_0, hx323_1, hx323_2, hx323_3⟩ := at_T38 HR0_0.out x7_2 p323 q323
                      cases e323
                      replace hx323_0 := (HB.out.cell (World.block_lt_of_cell? w _ hx323_0)).trans hx323_0
                      replace hx323_1 := (HB.out.cell (World.block_lt_of_cell? w _ hx323_1)).trans hx323_1
                      replace hx323_2 := (HB.out.cell (World.block_lt_of_cell? w _ hx323_2)).trans hx323_2
                      replace hx323_3 := (HB.out.cell (World.block_lt_of_cell? w _ hx323_3)).trans hx323_3
                      replace p323 := eq_true p323
                      replace q323 := eq_true q323
                      have p324 : 0 ≤ (x7_2 : Int) := of_decide_eq_true (by first | (with_reducible assumption) | assumption)
                      have q324 : x7_2 < (l0_0.length : Int) := of_decide_eq_true (by first | (with_reducible assumption) | assumption)
                      obtain ⟨ad324, e324, hx324_0, hx324_1, hx324_2, hx324_3⟩ := at_T38 HR0_0.out x7_2 p324 q324
                      obtain rfl : ad323 = ad324 := (by injection e324)
                      replace hx324_0 := (HB.out.cell (World.block_lt_of_cell? w _ hx324_0)).trans hx324_0
                      replace hx324_1 := (HB.out.cell (World.block_lt_of_cell? w _ hx324_1)).trans hx324_1
                      replace hx324_2 := (HB.out.cell (World.block_lt_of_cell? w _ hx324_2)).trans hx324_2
                      replace hx324_3 := (HB.out.cell (World.block_lt_of_cell? w _ hx324_3)).trans hx324_3
                      replace p324 := eq_true p324
                      replace q324 := eq_true q324
                      have p325 : 0 ≤ (x7_2 : Int) := of_decide_eq_true (by first | (with_reducible assumption) | assumption)
                      have q325 : x7_2 < (l0_0.length : Int) := of_decide_eq_true (by first | (with_reducible assumption) | assumption)
                      obtain ⟨ad325, e325, hx325_0, hx325_1, hx325_2, hx325_3⟩ := at_T38 HR0_0.out x7_2 p325 q325
                      obtain rfl : ad323 = ad325 := (by injection e325)
                      replace hx325_0 := (HB.out.cell (World.block_lt_of_cell? w _ hx325_0)).trans hx325_0
                      replace hx325_1 := (HB.out.cell (World.block_lt_of_cell? w _ hx325_1)).trans hx325_1
                      replace hx325_2 := (HB.out.cell (World.block_lt_of_cell? w _ hx325_2)).trans hx325_2
                      replace hx325_3 := (HB.out.cell (World.block_lt_of_cell? w _ hx325_3)).trans hx325_3
                      replace p325 := eq_true p325
                      replace q325 := eq_true q325
                      go_wp2
                      go_roundg k2
                      case measure => have := HJ3.out; have := HK2.out; omega
                      case rel => exact ⟨(wrap64 (x7_2 + 1)), (by first | rfl | (simp; done) | (simp [*]; done)), H', ⟨by have := HJ3.out; have := HK2.out; omega⟩, ⟨by (with_reducible repeat (first | refine blk_drewN ?_ _ | refine blk_drew ?_ | refine blk_alloc ?_ _)); exact BK319.out⟩, ⟨by repeat (first | (with_reducible first | exact HB.out | apply below_alloc | apply pw_below_drewN | apply below_drew1 | refine below_set ?_ GE319.out) | exact HB.out)⟩⟩
                    · rw [if_neg c25] at H
                      have c25b0 : (((rd_T38 l0_0 x7_2).f1).toList == ([45] : List UInt8)) = false := beq_eq_false_iff_ne.mpr c25
                      have c25b1 : (((rd_T38 l0_0 x7_2).f1).toList != ([45] : List UInt8)) = true := bne_iff_ne.mpr c25
                      obtain rfl := Option.some.inj H
                      have hcz27_0 : wr.cell? ⟨gb319, 0, none⟩ = some (.slice A0_0 l0_0.length c0_0) := (blk_cell BK319.out 0).trans rfl
                      have hcz27_1 : wr.cell? ⟨gb319, 1, none⟩ = some (.int .i64 a0_1) := (blk_cell BK319.out 1).trans rfl
                      have hcz27_2 : wr.cell? ⟨gb319, 2, none⟩ = some (.int .i64 a0_2) := (blk_cell BK319.out 2).trans rfl
                      have hcz27_3 : wr.cell? ⟨gb319, 3, none⟩ = some (.string a0_3) := (blk_cell BK319.out 3).trans rfl
                      have hcz27_4 : wr.cell? ⟨gb319, 4, none⟩ = some (.int .i64 a0_4) := (blk_cell BK319.out 4).trans rfl
                      have hfz27_0 := blk_frozen BK319.out 0
                      have hfz27_1 := blk_frozen BK319.out 1
                      have hfz27_2 := blk_frozen BK319.out 2
                      have hfz27_3 := blk_frozen BK319.out 3
                      have hfz27_4 := blk_frozen BK319.out 4
                      have p323 : 0 ≤ (x7_2 : Int) := of_decide_eq_true (by first | (with_reducible assumption) | assumption)
                      have q323 : x7_2 < (l0_0.length : Int) := of_decide_eq_true (by first | (with_reducible assumption) | assumption)
                      obtain ⟨ad323, e323, hx323_0, hx323_1, hx323_2, hx323_3⟩ := at_T38 HR0_0.out x7_2 p323 q323
                      cases e323
                      replace hx323_0 := (HB.out.cell (World.block_lt_of_cell? w _ hx323_0)).trans hx323_0
                      replace hx323_1 := (HB.out.cell (World.block_lt_of_cell? w _ hx323_1)).trans hx323_1
                      replace hx323_2 := (HB.out.cell (World.block_lt_of_cell? w _ hx323_2)).trans hx323_2
                      replace hx323_3 := (HB.out.cell (World.block_lt_of_cell? w _ hx323_3)).trans hx323_3
                      replace p323 := eq_true p323
                      replace q323 := eq_true q323
                      have p324 : 0 ≤ (x7_2 : Int) := of_decide_eq_true (by first | (with_reducible assumption) | assumption)
                      have q324 : x7_2 < (l0_0.length : Int) := of_decide_eq_true (by first | (with_reducible assumption) | assumption)
                      obtain ⟨ad324, e324, hx324_0, hx324_1, hx324_2, hx324_3⟩ := at_T38 HR0_0.out x7_2 p324 q324
                      obtain rfl : ad323 = ad324 := (by injection e324)
                      replace hx324_0 := (HB.out.cell (World.block_lt_of_cell? w _ hx324_0)).trans hx324_0
                      replace hx324_1 := (HB.out.cell (World.block_lt_of_cell? w _ hx324_1)).trans hx324_1
                      replace hx324_2 := (HB.out.cell (World.block_lt_of_cell? w _ hx324_2)).trans hx324_2
                      replace hx324_3 := (HB.out.cell (World.block_lt_of_cell? w _ hx324_3)).trans hx324_3
                      replace p324 := eq_true p324
                      replace q324 := eq_true q324
                      have p325 : 0 ≤ (x7_2 : Int) := of_decide_eq_true (by first | (with_reducible assumption) | assumption)
                      have q325 : x7_2 < (l0_0.length : Int) := of_decide_eq_true (by first | (with_reducible assumption) | assumption)
                      obtain ⟨ad325, e325, hx325_0, hx325_1, hx325_2, hx325_3⟩ := at_T38 HR0_0.out x7_2 p325 q325
                      obtain rfl : ad323 = ad325 := (by injection e325)
                      replace hx325_0 := (HB.out.cell (World.block_lt_of_cell? w _ hx325_0)).trans hx325_0
                      replace hx325_1 := (HB.out.cell (World.block_lt_of_cell? w _ hx325_1)).trans hx325_1
                      replace hx325_2 := (HB.out.cell (World.block_lt_of_cell? w _ hx325_2)).trans hx325_2
                      replace hx325_3 := (HB.out.cell (World.block_lt_of_cell? w _ hx325_3)).trans hx325_3
                      replace p325 := eq_true p325
                      replace q325 := eq_true q325
                      go_wp2
                      go_ret
                      exact ⟨by first | rfl | (simp [errW_none, errW_some] <;> rfl) | (simp [*, errW_none, errW_some] <;> rfl), by repeat (first | (with_reducible first | exact HB.out | apply below_alloc | apply pw_below_drewN | apply below_drew1 | refine below_set ?_ GE319.out) | exact HB.out)⟩
                · rw [if_neg c22] at H
                  have c22b0 : (((rd_T38 l0_0 x7_2).f0) == 4) = false := beq_eq_false_iff_ne.mpr c22
                  have c22b1 : (((rd_T38 l0_0 x7_2).f0) != 4) = true := bne_iff_ne.mpr c22
                  have H' := Aside0.mk H
                  clear H
                  have hcz28_0 : wr.cell? ⟨gb319, 0, none⟩ = some (.slice A0_0 l0_0.length c0_0) := (blk_cell BK319.out 0).trans rfl
                  have hcz28_1 : wr.cell? ⟨gb319, 1, none⟩ = some (.int .i64 a0_1) := (blk_cell BK319.out 1).trans rfl
                  have hcz28_2 : wr.cell? ⟨gb319, 2, none⟩ = some (.int .i64 a0_2) := (blk_cell BK319.out 2).trans rfl
                  have hcz28_3 : wr.cell? ⟨gb319, 3, none⟩ = some (.string a0_3) := (blk_cell BK319.out 3).trans rfl
                  have hcz28_4 : wr.cell? ⟨gb319, 4, none⟩ = some (.int .i64 a0_4) := (blk_cell BK319.out 4).trans rfl
                  have hfz28_0 := blk_frozen BK319.out 0
                  have hfz28_1 := blk_frozen BK319.out 1
                  have hfz28_2 := blk_frozen BK319.out 2
                  have hfz28_3 := blk_frozen BK319.out 3
                  have hfz28_4 := blk_frozen BK319.out 4
                  have p323 : 0 ≤ (x7_2 : Int) := of_decide_eq_true (by first | (with_reducible assumption) | assumption)
                  have q323 : x7_2 < (l0_0.length : Int) := of_decide_eq_true (by first | (with_reducible assumption) | assumption)
                  obtain ⟨ad323, e323, hx323_0, hx323_1, hx323_2, hx323_3⟩ := at_T38 HR0_0.out x7_2 p323 q323
                  cases e323
                  replace hx323_0 := (HB.out.cell (World.block_lt_of_cell? w _ hx323_0)).trans hx323_0
                  replace hx323_1 := (HB.out.cell (World.block_lt_of_cell? w _ hx323_1)).trans hx323_1
                  replace hx323_2 := (HB.out.cell (World.block_lt_of_cell? w _ hx323_2)).trans hx323_2
                  replace hx323_3 := (HB.out.cell (World.block_lt_of_cell? w _ hx323_3)).trans hx323_3
                  replace p323 := eq_true p323
                  replace q323 := eq_true q323
                  go_wp2
                  go_roundg k2
                  case measure => have := HJ3.out; have := HK2.out; omega
                  case rel => exact ⟨(wrap64 (x7_2 + 1)), (by first | rfl | (simp; done) | (simp [*]; done)), H', ⟨by have := HJ3.out; have := HK2.out; omega⟩, ⟨by (with_reducible repeat (first | refine blk_drewN ?_ _ | refine blk_drew ?_ | refine blk_alloc ?_ _)); exact BK319.out⟩, ⟨by repeat (first | (with_reducible first | exact HB.out | apply below_alloc | apply pw_below_drewN | apply below_drew1 | refine below_set ?_ GE319.out) | exact HB.out)⟩⟩
              · rw [if_neg c21] at H
                exact absurd H (by simp)
            · rw [if_neg c20] at H
              have c20b0 : decide (x7_2 < (l0_0.length : Int)) = false := decide_eq_false c20
              clear c20
              replace H := Option.bind_eq_some_iff.mp H
              obtain ⟨⟨t326, t327, t328, t329, t330⟩, A290, H⟩ := H
              replace H : ((some (([] : List (S44)) : List (S44))).bind fun y332 => (if y332.length + l1.length < 3518437208883 then (emulatorlaw26_AsmexprMoves.l1 k2 a2 t329 t330 (y332 ++ l1) 0 l0_0 a0_1 a0_2 a0_3 a0_4 t326 t327 t328) else (none))) = some r := H
              have A29 := Aside0.mk A290
              clear A290
              obtain ⟨y332, hy332⟩ : ∃ y_ : List (S44), y_ = (([] : List (S44))) := ⟨_, rfl⟩
              replace H : (if y332.length + l1.length < 3518437208883 then (emulatorlaw26_AsmexprMoves.l1 k2 a2 t329 t330 (y332 ++ l1) 0 l0_0 a0_1 a0_2 a0_3 a0_4 t326 t327 t328) else (none)) = some r := by first | (rw [hy332]; with_reducible exact H) | (have H2_ := (Option.bind_some _ _).symm.trans H; rw [hy332]; with_reducible exact H2_) | (have H2_ := (Option.bind_some _ _).symm.trans H; with_reducible exact H2_) | with_reducible exact H | (rw [hy332]; exact H) | exact H
              have Ny332 := Aside0.mk hy332
              clear hy332
              by_cases c30 : y332.length + l1.length < 3518437208883
              · rw [if_pos c30] at H
                have LMc30 := Aside0.mk c30
                clear c30
                obtain ⟨y335, hy335⟩ : ∃ y_ : List (S44), y_ = (y332 ++ l1) := ⟨_, rfl⟩
                replace H : (emulatorlaw26_AsmexprMoves.l1 k2 a2 t329 t330 y335 0 l0_0 a0_1 a0_2 a0_3 a0_4 t326 t327 t328) = some r := by first | (rw [hy335]; with_reducible exact H) | (have H2_ := (Option.bind_some _ _).symm.trans H; rw [hy335]; with_reducible exact H2_) | (have H2_ := (Option.bind_some _ _).symm.trans H; with_reducible exact H2_) | with_reducible exact H | (rw [hy335]; exact H) | exact H
                have Ny335 := Aside0.mk hy335
                clear hy335
                have H' := Aside0.mk H
                clear H
                have hcz31_0 : wr.cell? ⟨gb319, 0, none⟩ = some (.slice A0_0 l0_0.length c0_0) := (blk_cell BK319.out 0).trans rfl
                have hcz31_1 : wr.cell? ⟨gb319, 1, none⟩ = some (.int .i64 a0_1) := (blk_cell BK319.out 1).trans rfl
                have hcz31_2 : wr.cell? ⟨gb319, 2, none⟩ = some (.int .i64 a0_2) := (blk_cell BK319.out 2).trans rfl
                have hcz31_3 : wr.cell? ⟨gb319, 3, none⟩ = some (.string a0_3) := (blk_cell BK319.out 3).trans rfl
                have hcz31_4 : wr.cell? ⟨gb319, 4, none⟩ = some (.int .i64 a0_4) := (blk_cell BK319.out 4).trans rfl
                have hfz31_0 := blk_frozen BK319.out 0
                have hfz31_1 := blk_frozen BK319.out 1
                have hfz31_2 := blk_frozen BK319.out 2
                have hfz31_3 := blk_frozen BK319.out 3
                have hfz31_4 := blk_frozen BK319.out 4
                go_wp2_with (first | ((with_reducible refine gate_callee (f := 11) rfl ?_); refine goesL_ (some 83) rfl rfl Try.func11 (by kernel_rfl) rfl #[.slice A0_0 l0_0.length c0_0, .int .i64 a0_1, .slice A1 l1.length c1, .agg #[.int .i64 a0_2, .string a0_3, .int .i64 a0_4]] rfl (by (try simp only [List.map_toArray, List.map_cons, List.map_nil]); first | done | rfl | (simp only [List.length_drop, List.length_take]; rfl)) ?_; (with_reducible refine (asmexpr_Eval.calls _ _ l0_0 a0_1 _ _ l1 a0_2 a0_3 a0_4 t326 t327 t328 t329 t330 _ ?side1 ?side2 ?side3 ?side4 A29.out).mono ?_); (case side1 => repeat (first | exact (Kd.C_below HR0_0.out HB.out) | (with_reducible refine Kd.C_alloc ?_ _) | (with_reducible refine Kd.C_drewN ?_ _) | (with_reducible refine Kd.C_drew ?_))); (case side2 => exact HC0_0.out); (case side3 => repeat (first | exact (Kd.C_below HR1.out HB.out) | (with_reducible refine Kd.C_alloc ?_ _) | (with_reducible refine Kd.C_drewN ?_ _) | (with_reducible refine Kd.C_drew ?_))); (case side4 => exact HC1.out); rintro e w32 ⟨rfl, hb⟩; refine ⟨_, rfl, ?_⟩; have n0_ := Aside0.mk (blk_below (g := gb319) (o := .cells #[.slice A0_0 l0_0.length c0_0, .int .i64 a0_1, .int .i64 a0_2, .string a0_3, .int .i64 a0_4] 26 (0, 0)) (by (with_reducible repeat (first | refine blk_drewN ?_ _ | refine blk_drew ?_ | refine blk_alloc ?_ _)); exact BK319.out) hb); have n1_ := Aside0.mk (below_step (by repeat (first | (with_reducible first | exact HB.out | apply below_alloc | apply pw_below_drewN | apply below_drew1 | refine below_set ?_ GE319.out) | exact HB.out)) hb); clear BK319; clear HB; have BK319 := n0_; have HB := n1_; clear n0_ n1_; (try clear hb); (try clear hb2); (try clear hk); (try clear hi)) | ((with_reducible refine gate_dst (N := 8) rfl ?_); (try (refine gate_guard (by rfl) ?_; dsimp only)); refine box_event ?hg (N := 8) ?hd (cs := #[.int .i64 0, .string (⟨#[]⟩ : ByteArray), .int .i64 0]) (t := 24) ?hr ?_; (case hd => rfl); (case hg => rfl); (case hr => first | (go_simp; done) | (go_simp; rfl)); intro gb331 hg w33 hbox hb; have n0_ := Aside0.mk (blk_below (g := gb319) (o := .cells #[.slice A0_0 l0_0.length c0_0, .int .i64 a0_1, .int .i64 a0_2, .string a0_3, .int .i64 a0_4] 26 (0, 0)) (by (with_reducible repeat (first | refine blk_drewN ?_ _ | refine blk_drew ?_ | refine blk_alloc ?_ _)); exact BK319.out) hb); have n1_ := Aside0.mk (below_step (by repeat (first | (with_reducible first | exact HB.out | apply below_alloc | apply pw_below_drewN | apply below_drew1 | refine below_set ?_ GE319.out) | exact HB.out)) hb); have n2_ := Aside0.mk (hbox); have n3_ := Aside0.mk ((by rw [hg]; exact (below_size (by repeat (first | (with_reducible first | exact HB.out | apply below_alloc | apply pw_below_drewN | apply below_drew1 | refine below_set ?_ GE319.out) | exact HB.out))) : w.heap.size ≤ gb331)); have n4_ := Aside0.mk ((by rw [hg]; exact (below_size (by repeat (first | (with_reducible first | exact HB.out | apply below_alloc | apply pw_below_drewN | apply below_drew1 | refine below_set ?_ GE319.out) | exact HB.out))) : w.heap.size ≤ gb331)); have n5_ := Aside0.mk ((by rw [hg]; exact Nat.ne_of_lt (blk_lt (g := gb319) (o := .cells #[.slice A0_0 l0_0.length c0_0, .int .i64 a0_1, .int .i64 a0_2, .string a0_3, .int .i64 a0_4] 26 (0, 0)) (by (with_reducible repeat (first | refine blk_drewN ?_ _ | refine blk_drew ?_ | refine blk_alloc ?_ _)); exact BK319.out)) : gb319 ≠ gb331)); have n6_ := Aside0.mk ((by rw [hg]; exact Nat.ne_of_gt (blk_lt (g := gb319) (o := .cells #[.slice A0_0 l0_0.length c0_0, .int .i64 a0_1, .int .i64 a0_2, .string a0_3, .int .i64 a0_4] 26 (0, 0)) (by (with_reducible repeat (first | refine blk_drewN ?_ _ | refine blk_drew ?_ | refine blk_alloc ?_ _)); exact BK319.out)) : gb331 ≠ gb319)); clear BK319; clear HB; have BK319 := n0_; have HB := n1_; have BK331 := n2_; have GW331 := n3_; have GE331 := n4_; have NB319_331 := n5_; have NB331_319 := n6_; clear n0_ n1_ n2_ n3_ n4_ n5_ n6_; clear hb hbox hg; have hnb34 := NB331_319.out; have hnc34 := NB319_331.out; have hcz35_0 : w33.cell? ⟨gb331, 0, none⟩ = some (.int .i64 0) := (blk_cell BK331.out 0).trans rfl; have hcz35_1 : w33.cell? ⟨gb331, 1, none⟩ = some (.string (⟨#[]⟩ : ByteArray)) := (blk_cell BK331.out 1).trans rfl; have hcz35_2 : w33.cell? ⟨gb331, 2, none⟩ = some (.int .i64 0) := (blk_cell BK331.out 2).trans rfl; have hfz35_0 := blk_frozen BK331.out 0; have hfz35_1 := blk_frozen BK331.out 1; have hfz35_2 := blk_frozen BK331.out 2) | ((with_reducible refine gate_dst (N := 87) rfl ?_); (try (refine gate_guard (by rfl) ?_; dsimp only)); refine Kd.R_lit k44 _ 44 ?hg (N := 87) ?hd (xs := ([] : List (S44))) (inner := []) (ok := fun _ => True) (okp := fun _ => True) ?hr ?hp (fun _ hk => hk) trivial (Below.refl _ _) (Nat.le_refl _) (by simp) ?_; (case hd => rfl); (case hg => rfl); (case hr => first | (go_simp; done) | (go_simp; rfl)); (case hp => exact (Reps.none _ _)); intro v333 w36 ho37 hb hg_ hnew_; clear hg_ hnew_; (first | rw [← Ny332.out] at ho37 | (simp only [Int.reduceToNat] at ho37; rw [← Ny332.out] at ho37)); have n0_ := Aside0.mk (Kd.R_lower ho37 (below_size (by repeat (first | (with_reducible first | exact HB.out | apply below_alloc | apply pw_below_drewN | apply below_drew1 | refine below_set ?_ GE319.out | refine below_set ?_ GE331.out) | exact HB.out)))); have n1_ := Aside0.mk (blk_below (g := gb319) (o := .cells #[.slice A0_0 l0_0.length c0_0, .int .i64 a0_1, .int .i64 a0_2, .string a0_3, .int .i64 a0_4] 26 (0, 0)) (by (with_reducible repeat (first | refine blk_drewN ?_ _ | refine blk_drew ?_ | refine blk_alloc ?_ _)); refine blk_far ?_ NB319_331.out _; (with_reducible repeat (first | refine blk_drewN ?_ _ | refine blk_drew ?_ | refine blk_alloc ?_ _)); refine blk_far ?_ NB319_331.out _; (with_reducible repeat (first | refine blk_drewN ?_ _ | refine blk_drew ?_ | refine blk_alloc ?_ _)); refine blk_far ?_ NB319_331.out _; (with_reducible repeat (first | refine blk_drewN ?_ _ | refine blk_drew ?_ | refine blk_alloc ?_ _)); exact BK319.out) hb); have n2_ := Aside0.mk (blk_below (g := gb331) (o := .cells #[.int .i64 t326, .string t327, .int .i64 t328] 24 (0, 0)) (by (with_reducible repeat (first | refine blk_drewN ?_ _ | refine blk_drew ?_ | refine blk_alloc ?_ _)); refine blk_put (cs := #[.int .i64 t326, .string t327, .int .i64 0]) ?_ 2 _ rfl; (with_reducible repeat (first | refine blk_drewN ?_ _ | refine blk_drew ?_ | refine blk_alloc ?_ _)); refine blk_put (cs := #[.int .i64 t326, .string (⟨#[]⟩ : ByteArray), .int .i64 0]) ?_ 1 _ rfl; (with_reducible repeat (first | refine blk_drewN ?_ _ | refine blk_drew ?_ | refine blk_alloc ?_ _)); refine blk_put (cs := #[.int .i64 0, .string (⟨#[]⟩ : ByteArray), .int .i64 0]) ?_ 0 _ rfl; (with_reducible repeat (first | refine blk_drewN ?_ _ | refine blk_drew ?_ | refine blk_alloc ?_ _)); exact BK331.out) hb); have n3_ := Aside0.mk (below_step (by repeat (first | (with_reducible first | exact HB.out | apply below_alloc | apply pw_below_drewN | apply below_drew1 | refine below_set ?_ GE319.out | refine below_set ?_ GE331.out) | exact HB.out)) hb); clear BK319; clear BK331; clear HB; have HO334 := n0_; have BK319 := n1_; have BK331 := n2_; have HB := n3_; clear n0_ n1_ n2_ n3_; clear hb ho37) | ((with_reducible refine gate_builtin (b := .append) (xs := #[.tmp 87, .tmp 88]) rfl ?_); (try (refine gate_guard (by rfl) ?_; dsimp only)); at_builtin; refine Kd.R_append_rows k44 (w0 := w) w.heap.size rfl (.tmp 87) (.tmp 88) 27 44 (.agg #[(.string ⟨#[]⟩), (.int .i64 0), (.int .i64 0), (.bool false)]) 40 rfl Try.underlying27 info44 rfl (by decide) (by omega) v333 y332 l1 _ _ _ (fun _ => True) (fun _ => False) rfl rfl ?aO ?aR (fun _ _ h => h) (fun _ h => h.elim) ?aF ?aB ?aS ?aL ?_; (case aR => repeat (first | exact (Kd.C_below HR1.out HB.out) | (with_reducible refine Kd.C_alloc ?_ _) | (with_reducible refine Kd.C_drewN ?_ _) | (with_reducible refine Kd.C_drew ?_))); (case aB => exact (by repeat (first | (with_reducible first | exact HB.out | apply below_alloc | apply pw_below_drewN | apply below_drew1 | refine below_set ?_ GE319.out | refine below_set ?_ GE331.out) | exact HB.out))); (case aF => exact (fun _ _ => trivial)); (case aO => exact (by (with_reducible repeat (first | apply Kd.R_alloc | apply Kd.R_drewN | apply Kd.R_drew)); exact HO334.out)); (case aS => exact (below_size (by repeat (first | (with_reducible first | exact HB.out | apply below_alloc | apply pw_below_drewN | apply below_drew1 | refine below_set ?_ GE319.out | refine below_set ?_ GE331.out) | exact HB.out)))); (case aL => have := LMc30.out; omega); intro v336 w38 ho hb hg hat; rw [← Ny335.out] at ho; have n0_ := Aside0.mk (blk_grown (g := gb319) (o := .cells #[.slice A0_0 l0_0.length c0_0, .int .i64 a0_1, .int .i64 a0_2, .string a0_3, .int .i64 a0_4] 26 (0, 0)) (by (with_reducible repeat (first | refine blk_drewN ?_ _ | refine blk_drew ?_ | refine blk_alloc ?_ _)); exact BK319.out) hg (Kd.R_ne HO334.out BK319.out (by decide))); have n1_ := Aside0.mk (blk_grown (g := gb331) (o := .cells #[.int .i64 t326, .string t327, .int .i64 t328] 24 (0, 0)) (by (with_reducible repeat (first | refine blk_drewN ?_ _ | refine blk_drew ?_ | refine blk_alloc ?_ _)); exact BK331.out) hg (Kd.R_ne HO334.out BK331.out (by decide))); have n2_ := Aside0.mk (hb); have n3_ := Aside0.mk (ho); clear BK319; clear BK331; clear HB; clear HO334; have BK319 := n0_; have BK331 := n1_; have HB := n2_; have HO337 := n3_; clear n0_ n1_ n2_ n3_; clear ho hb hg hat))
                go_loopg [12] k2 (fun kq v12 w' => ∃ (x11_3 : List (S44)) (x12_3 : Int), v12 = .int .i64 x12_3 ∧ Aside0 (emulatorlaw26_AsmexprMoves.l1 kq a2 t329 t330 x11_3 x12_3 l0_0 a0_1 a0_2 a0_3 a0_4 t326 t327 t328 = some r) ∧ Aside0 (kq ≤ k2) ∧ Aside0 (Kd.R k44 44 w' w.heap.size (fun _ => True) v336 x11_3) ∧ Aside0 (w'.heap[gb319]? = some (.cells #[(.slice A0_0 l0_0.length c0_0), .int .i64 a0_1, .int .i64 a0_2, .string a0_3, .int .i64 a0_4] 26 (0, 0))) ∧ Aside0 (w'.heap[gb331]? = some (.cells #[.int .i64 t326, .string t327, .int .i64 t328] 24 (0, 0))) ∧ Aside0 (Below w.heap.size w w'))
                case atStart => exact ⟨(y335), (0), (by first | rfl | (simp; done) | (simp [*]; done)), H', ⟨Nat.le_refl _⟩, ⟨by (with_reducible repeat (first | apply Kd.R_alloc | apply Kd.R_drewN | apply Kd.R_drew)); exact HO337.out⟩, ⟨by (with_reducible repeat (first | refine blk_drewN ?_ _ | refine blk_drew ?_ | refine blk_alloc ?_ _)); exact BK319.out⟩, ⟨by (with_reducible repeat (first | refine blk_drewN ?_ _ | refine blk_drew ?_ | refine blk_alloc ?_ _)); exact BK331.out⟩, ⟨by repeat (first | (with_reducible first | exact HB.out | apply below_alloc | apply pw_below_drewN | apply below_drew1 | refine below_set ?_ GE319.out | refine below_set ?_ GE331.out) | exact HB.out)⟩⟩
                case round =>
                  clear H'
                  try clear c1
                  try clear c2
                  try clear p2
                  try clear c3
                  try clear p3
                  try clear q3
                  try clear hx3
                  try clear c6
                  try clear p6
                  try clear c7
                  try clear c9
                  try clear c9b0
                  try clear c9b1
                  try clear c11
                  try clear c12
                  try clear c14
                  try clear c14b0
                  try clear c14b1
                  try clear c19
                  try clear c20
                  try clear c20b0
                  try clear c21
                  try clear c21b0
                  try clear c22
                  try clear c22b0
                  try clear c22b1
                  try clear c23
                  try clear c23b0
                  try clear c23b1
                  try clear c25
                  try clear c25b0
                  try clear c25b1
                  try clear c30
                  try clear p32
                  try clear q32
                  try clear hx32
                  try clear c34
                  try clear hcz10_0
                  try clear hcz10_1
                  try clear hcz10_2
                  try clear hcz10_3
                  try clear hcz10_4
                  try clear hcz13_0
                  try clear hcz13_1
                  try clear hcz13_2
                  try clear hcz13_3
                  try clear hcz13_4
                  try clear hcz15_0
                  try clear hcz15_1
                  try clear hcz15_2
                  try clear hcz15_3
                  try clear hcz15_4
                  try clear hcz17_0
                  try clear hcz17_1
                  try clear hcz17_2
                  try clear hcz17_3
                  try clear hcz17_4
                  try clear hcz24_0
                  try clear hcz24_1
                  try clear hcz24_2
                  try clear hcz24_3
                  try clear hcz24_4
                  try clear hcz26_0
                  try clear hcz26_1
                  try clear hcz26_2
                  try clear hcz26_3
                  try clear hcz26_4
                  try clear hcz27_0
                  try clear hcz27_1
                  try clear hcz27_2
                  try clear hcz27_3
                  try clear hcz27_4
                  try clear hcz28_0
                  try clear hcz28_1
                  try clear hcz28_2
                  try clear hcz28_3
                  try clear hcz28_4
                  try clear hcz31_0
                  try clear hcz31_1
                  try clear hcz31_2
                  try clear hcz31_3
                  try clear hcz31_4
                  try clear hcz35_0
                  try clear hcz35_1
                  try clear hcz35_2
                  try clear hcz8_0
                  try clear hcz8_1
                  try clear hcz8_2
                  try clear hcz8_3
                  try clear hcz8_4
                  try clear hfz10_0
                  try clear hfz10_1
                  try clear hfz10_2
                  try clear hfz10_3
                  try clear hfz10_4
                  try clear hfz13_0
                  try clear hfz13_1
                  try clear hfz13_2
                  try clear hfz13_3
                  try clear hfz13_4
                  try clear hfz15_0
                  try clear hfz15_1
                  try clear hfz15_2
                  try clear hfz15_3
                  try clear hfz15_4
                  try clear hfz17_0
                  try clear hfz17_1
                  try clear hfz17_2
                  try clear hfz17_3
                  try clear hfz17_4
                  try clear hfz24_0
                  try clear hfz24_1
                  try clear hfz24_2
                  try clear hfz24_3
                  try clear hfz24_4
                  try clear hfz26_0
                  try clear hfz26_1
                  try clear hfz26_2
                  try clear hfz26_3
                  try clear hfz26_4
                  try clear hfz27_0
                  try clear hfz27_1
                  try clear hfz27_2
                  try clear hfz27_3
                  try clear hfz27_4
                  try clear hfz28_0
                  try clear hfz28_1
                  try clear hfz28_2
                  try clear hfz28_3
                  try clear hfz28_4
                  try clear hfz31_0
                  try clear hfz31_1
                  try clear hfz31_2
                  try clear hfz31_3
                  try clear hfz31_4
                  try clear hfz35_0
                  try clear hfz35_1
                  try clear hfz35_2
                  try clear hfz8_0
                  try clear hfz8_1
                  try clear hfz8_2
                  try clear hfz8_3
                  try clear hfz8_4
                  try clear hx323_0
                  try clear hx323_1
                  try clear hx323_2
                  try clear hx323_3
                  try clear hx324_0
                  try clear hx324_1
                  try clear hx324_2
                  try clear hx324_3
                  try clear hx325_0
                  try clear hx325_1
                  try clear hx325_2
                  try clear hx325_3
                  try clear p2
                  try clear p323
                  try clear p324
                  try clear p325
                  try clear q323
                  try clear q324
                  try clear q325
                  obtain ⟨x11_3, x12_3, rfl, HA, HK3, HO_11, BK319, BK331, HB⟩ := hrel
                  cases gk with
                  | zero => exact absurd HA.out (by simp [emulatorlaw26_AsmexprMoves.l1])
                  | succ k3 =>
                    have H := HA.out
                    clear HA
                    simp only [emulatorlaw26_AsmexprMoves.l1] at H
                    by_cases c39 : x12_3 < (x11_3.length : Int)
                    · rw [if_pos c39] at H
                      have c39b0 : decide (x12_3 < (x11_3.length : Int)) = true := decide_eq_true c39
                      clear c39
                      by_cases c40 : 0 ≤ x12_3
                      · rw [if_pos c40] at H
                        have c40b0 : decide (0 ≤ x12_3) = true := decide_eq_true c40
                        clear c40
                        by_cases c41 : ((rd_T44 x11_3 x12_3).f1) = 1
                        · rw [if_pos c41] at H
                          have c41b0 : (((rd_T44 x11_3 x12_3).f1) == 1) = true := beq_iff_eq.mpr c41
                          have c41b1 : (((rd_T44 x11_3 x12_3).f1) != 1) = false := bne_eq_false_iff_eq.mpr c41
                          clear c41
                          obtain ⟨y340, hy340⟩ : ∃ y_ : List (S44), y_ = (x11_3.set (x12_3 : Int).toNat (⟨(rd_T44 x11_3 x12_3).f0, (rd_T44 x11_3 x12_3).f1, wrap64 ((Go.bits .and .i64 ((rd_T44 x11_3 x12_3).f2) 65535) + (wrap64 (a2))), (rd_T44 x11_3 x12_3).f3⟩ : S44)) := ⟨_, rfl⟩
                          replace H : (emulatorlaw26_AsmexprMoves.l1 k3 a2 t329 t330 y340 (wrap64 (x12_3 + 1)) l0_0 a0_1 a0_2 a0_3 a0_4 t326 t327 t328) = some r := by first | (rw [hy340]; with_reducible exact H) | (have H2_ := (Option.bind_some _ _).symm.trans H; rw [hy340]; with_reducible exact H2_) | (have H2_ := (Option.bind_some _ _).symm.trans H; with_reducible exact H2_) | with_reducible exact H | (rw [hy340]; exact H) | exact H
                          have Ny340 := Aside0.mk hy340
                          clear hy340
                          have H' := Aside0.mk H
                          clear H
                          obtain ⟨Ao43, co43, eo43⟩ := Kd.R_slice HO_11.out
                          subst eo43
                          have p338 : 0 ≤ (x12_3 : Int) := of_decide_eq_true (by first | (with_reducible assumption) | assumption)
                          have q338 : x12_3 < (x11_3.length : Int) := of_decide_eq_true (by first | (with_reducible assumption) | assumption)
                          obtain ⟨ad338, e338, hx338_0, hx338_1, hx338_2, hx338_3⟩ := at_T44 (Kd.R_reads' HO_11.out).2.2 x12_3 p338 q338
                          cases e338
                          replace p338 := eq_true p338
                          replace q338 := eq_true q338
                          have p339 : 0 ≤ (x12_3 : Int) := of_decide_eq_true (by first | (with_reducible assumption) | assumption)
                          have q339 : x12_3 < (x11_3.length : Int) := of_decide_eq_true (by first | (with_reducible assumption) | assumption)
                          obtain ⟨ad339, e339, hx339_0, hx339_1, hx339_2, hx339_3⟩ := at_T44 (Kd.R_reads' HO_11.out).2.2 x12_3 p339 q339
                          obtain rfl : ad338 = ad339 := (by injection e339)
                          replace p339 := eq_true p339
                          replace q339 := eq_true q339
                          have p42 : 0 ≤ (x12_3 : Int) := of_decide_eq_true (by first | (with_reducible assumption) | assumption)
                          have q42 : (x12_3 : Int) < ((x11_3.length : Int) : Int) := of_decide_eq_true (by first | (with_reducible assumption) | assumption)
                          obtain ⟨go42, co42, eo42, gb42, gl42, cl42, HG42⟩ := Kd.R_form HO_11.out (by omega)
                          (first | cases eo42 | (injection eo42 with ea_ en_ ec_; (first | subst ea_ | (injection ea_ with ea_; subst ea_)); subst ec_; clear en_))
                          have GB42 := Aside0.mk gb42
                          have GG42 := Aside0.mk HG42
                          clear gb42 gl42 HG42
                          (first | simp only [add_plain] at hx338_0 | skip)
                          (first | simp only [add_plain] at hx338_1 | skip)
                          (first | simp only [add_plain] at hx338_2 | skip)
                          (first | simp only [add_plain] at hx338_3 | skip)
                          (first | simp only [add_plain] at hx339_0 | skip)
                          (first | simp only [add_plain] at hx339_1 | skip)
                          (first | simp only [add_plain] at hx339_2 | skip)
                          (first | simp only [add_plain] at hx339_3 | skip)
                          obtain ⟨ce42, hcl42, hM42, hcc42, hfr42⟩ := Kd.R_elem HO_11.out z44 (x12_3 : Int) p42 q42
                          obtain rfl := k44_openM hM42
                          have hx42_0 : wr.cell? ⟨go42, (x12_3 : Int).toNat * 4, none⟩ = some (.string ((rd_T44 x11_3 x12_3).f0)) := hcc42 0 _ rfl
                          have hx42_1 : wr.cell? ⟨go42, (x12_3 : Int).toNat * 4 + 1, none⟩ = some (.int .i64 ((rd_T44 x11_3 x12_3).f1)) := hcc42 1 _ rfl
                          have hx42_2 : wr.cell? ⟨go42, (x12_3 : Int).toNat * 4 + 2, none⟩ = some (.int .i64 ((rd_T44 x11_3 x12_3).f2)) := hcc42 2 _ rfl
                          have hx42_3 : wr.cell? ⟨go42, (x12_3 : Int).toNat * 4 + 3, none⟩ = some (.bool ((rd_T44 x11_3 x12_3).f3)) := hcc42 3 _ rfl
                          have hf42_0 : wr.frozen? ⟨go42, (x12_3 : Int).toNat * 4, none⟩ = false := hfr42 0
                          have hf42_1 : wr.frozen? ⟨go42, (x12_3 : Int).toNat * 4 + 1, none⟩ = false := hfr42 1
                          have hf42_2 : wr.frozen? ⟨go42, (x12_3 : Int).toNat * 4 + 2, none⟩ = false := hfr42 2
                          have hf42_3 : wr.frozen? ⟨go42, (x12_3 : Int).toNat * 4 + 3, none⟩ = false := hfr42 3
                          clear hcl42 hcc42 hfr42 hM42
                          replace p42 := eq_true p42
                          replace q42 := eq_true q42
                          have HX44 := Aside0.mk (show Kd.R k44 44 wr w.heap.size (fun _ => True) (.slice (some ⟨go42, 0, none⟩) x11_3.length co43) x11_3 from (by (with_reducible repeat (first | apply Kd.R_alloc | apply Kd.R_drewN | apply Kd.R_drew)); exact HO_11.out))
                          obtain ⟨ce44, hcl44, hM44, hcc44, hfr44⟩ := Kd.R_elem HX44.out z44 (x12_3 : Int) (of_decide_eq_true (by first | (with_reducible assumption) | assumption)) (by have h_ : (x12_3 : Int) < ((x11_3.length : Int) : Int) := of_decide_eq_true (by first | (with_reducible assumption) | assumption); first | exact h_ | (have e_ := (Kd.R_reads' HO_11.out).1; omega) | simpa using h_)
                          obtain rfl := k44_openM hM44
                          have HP44 := Kd.R_seg HX44.out (x12_3 : Int) (of_decide_eq_true (by first | (with_reducible assumption) | assumption)) (by have h_ : (x12_3 : Int) < ((x11_3.length : Int) : Int) := of_decide_eq_true (by first | (with_reducible assumption) | assumption); first | exact h_ | (have e_ := (Kd.R_reads' HO_11.out).1; omega) | simpa using h_) (seg := [.int .i64 (wrap64 ((Go.bits .and .i64 ((rd_T44 x11_3 x12_3).f2) 65535) + (wrap64 (a2))))]) (j := 2) hcl44 hcc44 (show 3 ≤ 4 from by decide) (x' := (⟨(rd_T44 x11_3 x12_3).f0, (rd_T44 x11_3 x12_3).f1, wrap64 ((Go.bits .and .i64 ((rd_T44 x11_3 x12_3).f2) 65535) + (wrap64 (a2))), (rd_T44 x11_3 x12_3).f3⟩ : S44)) (k44_mkM _ _ _ (⟨(rd_T44 x11_3 x12_3).f0, (rd_T44 x11_3 x12_3).f1, wrap64 ((Go.bits .and .i64 ((rd_T44 x11_3 x12_3).f2) 65535) + (wrap64 (a2))), (rd_T44 x11_3 x12_3).f3⟩ : S44) ) (fun _ hk => hk)
                          have hx44_2 := hcc44 2 _ rfl
                          (try simp only [show (k44).sz = 4 from rfl, Nat.mul_one, Nat.add_zero] at hx44_2)
                          have hf44_2 := hfr44 2
                          (try simp only [show (k44).sz = 4 from rfl, Nat.mul_one, Nat.add_zero] at hf44_2)
                          clear hcl44 hcc44 hfr44 hM44
                          go_wp2_with (first | ((with_reducible refine gate_store (t := 3) (p := 114) rfl ?_); refine store_event (t := 3) (p := 114) (v := ?vo_w45) (w1 := (wr.setCell ⟨go42, (x12_3 : Int).toNat * 4 + 2, none⟩ (.int .i64 (wrap64 ((Go.bits .and .i64 ((rd_T44 x11_3 x12_3).f2) 65535) + (wrap64 (a2))))))) ?hg ?ho ?hn ?hr ?_; (case ho => rfl); (case hg => rfl); (case hn => rfl); (case hr => first | (go_simp; done) | (go_simp; rfl)); intro w45 hw; have hg : wr.grownBy w45 (some go42) := (by rw [hw]; exact HP44.2); have hp_ : Kd.R k44 44 w45 w.heap.size (fun _ => True) (.slice (some ⟨go42, 0, none⟩) x11_3.length co43) y340 := (by rw [hw, Ny340.out]; exact HP44.1); clear HP44; have n0_ := Aside0.mk (hp_); have n1_ := Aside0.mk (blk_grown (g := gb319) (o := .cells #[.slice A0_0 l0_0.length c0_0, .int .i64 a0_1, .int .i64 a0_2, .string a0_3, .int .i64 a0_4] 26 (0, 0)) (by (with_reducible repeat (first | refine blk_drewN ?_ _ | refine blk_drew ?_ | refine blk_alloc ?_ _)); exact BK319.out) hg (Kd.R_ne HO_11.out BK319.out (by decide))); have n2_ := Aside0.mk (blk_grown (g := gb331) (o := .cells #[.int .i64 t326, .string t327, .int .i64 t328] 24 (0, 0)) (by (with_reducible repeat (first | refine blk_drewN ?_ _ | refine blk_drew ?_ | refine blk_alloc ?_ _)); exact BK331.out) hg (Kd.R_ne HO_11.out BK331.out (by decide))); have n3_ := Aside0.mk ((by rw [hw]; exact below_set (HB.out) GB42.out : Below w.heap.size w w45)); clear HO_11; clear BK319; clear BK331; clear HB; have HO_11 := n0_; have BK319 := n1_; have BK331 := n2_; have HB := n3_; clear n0_ n1_ n2_ n3_; clear hg hw hp_))
                          go_roundg k3
                          case measure => have := HJ3.out; have := HK2.out; have := HK3.out; omega
                          case rel => exact ⟨(y340), (wrap64 (x12_3 + 1)), (by first | rfl | (simp; done) | (simp [*]; done)), H', ⟨by have := HJ3.out; have := HK2.out; have := HK3.out; omega⟩, ⟨by (with_reducible repeat (first | apply Kd.R_alloc | apply Kd.R_drewN | apply Kd.R_drew)); exact HO_11.out⟩, ⟨by (with_reducible repeat (first | refine blk_drewN ?_ _ | refine blk_drew ?_ | refine blk_alloc ?_ _)); exact BK319.out⟩, ⟨by (with_reducible repeat (first | refine blk_drewN ?_ _ | refine blk_drew ?_ | refine blk_alloc ?_ _)); exact BK331.out⟩, ⟨by repeat (first | (with_reducible first | exact HB.out | apply below_alloc | apply pw_below_drewN | apply below_drew1 | refine below_set ?_ GE319.out | refine below_set ?_ GE331.out) | exact HB.out)⟩⟩
                        · rw [if_neg c41] at H
                          have c41b0 : (((rd_T44 x11_3 x12_3).f1) == 1) = false := beq_eq_false_iff_ne.mpr c41
                          have c41b1 : (((rd_T44 x11_3 x12_3).f1) != 1) = true := bne_iff_ne.mpr c41
                          have H' := Aside0.mk H
                          clear H
                          obtain ⟨Ao46, co46, eo46⟩ := Kd.R_slice HO_11.out
                          subst eo46
                          have p338 : 0 ≤ (x12_3 : Int) := of_decide_eq_true (by first | (with_reducible assumption) | assumption)
                          have q338 : x12_3 < (x11_3.length : Int) := of_decide_eq_true (by first | (with_reducible assumption) | assumption)
                          obtain ⟨ad338, e338, hx338_0, hx338_1, hx338_2, hx338_3⟩ := at_T44 (Kd.R_reads' HO_11.out).2.2 x12_3 p338 q338
                          cases e338
                          replace p338 := eq_true p338
                          replace q338 := eq_true q338
                          go_wp2
                          go_roundg k3
                          case measure => have := HJ3.out; have := HK2.out; have := HK3.out; omega
                          case rel => exact ⟨(x11_3), (wrap64 (x12_3 + 1)), (by first | rfl | (simp; done) | (simp [*]; done)), H', ⟨by have := HJ3.out; have := HK2.out; have := HK3.out; omega⟩, ⟨by (with_reducible repeat (first | apply Kd.R_alloc | apply Kd.R_drewN | apply Kd.R_drew)); exact HO_11.out⟩, ⟨by (with_reducible repeat (first | refine blk_drewN ?_ _ | refine blk_drew ?_ | refine blk_alloc ?_ _)); exact BK319.out⟩, ⟨by (with_reducible repeat (first | refine blk_drewN ?_ _ | refine blk_drew ?_ | refine blk_alloc ?_ _)); exact BK331.out⟩, ⟨by repeat (first | (with_reducible first | exact HB.out | apply below_alloc | apply pw_below_drewN | apply below_drew1 | refine below_set ?_ GE319.out | refine below_set ?_ GE331.out) | exact HB.out)⟩⟩
                      · rw [if_neg c40] at H
                        exact absurd H (by simp)
                    · rw [if_neg c39] at H
                      have c39b0 : decide (x12_3 < (x11_3.length : Int)) = false := decide_eq_false c39
                      clear c39
                      have HC47 := Aside0.mk H
                      clear H
                      obtain ⟨Ao48, co48, eo48⟩ := Kd.R_slice HO_11.out
                      subst eo48
                      have hnb49 := NB319_331.out
                      have hnc49 := NB331_319.out
                      have hcz50_0 : wr.cell? ⟨gb319, 0, none⟩ = some (.slice A0_0 l0_0.length c0_0) := (blk_cell BK319.out 0).trans rfl
                      have hcz50_1 : wr.cell? ⟨gb319, 1, none⟩ = some (.int .i64 a0_1) := (blk_cell BK319.out 1).trans rfl
                      have hcz50_2 : wr.cell? ⟨gb319, 2, none⟩ = some (.int .i64 a0_2) := (blk_cell BK319.out 2).trans rfl
                      have hcz50_3 : wr.cell? ⟨gb319, 3, none⟩ = some (.string a0_3) := (blk_cell BK319.out 3).trans rfl
                      have hcz50_4 : wr.cell? ⟨gb319, 4, none⟩ = some (.int .i64 a0_4) := (blk_cell BK319.out 4).trans rfl
                      have hfz50_0 := blk_frozen BK319.out 0
                      have hfz50_1 := blk_frozen BK319.out 1
                      have hfz50_2 := blk_frozen BK319.out 2
                      have hfz50_3 := blk_frozen BK319.out 3
                      have hfz50_4 := blk_frozen BK319.out 4
                      go_upto_if 119 with (first | ((with_reducible refine gate_dst (N := 13) rfl ?_); (try (refine gate_guard (by rfl) ?_; dsimp only)); refine box_event ?hg (N := 13) ?hd (cs := #[.int .i64 0, .string (⟨#[]⟩ : ByteArray), .int .i64 0]) (t := 24) ?hr ?_; (case hd => rfl); (case hg => rfl); (case hr => first | (go_simp; done) | (go_simp; rfl)); intro gb341 hg w51 hbox hb; have n0_ := Aside0.mk (Kd.R_below (by (with_reducible repeat (first | apply Kd.R_alloc | apply Kd.R_drewN | apply Kd.R_drew)); exact HO_11.out) hb); have n1_ := Aside0.mk (blk_below (g := gb319) (o := .cells #[.slice A0_0 l0_0.length c0_0, .int .i64 a0_1, .int .i64 a0_2, .string a0_3, .int .i64 a0_4] 26 (0, 0)) (by (with_reducible repeat (first | refine blk_drewN ?_ _ | refine blk_drew ?_ | refine blk_alloc ?_ _)); exact BK319.out) hb); have n2_ := Aside0.mk (blk_below (g := gb331) (o := .cells #[.int .i64 t326, .string t327, .int .i64 t328] 24 (0, 0)) (by (with_reducible repeat (first | refine blk_drewN ?_ _ | refine blk_drew ?_ | refine blk_alloc ?_ _)); exact BK331.out) hb); have n3_ := Aside0.mk (below_step (by repeat (first | (with_reducible first | exact HB.out | apply below_alloc | apply pw_below_drewN | apply below_drew1 | refine below_set ?_ GE319.out | refine below_set ?_ GE331.out) | exact HB.out)) hb); have n4_ := Aside0.mk (hbox); have n5_ := Aside0.mk ((by rw [hg]; exact (below_size (by repeat (first | (with_reducible first | exact HB.out | apply below_alloc | apply pw_below_drewN | apply below_drew1 | refine below_set ?_ GE319.out | refine below_set ?_ GE331.out) | exact HB.out))) : w.heap.size ≤ gb341)); have n6_ := Aside0.mk ((by rw [hg]; exact (below_size (by repeat (first | (with_reducible first | exact HB.out | apply below_alloc | apply pw_below_drewN | apply below_drew1 | refine below_set ?_ GE319.out | refine below_set ?_ GE331.out) | exact HB.out))) : w.heap.size ≤ gb341)); have n7_ := Aside0.mk ((by rw [hg]; exact Nat.ne_of_lt (blk_lt (g := gb319) (o := .cells #[.slice A0_0 l0_0.length c0_0, .int .i64 a0_1, .int .i64 a0_2, .string a0_3, .int .i64 a0_4] 26 (0, 0)) (by (with_reducible repeat (first | refine blk_drewN ?_ _ | refine blk_drew ?_ | refine blk_alloc ?_ _)); exact BK319.out)) : gb319 ≠ gb341)); have n8_ := Aside0.mk ((by rw [hg]; exact Nat.ne_of_gt (blk_lt (g := gb319) (o := .cells #[.slice A0_0 l0_0.length c0_0, .int .i64 a0_1, .int .i64 a0_2, .string a0_3, .int .i64 a0_4] 26 (0, 0)) (by (with_reducible repeat (first | refine blk_drewN ?_ _ | refine blk_drew ?_ | refine blk_alloc ?_ _)); exact BK319.out)) : gb341 ≠ gb319)); have n9_ := Aside0.mk ((by rw [hg]; exact Nat.ne_of_lt (blk_lt (g := gb331) (o := .cells #[.int .i64 t326, .string t327, .int .i64 t328] 24 (0, 0)) (by (with_reducible repeat (first | refine blk_drewN ?_ _ | refine blk_drew ?_ | refine blk_alloc ?_ _)); exact BK331.out)) : gb331 ≠ gb341)); have n10_ := Aside0.mk ((by rw [hg]; exact Nat.ne_of_gt (blk_lt (g := gb331) (o := .cells #[.int .i64 t326, .string t327, .int .i64 t328] 24 (0, 0)) (by (with_reducible repeat (first | refine blk_drewN ?_ _ | refine blk_drew ?_ | refine blk_alloc ?_ _)); exact BK331.out)) : gb341 ≠ gb331)); clear HO_11; clear BK319; clear BK331; clear HB; have HO_11 := n0_; have BK319 := n1_; have BK331 := n2_; have HB := n3_; have BK341 := n4_; have GW341 := n5_; have GE341 := n6_; have NB319_341 := n7_; have NB341_319 := n8_; have NB331_341 := n9_; have NB341_331 := n10_; clear n0_ n1_ n2_ n3_ n4_ n5_ n6_ n7_ n8_ n9_ n10_; clear hb hbox hg; have hnb52 := NB341_319.out; have hnc52 := NB319_341.out; have hnb53 := NB341_331.out; have hnc53 := NB331_341.out; have hcz54_0 : w51.cell? ⟨gb341, 0, none⟩ = some (.int .i64 0) := (blk_cell BK341.out 0).trans rfl; have hcz54_1 : w51.cell? ⟨gb341, 1, none⟩ = some (.string (⟨#[]⟩ : ByteArray)) := (blk_cell BK341.out 1).trans rfl; have hcz54_2 : w51.cell? ⟨gb341, 2, none⟩ = some (.int .i64 0) := (blk_cell BK341.out 2).trans rfl; have hfz54_0 := blk_frozen BK341.out 0; have hfz54_1 := blk_frozen BK341.out 1; have hfz54_2 := blk_frozen BK341.out 2))
                      (try simp only [Act.put, List.setIfInBounds_toArray, List.set_cons_zero, List.set_cons_succ])
                      go_cut [] (fun wc => ∃ (kq : Nat) (x342002_46 : Int), Aside0 (emulatorlaw26_AsmexprMoves.j3 kq a2 t329 t330 x11_3 l0_0 a0_1 a0_2 a0_3 a0_4 t326 t327 t328 a0_2 a0_3 x342002_46 = some r) ∧ Aside0 (kq ≤ k3) ∧ Aside0 (Kd.R k44 44 wc w.heap.size (fun _ => True) (.slice Ao48 x11_3.length co48) x11_3) ∧ Aside0 (wc.heap[gb319]? = some (.cells #[(.slice A0_0 l0_0.length c0_0), .int .i64 a0_1, .int .i64 a0_2, .string a0_3, .int .i64 a0_4] 26 (0, 0))) ∧ Aside0 (wc.heap[gb331]? = some (.cells #[.int .i64 t326, .string t327, .int .i64 t328] 24 (0, 0))) ∧ Aside0 (wc.heap[gb341]? = some (.cells #[.int .i64 a0_2, .string a0_3, .int .i64 x342002_46] 24 (0, 0))) ∧ Aside0 (Below w.heap.size w wc))
                      case first =>
                        have H := HC47.out
                        clear HC47
                        by_cases c55 : a0_2 = 1
                        · rw [if_pos c55] at H
                          have c55b0 : (a0_2 == 1) = true := beq_iff_eq.mpr c55
                          have c55b1 : (a0_2 != 1) = false := bne_eq_false_iff_eq.mpr c55
                          clear c55
                          (first | rw [c55b0] | (simp only [i64_w, i32_w]; rw [c55b0]) | skip)
                          have H' := Aside0.mk H
                          clear H
                          have hnb56 := NB341_319.out
                          have hnc56 := NB319_341.out
                          have hnb57 := NB341_331.out
                          have hnc57 := NB331_341.out
                          have hcz58_0 : w51.cell? ⟨gb341, 0, none⟩ = some (.int .i64 0) := (blk_cell BK341.out 0).trans rfl
                          have hcz58_1 : w51.cell? ⟨gb341, 1, none⟩ = some (.string (⟨#[]⟩ : ByteArray)) := (blk_cell BK341.out 1).trans rfl
                          have hcz58_2 : w51.cell? ⟨gb341, 2, none⟩ = some (.int .i64 0) := (blk_cell BK341.out 2).trans rfl
                          have hfz58_0 := blk_frozen BK341.out 0
                          have hfz58_1 := blk_frozen BK341.out 1
                          have hfz58_2 := blk_frozen BK341.out 2
                          go_wp2
                          go_meet
                          case rel => exact ⟨_, (Go.bits .and .i64 (wrap64 ((Go.bits .and .i64 a0_4 65535) + (wrap64 (a2)))) 65535), H', ⟨by have := HJ3.out; have := HK2.out; have := HK3.out; first | omega | exact Nat.le_refl _⟩, ⟨by (with_reducible repeat (first | apply Kd.R_alloc | apply Kd.R_drewN | apply Kd.R_drew)); exact Kd.R_mono (Kd.R_far (p := ⟨gb341, 2, none⟩) (Kd.R_far (p := ⟨gb341, 2, none⟩) (Kd.R_far (p := ⟨gb341, 1, none⟩) (Kd.R_far (p := ⟨gb341, 0, none⟩) (Kd.R_types HO_11.out BK341.out (by decide)) (fun _ hk => hk.2) (.int .i64 a0_2)) (fun _ hk => hk.2) (.string a0_3)) (fun _ hk => hk.2) (.int .i64 a0_4)) (fun _ hk => hk.2) (.int .i64 (Go.bits .and .i64 (wrap64 ((Go.bits .and .i64 a0_4 65535) + (wrap64 (a2)))) 65535))) (fun _ hk => trivial)⟩, ⟨by (with_reducible repeat (first | refine blk_drewN ?_ _ | refine blk_drew ?_ | refine blk_alloc ?_ _)); refine blk_far ?_ NB319_341.out _; (with_reducible repeat (first | refine blk_drewN ?_ _ | refine blk_drew ?_ | refine blk_alloc ?_ _)); refine blk_far ?_ NB319_341.out _; (with_reducible repeat (first | refine blk_drewN ?_ _ | refine blk_drew ?_ | refine blk_alloc ?_ _)); refine blk_far ?_ NB319_341.out _; (with_reducible repeat (first | refine blk_drewN ?_ _ | refine blk_drew ?_ | refine blk_alloc ?_ _)); refine blk_far ?_ NB319_341.out _; (with_reducible repeat (first | refine blk_drewN ?_ _ | refine blk_drew ?_ | refine blk_alloc ?_ _)); exact BK319.out⟩, ⟨by (with_reducible repeat (first | refine blk_drewN ?_ _ | refine blk_drew ?_ | refine blk_alloc ?_ _)); refine blk_far ?_ NB331_341.out _; (with_reducible repeat (first | refine blk_drewN ?_ _ | refine blk_drew ?_ | refine blk_alloc ?_ _)); refine blk_far ?_ NB331_341.out _; (with_reducible repeat (first | refine blk_drewN ?_ _ | refine blk_drew ?_ | refine blk_alloc ?_ _)); refine blk_far ?_ NB331_341.out _; (with_reducible repeat (first | refine blk_drewN ?_ _ | refine blk_drew ?_ | refine blk_alloc ?_ _)); refine blk_far ?_ NB331_341.out _; (with_reducible repeat (first | refine blk_drewN ?_ _ | refine blk_drew ?_ | refine blk_alloc ?_ _)); exact BK331.out⟩, ⟨by (with_reducible repeat (first | refine blk_drewN ?_ _ | refine blk_drew ?_ | refine blk_alloc ?_ _)); refine blk_put (cs := #[.int .i64 a0_2, .string a0_3, .int .i64 a0_4]) ?_ 2 _ rfl; (with_reducible repeat (first | refine blk_drewN ?_ _ | refine blk_drew ?_ | refine blk_alloc ?_ _)); refine blk_put (cs := #[.int .i64 a0_2, .string a0_3, .int .i64 0]) ?_ 2 _ rfl; (with_reducible repeat (first | refine blk_drewN ?_ _ | refine blk_drew ?_ | refine blk_alloc ?_ _)); refine blk_put (cs := #[.int .i64 a0_2, .string (⟨#[]⟩ : ByteArray), .int .i64 0]) ?_ 1 _ rfl; (with_reducible repeat (first | refine blk_drewN ?_ _ | refine blk_drew ?_ | refine blk_alloc ?_ _)); refine blk_put (cs := #[.int .i64 0, .string (⟨#[]⟩ : ByteArray), .int .i64 0]) ?_ 0 _ rfl; (with_reducible repeat (first | refine blk_drewN ?_ _ | refine blk_drew ?_ | refine blk_alloc ?_ _)); exact BK341.out⟩, ⟨by repeat (first | (with_reducible first | exact HB.out | apply below_alloc | apply pw_below_drewN | apply below_drew1 | refine below_set ?_ GE319.out | refine below_set ?_ GE331.out | refine below_set ?_ GE341.out) | exact HB.out)⟩⟩
                        · rw [if_neg c55] at H
                          have c55b0 : (a0_2 == 1) = false := beq_eq_false_iff_ne.mpr c55
                          have c55b1 : (a0_2 != 1) = true := bne_iff_ne.mpr c55
                          (first | rw [c55b0] | (simp only [i64_w, i32_w]; rw [c55b0]) | skip)
                          have H' := Aside0.mk H
                          clear H
                          go_wp2
                          go_meet
                          case rel => exact ⟨_, (a0_4), H', ⟨by have := HJ3.out; have := HK2.out; have := HK3.out; first | omega | exact Nat.le_refl _⟩, ⟨by (with_reducible repeat (first | apply Kd.R_alloc | apply Kd.R_drewN | apply Kd.R_drew)); exact Kd.R_mono (Kd.R_far (p := ⟨gb341, 2, none⟩) (Kd.R_far (p := ⟨gb341, 1, none⟩) (Kd.R_far (p := ⟨gb341, 0, none⟩) (Kd.R_types HO_11.out BK341.out (by decide)) (fun _ hk => hk.2) (.int .i64 a0_2)) (fun _ hk => hk.2) (.string a0_3)) (fun _ hk => hk.2) (.int .i64 a0_4)) (fun _ hk => trivial)⟩, ⟨by (with_reducible repeat (first | refine blk_drewN ?_ _ | refine blk_drew ?_ | refine blk_alloc ?_ _)); refine blk_far ?_ NB319_341.out _; (with_reducible repeat (first | refine blk_drewN ?_ _ | refine blk_drew ?_ | refine blk_alloc ?_ _)); refine blk_far ?_ NB319_341.out _; (with_reducible repeat (first | refine blk_drewN ?_ _ | refine blk_drew ?_ | refine blk_alloc ?_ _)); refine blk_far ?_ NB319_341.out _; (with_reducible repeat (first | refine blk_drewN ?_ _ | refine blk_drew ?_ | refine blk_alloc ?_ _)); exact BK319.out⟩, ⟨by (with_reducible repeat (first | refine blk_drewN ?_ _ | refine blk_drew ?_ | refine blk_alloc ?_ _)); refine blk_far ?_ NB331_341.out _; (with_reducible repeat (first | refine blk_drewN ?_ _ | refine blk_drew ?_ | refine blk_alloc ?_ _)); refine blk_far ?_ NB331_341.out _; (with_reducible repeat (first | refine blk_drewN ?_ _ | refine blk_drew ?_ | refine blk_alloc ?_ _)); refine blk_far ?_ NB331_341.out _; (with_reducible repeat (first | refine blk_drewN ?_ _ | refine blk_drew ?_ | refine blk_alloc ?_ _)); exact BK331.out⟩, ⟨by (with_reducible repeat (first | refine blk_drewN ?_ _ | refine blk_drew ?_ | refine blk_alloc ?_ _)); refine blk_put (cs := #[.int .i64 a0_2, .string a0_3, .int .i64 0]) ?_ 2 _ rfl; (with_reducible repeat (first | refine blk_drewN ?_ _ | refine blk_drew ?_ | refine blk_alloc ?_ _)); refine blk_put (cs := #[.int .i64 a0_2, .string (⟨#[]⟩ : ByteArray), .int .i64 0]) ?_ 1 _ rfl; (with_reducible repeat (first | refine blk_drewN ?_ _ | refine blk_drew ?_ | refine blk_alloc ?_ _)); refine blk_put (cs := #[.int .i64 0, .string (⟨#[]⟩ : ByteArray), .int .i64 0]) ?_ 0 _ rfl; (with_reducible repeat (first | refine blk_drewN ?_ _ | refine blk_drew ?_ | refine blk_alloc ?_ _)); exact BK341.out⟩, ⟨by repeat (first | (with_reducible first | exact HB.out | apply below_alloc | apply pw_below_drewN | apply below_drew1 | refine below_set ?_ GE319.out | refine below_set ?_ GE331.out | refine below_set ?_ GE341.out) | exact HB.out)⟩⟩
                      case rest =>
                        clear HC47
                        try clear c1
                        try clear c2
                        try clear p2
                        try clear c3
                        try clear p3
                        try clear q3
                        try clear hx3
                        try clear c4
                        try clear p4
                        try clear q4
                        try clear hx4
                        try clear hf4
                        try clear c5
                        try clear c6
                        try clear p6
                        try clear c7
                        try clear c9
                        try clear c9b0
                        try clear c9b1
                        try clear c11
                        try clear c12
                        try clear c14
                        try clear c14b0
                        try clear c14b1
                        try clear c19
                        try clear c20
                        try clear c20b0
                        try clear c21
                        try clear c21b0
                        try clear c22
                        try clear c22b0
                        try clear c22b1
                        try clear c23
                        try clear c23b0
                        try clear c23b1
                        try clear c25
                        try clear c25b0
                        try clear c25b1
                        try clear c30
                        try clear p32
                        try clear q32
                        try clear hx32
                        try clear p33
                        try clear q33
                        try clear hx33
                        try clear c34
                        try clear c39
                        try clear c39b0
                        try clear c40
                        try clear c40b0
                        try clear c41
                        try clear c41b0
                        try clear c41b1
                        try clear c42
                        try clear p42
                        try clear q42
                        try clear hx42
                        try clear hf42
                        try clear c44
                        try clear hx44
                        try clear hf44
                        try clear c49
                        try clear c52
                        try clear c53
                        try clear c55
                        try clear c55b0
                        try clear c55b1
                        try clear c56
                        try clear c57
                        try clear hcz10_0
                        try clear hcz10_1
                        try clear hcz10_2
                        try clear hcz10_3
                        try clear hcz10_4
                        try clear hcz13_0
                        try clear hcz13_1
                        try clear hcz13_2
                        try clear hcz13_3
                        try clear hcz13_4
                        try clear hcz15_0
                        try clear hcz15_1
                        try clear hcz15_2
                        try clear hcz15_3
                        try clear hcz15_4
                        try clear hcz17_0
                        try clear hcz17_1
                        try clear hcz17_2
                        try clear hcz17_3
                        try clear hcz17_4
                        try clear hcz24_0
                        try clear hcz24_1
                        try clear hcz24_2
                        try clear hcz24_3
                        try clear hcz24_4
                        try clear hcz26_0
                        try clear hcz26_1
                        try clear hcz26_2
                        try clear hcz26_3
                        try clear hcz26_4
                        try clear hcz27_0
                        try clear hcz27_1
                        try clear hcz27_2
                        try clear hcz27_3
                        try clear hcz27_4
                        try clear hcz28_0
                        try clear hcz28_1
                        try clear hcz28_2
                        try clear hcz28_3
                        try clear hcz28_4
                        try clear hcz31_0
                        try clear hcz31_1
                        try clear hcz31_2
                        try clear hcz31_3
                        try clear hcz31_4
                        try clear hcz35_0
                        try clear hcz35_1
                        try clear hcz35_2
                        try clear hcz50_0
                        try clear hcz50_1
                        try clear hcz50_2
                        try clear hcz50_3
                        try clear hcz50_4
                        try clear hcz54_0
                        try clear hcz54_1
                        try clear hcz54_2
                        try clear hcz58_0
                        try clear hcz58_1
                        try clear hcz58_2
                        try clear hcz8_0
                        try clear hcz8_1
                        try clear hcz8_2
                        try clear hcz8_3
                        try clear hcz8_4
                        try clear hfz10_0
                        try clear hfz10_1
                        try clear hfz10_2
                        try clear hfz10_3
                        try clear hfz10_4
                        try clear hfz13_0
                        try clear hfz13_1
                        try clear hfz13_2
                        try clear hfz13_3
                        try clear hfz13_4
                        try clear hfz15_0
                        try clear hfz15_1
                        try clear hfz15_2
                        try clear hfz15_3
                        try clear hfz15_4
                        try clear hfz17_0
                        try clear hfz17_1
                        try clear hfz17_2
                        try clear hfz17_3
                        try clear hfz17_4
                        try clear hfz24_0
                        try clear hfz24_1
                        try clear hfz24_2
                        try clear hfz24_3
                        try clear hfz24_4
                        try clear hfz26_0
                        try clear hfz26_1
                        try clear hfz26_2
                        try clear hfz26_3
                        try clear hfz26_4
                        try clear hfz27_0
                        try clear hfz27_1
                        try clear hfz27_2
                        try clear hfz27_3
                        try clear hfz27_4
                        try clear hfz28_0
                        try clear hfz28_1
                        try clear hfz28_2
                        try clear hfz28_3
                        try clear hfz28_4
                        try clear hfz31_0
                        try clear hfz31_1
                        try clear hfz31_2
                        try clear hfz31_3
                        try clear hfz31_4
                        try clear hfz35_0
                        try clear hfz35_1
                        try clear hfz35_2
                        try clear hfz50_0
                        try clear hfz50_1
                        try clear hfz50_2
                        try clear hfz50_3
                        try clear hfz50_4
                        try clear hfz54_0
                        try clear hfz54_1
                        try clear hfz54_2
                        try clear hfz58_0
                        try clear hfz58_1
                        try clear hfz58_2
                        try clear hfz8_0
                        try clear hfz8_1
                        try clear hfz8_2
                        try clear hfz8_3
                        try clear hfz8_4
                        try clear hx323_0
                        try clear hx323_1
                        try clear hx323_2
                        try clear hx323_3
                        try clear hx324_0
                        try clear hx324_1
                        try clear hx324_2
                        try clear hx324_3
                        try clear hx325_0
                        try clear hx325_1
                        try clear hx325_2
                        try clear hx325_3
                        try clear hx338_0
                        try clear hx338_1
                        try clear hx338_2
                        try clear hx338_3
                        try clear hx339_0
                        try clear hx339_1
                        try clear hx339_2
                        try clear hx339_3
                        try clear hx42_0
                        try clear hx42_1
                        try clear hx42_2
                        try clear hx42_3
                        try clear hx44_2
                        try clear p2
                        try clear p3
                        try clear p32
                        try clear p323
                        try clear p324
                        try clear p325
                        try clear p338
                        try clear p339
                        try clear p42
                        try clear p6
                        try clear q3
                        try clear q32
                        try clear q323
                        try clear q324
                        try clear q325
                        try clear q338
                        try clear q339
                        try clear q42
                        obtain ⟨kq, x342002_46, HA, HJ46, HO_11, BK319, BK331, BK341, HB⟩ := hcut
                        cases kq with
                        | zero => exact absurd HA.out (by simp [emulatorlaw26_AsmexprMoves.j3])
                        | succ kj46 =>
                          have H := HA.out
                          clear HA
                          simp only [emulatorlaw26_AsmexprMoves.j3] at H
                          replace H := Option.bind_eq_some_iff.mp H
                          obtain ⟨⟨t342, t343, t344, t345, t346⟩, A590, H⟩ := H
                          replace H : (if t330 = 0 then (emulatorlaw26_AsmexprMoves.j4 kj46 a2 t329 t330 t345 t346 (t346 != 0) t326 t327 t328 t342 t343 t344) else (emulatorlaw26_AsmexprMoves.j4 kj46 a2 t329 t330 t345 t346 true t326 t327 t328 t342 t343 t344)) = some r := H
                          have A59 := Aside0.mk A590
                          clear A590
                          have HC60 := Aside0.mk H
                          clear H
                          have hnb61 := NB319_331.out
                          have hnc61 := NB331_319.out
                          have hnb62 := NB319_341.out
                          have hnc62 := NB341_319.out
                          have hcz63_0 : wc.cell? ⟨gb319, 0, none⟩ = some (.slice A0_0 l0_0.length c0_0) := (blk_cell BK319.out 0).trans rfl
                          have hcz63_1 : wc.cell? ⟨gb319, 1, none⟩ = some (.int .i64 a0_1) := (blk_cell BK319.out 1).trans rfl
                          have hcz63_2 : wc.cell? ⟨gb319, 2, none⟩ = some (.int .i64 a0_2) := (blk_cell BK319.out 2).trans rfl
                          have hcz63_3 : wc.cell? ⟨gb319, 3, none⟩ = some (.string a0_3) := (blk_cell BK319.out 3).trans rfl
                          have hcz63_4 : wc.cell? ⟨gb319, 4, none⟩ = some (.int .i64 a0_4) := (blk_cell BK319.out 4).trans rfl
                          have hfz63_0 := blk_frozen BK319.out 0
                          have hfz63_1 := blk_frozen BK319.out 1
                          have hfz63_2 := blk_frozen BK319.out 2
                          have hfz63_3 := blk_frozen BK319.out 3
                          have hfz63_4 := blk_frozen BK319.out 4
                          have hnb64 := NB341_331.out
                          have hnc64 := NB331_341.out
                          have hcz65_0 : wc.cell? ⟨gb341, 0, none⟩ = some (.int .i64 a0_2) := (blk_cell BK341.out 0).trans rfl
                          have hcz65_1 : wc.cell? ⟨gb341, 1, none⟩ = some (.string a0_3) := (blk_cell BK341.out 1).trans rfl
                          have hcz65_2 : wc.cell? ⟨gb341, 2, none⟩ = some (.int .i64 x342002_46) := (blk_cell BK341.out 2).trans rfl
                          have hfz65_0 := blk_frozen BK341.out 0
                          have hfz65_1 := blk_frozen BK341.out 1
                          have hfz65_2 := blk_frozen BK341.out 2
                          go_upto_region 19 with (first | ((with_reducible refine gate_callee (f := 11) rfl ?_); refine goesL_ (some 135) rfl rfl Try.func11 (by kernel_rfl) rfl #[.slice A0_0 l0_0.length c0_0, .int .i64 a0_1, .slice Ao48 x11_3.length co48, .agg #[.int .i64 a0_2, .string a0_3, .int .i64 x342002_46]] rfl (by (try simp only [List.map_toArray, List.map_cons, List.map_nil]); first | done | rfl | (simp only [List.length_drop, List.length_take]; rfl)) ?_; (with_reducible refine (asmexpr_Eval.calls _ _ l0_0 a0_1 _ _ x11_3 a0_2 a0_3 x342002_46 t342 t343 t344 t345 t346 _ ?side1 ?side2 ?side3 ?side4 A59.out).mono ?_); (case side1 => repeat (first | exact (Kd.C_below HR0_0.out HB.out) | (with_reducible refine Kd.C_alloc ?_ _) | (with_reducible refine Kd.C_drewN ?_ _) | (with_reducible refine Kd.C_drew ?_))); (case side2 => exact HC0_0.out); (case side3 => repeat (first | exact (Kd.R_reads' HO_11.out).2.2 | (with_reducible refine Kd.C_alloc ?_ _) | (with_reducible refine Kd.C_drewN ?_ _) | (with_reducible refine Kd.C_drew ?_))); (case side4 => exact (Kd.R_reads' HO_11.out).2.1); rintro e w66 ⟨rfl, hb⟩; refine ⟨_, rfl, ?_⟩; have n0_ := Aside0.mk (Kd.R_below (by (with_reducible repeat (first | apply Kd.R_alloc | apply Kd.R_drewN | apply Kd.R_drew)); exact HO_11.out) hb); have n1_ := Aside0.mk (blk_below (g := gb319) (o := .cells #[.slice A0_0 l0_0.length c0_0, .int .i64 a0_1, .int .i64 a0_2, .string a0_3, .int .i64 a0_4] 26 (0, 0)) (by (with_reducible repeat (first | refine blk_drewN ?_ _ | refine blk_drew ?_ | refine blk_alloc ?_ _)); exact BK319.out) hb); have n2_ := Aside0.mk (blk_below (g := gb331) (o := .cells #[.int .i64 t326, .string t327, .int .i64 t328] 24 (0, 0)) (by (with_reducible repeat (first | refine blk_drewN ?_ _ | refine blk_drew ?_ | refine blk_alloc ?_ _)); exact BK331.out) hb); have n3_ := Aside0.mk (blk_below (g := gb341) (o := .cells #[.int .i64 a0_2, .string a0_3, .int .i64 x342002_46] 24 (0, 0)) (by (with_reducible repeat (first | refine blk_drewN ?_ _ | refine blk_drew ?_ | refine blk_alloc ?_ _)); exact BK341.out) hb); have n4_ := Aside0.mk (below_step (by repeat (first | (with_reducible first | exact HB.out | apply below_alloc | apply pw_below_drewN | apply below_drew1 | refine below_set ?_ GE319.out | refine below_set ?_ GE331.out | refine below_set ?_ GE341.out) | exact HB.out)) hb); clear HO_11; clear BK319; clear BK331; clear BK341; clear HB; have HO_11 := n0_; have BK319 := n1_; have BK331 := n2_; have BK341 := n3_; have HB := n4_; clear n0_ n1_ n2_ n3_ n4_; (try clear hb); (try clear hb2); (try clear hk); (try clear hi)) | ((with_reducible refine gate_dst (N := 14) rfl ?_); (try (refine gate_guard (by rfl) ?_; dsimp only)); refine box_event ?hg (N := 14) ?hd (cs := #[.int .i64 0, .string (⟨#[]⟩ : ByteArray), .int .i64 0]) (t := 24) ?hr ?_; (case hd => rfl); (case hg => rfl); (case hr => first | (go_simp; done) | (go_simp; rfl)); intro gb347 hg w67 hbox hb; have n0_ := Aside0.mk (Kd.R_below (by (with_reducible repeat (first | apply Kd.R_alloc | apply Kd.R_drewN | apply Kd.R_drew)); exact HO_11.out) hb); have n1_ := Aside0.mk (blk_below (g := gb319) (o := .cells #[.slice A0_0 l0_0.length c0_0, .int .i64 a0_1, .int .i64 a0_2, .string a0_3, .int .i64 a0_4] 26 (0, 0)) (by (with_reducible repeat (first | refine blk_drewN ?_ _ | refine blk_drew ?_ | refine blk_alloc ?_ _)); exact BK319.out) hb); have n2_ := Aside0.mk (blk_below (g := gb331) (o := .cells #[.int .i64 t326, .string t327, .int .i64 t328] 24 (0, 0)) (by (with_reducible repeat (first | refine blk_drewN ?_ _ | refine blk_drew ?_ | refine blk_alloc ?_ _)); exact BK331.out) hb); have n3_ := Aside0.mk (blk_below (g := gb341) (o := .cells #[.int .i64 a0_2, .string a0_3, .int .i64 x342002_46] 24 (0, 0)) (by (with_reducible repeat (first | refine blk_drewN ?_ _ | refine blk_drew ?_ | refine blk_alloc ?_ _)); exact BK341.out) hb); have n4_ := Aside0.mk (below_step (by repeat (first | (with_reducible first | exact HB.out | apply below_alloc | apply pw_below_drewN | apply below_drew1 | refine below_set ?_ GE319.out | refine below_set ?_ GE331.out | refine below_set ?_ GE341.out) | exact HB.out)) hb); have n5_ := Aside0.mk (hbox); have n6_ := Aside0.mk ((by rw [hg]; exact (below_size (by repeat (first | (with_reducible first | exact HB.out | apply below_alloc | apply pw_below_drewN | apply below_drew1 | refine below_set ?_ GE319.out | refine below_set ?_ GE331.out | refine below_set ?_ GE341.out) | exact HB.out))) : w.heap.size ≤ gb347)); have n7_ := Aside0.mk ((by rw [hg]; exact (below_size (by repeat (first | (with_reducible first | exact HB.out | apply below_alloc | apply pw_below_drewN | apply below_drew1 | refine below_set ?_ GE319.out | refine below_set ?_ GE331.out | refine below_set ?_ GE341.out) | exact HB.out))) : w.heap.size ≤ gb347)); have n8_ := Aside0.mk ((by rw [hg]; exact Nat.ne_of_lt (blk_lt (g := gb319) (o := .cells #[.slice A0_0 l0_0.length c0_0, .int .i64 a0_1, .int .i64 a0_2, .string a0_3, .int .i64 a0_4] 26 (0, 0)) (by (with_reducible repeat (first | refine blk_drewN ?_ _ | refine blk_drew ?_ | refine blk_alloc ?_ _)); exact BK319.out)) : gb319 ≠ gb347)); have n9_ := Aside0.mk ((by rw [hg]; exact Nat.ne_of_gt (blk_lt (g := gb319) (o := .cells #[.slice A0_0 l0_0.length c0_0, .int .i64 a0_1, .int .i64 a0_2, .string a0_3, .int .i64 a0_4] 26 (0, 0)) (by (with_reducible repeat (first | refine blk_drewN ?_ _ | refine blk_drew ?_ | refine blk_alloc ?_ _)); exact BK319.out)) : gb347 ≠ gb319)); have n10_ := Aside0.mk ((by rw [hg]; exact Nat.ne_of_lt (blk_lt (g := gb331) (o := .cells #[.int .i64 t326, .string t327, .int .i64 t328] 24 (0, 0)) (by (with_reducible repeat (first | refine blk_drewN ?_ _ | refine blk_drew ?_ | refine blk_alloc ?_ _)); exact BK331.out)) : gb331 ≠ gb347)); have n11_ := Aside0.mk ((by rw [hg]; exact Nat.ne_of_gt (blk_lt (g := gb331) (o := .cells #[.int .i64 t326, .string t327, .int .i64 t328] 24 (0, 0)) (by (with_reducible repeat (first | refine blk_drewN ?_ _ | refine blk_drew ?_ | refine blk_alloc ?_ _)); exact BK331.out)) : gb347 ≠ gb331)); have n12_ := Aside0.mk ((by rw [hg]; exact Nat.ne_of_lt (blk_lt (g := gb341) (o := .cells #[.int .i64 a0_2, .string a0_3, .int .i64 x342002_46] 24 (0, 0)) (by (with_reducible repeat (first | refine blk_drewN ?_ _ | refine blk_drew ?_ | refine blk_alloc ?_ _)); exact BK341.out)) : gb341 ≠ gb347)); have n13_ := Aside0.mk ((by rw [hg]; exact Nat.ne_of_gt (blk_lt (g := gb341) (o := .cells #[.int .i64 a0_2, .string a0_3, .int .i64 x342002_46] 24 (0, 0)) (by (with_reducible repeat (first | refine blk_drewN ?_ _ | refine blk_drew ?_ | refine blk_alloc ?_ _)); exact BK341.out)) : gb347 ≠ gb341)); clear HO_11; clear BK319; clear BK331; clear BK341; clear HB; have HO_11 := n0_; have BK319 := n1_; have BK331 := n2_; have BK341 := n3_; have HB := n4_; have BK347 := n5_; have GW347 := n6_; have GE347 := n7_; have NB319_347 := n8_; have NB347_319 := n9_; have NB331_347 := n10_; have NB347_331 := n11_; have NB341_347 := n12_; have NB347_341 := n13_; clear n0_ n1_ n2_ n3_ n4_ n5_ n6_ n7_ n8_ n9_ n10_ n11_ n12_ n13_; clear hb hbox hg; have hnb68 := NB347_319.out; have hnc68 := NB319_347.out; have hnb69 := NB347_331.out; have hnc69 := NB331_347.out; have hnb70 := NB347_341.out; have hnc70 := NB341_347.out; have hcz71_0 : w67.cell? ⟨gb347, 0, none⟩ = some (.int .i64 0) := (blk_cell BK347.out 0).trans rfl; have hcz71_1 : w67.cell? ⟨gb347, 1, none⟩ = some (.string (⟨#[]⟩ : ByteArray)) := (blk_cell BK347.out 1).trans rfl; have hcz71_2 : w67.cell? ⟨gb347, 2, none⟩ = some (.int .i64 0) := (blk_cell BK347.out 2).trans rfl; have hfz71_0 := blk_frozen BK347.out 0; have hfz71_1 := blk_frozen BK347.out 1; have hfz71_2 := blk_frozen BK347.out 2))
                          (try simp only [Act.put, List.setIfInBounds_toArray, List.set_cons_zero, List.set_cons_succ])
                          go_cut [144] (fun v144 wc => ∃ (kq : Nat) (x144_59 : Bool), v144 = .bool x144_59 ∧ Aside0 (emulatorlaw26_AsmexprMoves.j4 kq a2 t329 t330 t345 t346 x144_59 t326 t327 t328 t342 t343 t344 = some r) ∧ Aside0 (kq ≤ kj46) ∧ Aside0 (wc.heap[gb319]? = some (.cells #[(.slice A0_0 l0_0.length c0_0), .int .i64 a0_1, .int .i64 a0_2, .string a0_3, .int .i64 a0_4] 26 (0, 0))) ∧ Aside0 (wc.heap[gb331]? = some (.cells #[.int .i64 t326, .string t327, .int .i64 t328] 24 (0, 0))) ∧ Aside0 (wc.heap[gb341]? = some (.cells #[.int .i64 a0_2, .string a0_3, .int .i64 x342002_46] 24 (0, 0))) ∧ Aside0 (wc.heap[gb347]? = some (.cells #[.int .i64 t342, .string t343, .int .i64 t344] 24 (0, 0))) ∧ Aside0 (Below w.heap.size w wc))
                          case first =>
                            have H := HC60.out
                            clear HC60
                            by_cases c72 : t330 = 0
                            · rw [if_pos c72] at H
                              have c72b0 : (t330 == 0) = true := beq_iff_eq.mpr c72
                              have c72b1 : (t330 != 0) = false := bne_eq_false_iff_eq.mpr c72
                              clear c72
                              (first | rw [c72b0] | (simp only [i64_w, i32_w]; rw [c72b0]) | skip)
                              have H' := Aside0.mk H
                              clear H
                              go_wp2
                              go_meet
                              case rel => exact ⟨_, ((t346 != 0)), (by first | rfl | (simp; done) | (simp [*]; done)), H', ⟨by have := HJ3.out; have := HK2.out; have := HK3.out; have := HJ46.out; first | omega | exact Nat.le_refl _⟩, ⟨by (with_reducible repeat (first | refine blk_drewN ?_ _ | refine blk_drew ?_ | refine blk_alloc ?_ _)); refine blk_far ?_ NB319_347.out _; (with_reducible repeat (first | refine blk_drewN ?_ _ | refine blk_drew ?_ | refine blk_alloc ?_ _)); refine blk_far ?_ NB319_347.out _; (with_reducible repeat (first | refine blk_drewN ?_ _ | refine blk_drew ?_ | refine blk_alloc ?_ _)); refine blk_far ?_ NB319_347.out _; (with_reducible repeat (first | refine blk_drewN ?_ _ | refine blk_drew ?_ | refine blk_alloc ?_ _)); exact BK319.out⟩, ⟨by (with_reducible repeat (first | refine blk_drewN ?_ _ | refine blk_drew ?_ | refine blk_alloc ?_ _)); refine blk_far ?_ NB331_347.out _; (with_reducible repeat (first | refine blk_drewN ?_ _ | refine blk_drew ?_ | refine blk_alloc ?_ _)); refine blk_far ?_ NB331_347.out _; (with_reducible repeat (first | refine blk_drewN ?_ _ | refine blk_drew ?_ | refine blk_alloc ?_ _)); refine blk_far ?_ NB331_347.out _; (with_reducible repeat (first | refine blk_drewN ?_ _ | refine blk_drew ?_ | refine blk_alloc ?_ _)); exact BK331.out⟩, ⟨by (with_reducible repeat (first | refine blk_drewN ?_ _ | refine blk_drew ?_ | refine blk_alloc ?_ _)); refine blk_far ?_ NB341_347.out _; (with_reducible repeat (first | refine blk_drewN ?_ _ | refine blk_drew ?_ | refine blk_alloc ?_ _)); refine blk_far ?_ NB341_347.out _; (with_reducible repeat (first | refine blk_drewN ?_ _ | refine blk_drew ?_ | refine blk_alloc ?_ _)); refine blk_far ?_ NB341_347.out _; (with_reducible repeat (first | refine blk_drewN ?_ _ | refine blk_drew ?_ | refine blk_alloc ?_ _)); exact BK341.out⟩, ⟨by (with_reducible repeat (first | refine blk_drewN ?_ _ | refine blk_drew ?_ | refine blk_alloc ?_ _)); refine blk_put (cs := #[.int .i64 t342, .string t343, .int .i64 0]) ?_ 2 _ rfl; (with_reducible repeat (first | refine blk_drewN ?_ _ | refine blk_drew ?_ | refine blk_alloc ?_ _)); refine blk_put (cs := #[.int .i64 t342, .string (⟨#[]⟩ : ByteArray), .int .i64 0]) ?_ 1 _ rfl; (with_reducible repeat (first | refine blk_drewN ?_ _ | refine blk_drew ?_ | refine blk_alloc ?_ _)); refine blk_put (cs := #[.int .i64 0, .string (⟨#[]⟩ : ByteArray), .int .i64 0]) ?_ 0 _ rfl; (with_reducible repeat (first | refine blk_drewN ?_ _ | refine blk_drew ?_ | refine blk_alloc ?_ _)); exact BK347.out⟩, ⟨by repeat (first | (with_reducible first | exact HB.out | apply below_alloc | apply pw_below_drewN | apply below_drew1 | refine below_set ?_ GE319.out | refine below_set ?_ GE331.out | refine below_set ?_ GE341.out | refine below_set ?_ GE347.out) | exact HB.out)⟩⟩
                            · rw [if_neg c72] at H
                              have c72b0 : (t330 == 0) = false := beq_eq_false_iff_ne.mpr c72
                              have c72b1 : (t330 != 0) = true := bne_iff_ne.mpr c72
                              (first | rw [c72b0] | (simp only [i64_w, i32_w]; rw [c72b0]) | skip)
                              have H' := Aside0.mk H
                              clear H
                              go_wp2
                              go_meet
                              case rel => exact ⟨_, (true), (by first | rfl | (simp; done) | (simp [*]; done)), H', ⟨by have := HJ3.out; have := HK2.out; have := HK3.out; have := HJ46.out; first | omega | exact Nat.le_refl _⟩, ⟨by (with_reducible repeat (first | refine blk_drewN ?_ _ | refine blk_drew ?_ | refine blk_alloc ?_ _)); refine blk_far ?_ NB319_347.out _; (with_reducible repeat (first | refine blk_drewN ?_ _ | refine blk_drew ?_ | refine blk_alloc ?_ _)); refine blk_far ?_ NB319_347.out _; (with_reducible repeat (first | refine blk_drewN ?_ _ | refine blk_drew ?_ | refine blk_alloc ?_ _)); refine blk_far ?_ NB319_347.out _; (with_reducible repeat (first | refine blk_drewN ?_ _ | refine blk_drew ?_ | refine blk_alloc ?_ _)); exact BK319.out⟩, ⟨by (with_reducible repeat (first | refine blk_drewN ?_ _ | refine blk_drew ?_ | refine blk_alloc ?_ _)); refine blk_far ?_ NB331_347.out _; (with_reducible repeat (first | refine blk_drewN ?_ _ | refine blk_drew ?_ | refine blk_alloc ?_ _)); refine blk_far ?_ NB331_347.out _; (with_reducible repeat (first | refine blk_drewN ?_ _ | refine blk_drew ?_ | refine blk_alloc ?_ _)); refine blk_far ?_ NB331_347.out _; (with_reducible repeat (first | refine blk_drewN ?_ _ | refine blk_drew ?_ | refine blk_alloc ?_ _)); exact BK331.out⟩, ⟨by (with_reducible repeat (first | refine blk_drewN ?_ _ | refine blk_drew ?_ | refine blk_alloc ?_ _)); refine blk_far ?_ NB341_347.out _; (with_reducible repeat (first | refine blk_drewN ?_ _ | refine blk_drew ?_ | refine blk_alloc ?_ _)); refine blk_far ?_ NB341_347.out _; (with_reducible repeat (first | refine blk_drewN ?_ _ | refine blk_drew ?_ | refine blk_alloc ?_ _)); refine blk_far ?_ NB341_347.out _; (with_reducible repeat (first | refine blk_drewN ?_ _ | refine blk_drew ?_ | refine blk_alloc ?_ _)); exact BK341.out⟩, ⟨by (with_reducible repeat (first | refine blk_drewN ?_ _ | refine blk_drew ?_ | refine blk_alloc ?_ _)); refine blk_put (cs := #[.int .i64 t342, .string t343, .int .i64 0]) ?_ 2 _ rfl; (with_reducible repeat (first | refine blk_drewN ?_ _ | refine blk_drew ?_ | refine blk_alloc ?_ _)); refine blk_put (cs := #[.int .i64 t342, .string (⟨#[]⟩ : ByteArray), .int .i64 0]) ?_ 1 _ rfl; (with_reducible repeat (first | refine blk_drewN ?_ _ | refine blk_drew ?_ | refine blk_alloc ?_ _)); refine blk_put (cs := #[.int .i64 0, .string (⟨#[]⟩ : ByteArray), .int .i64 0]) ?_ 0 _ rfl; (with_reducible repeat (first | refine blk_drewN ?_ _ | refine blk_drew ?_ | refine blk_alloc ?_ _)); exact BK347.out⟩, ⟨by repeat (first | (with_reducible first | exact HB.out | apply below_alloc | apply pw_below_drewN | apply below_drew1 | refine below_set ?_ GE319.out | refine below_set ?_ GE331.out | refine below_set ?_ GE341.out | refine below_set ?_ GE347.out) | exact HB.out)⟩⟩
                          case rest =>
                            clear HC60
                            try clear c1
                            try clear c2
                            try clear p2
                            try clear c3
                            try clear p3
                            try clear q3
                            try clear hx3
                            try clear c4
                            try clear p4
                            try clear q4
                            try clear hx4
                            try clear hf4
                            try clear c5
                            try clear c6
                            try clear p6
                            try clear c7
                            try clear c9
                            try clear c9b0
                            try clear c9b1
                            try clear c11
                            try clear c12
                            try clear c14
                            try clear c14b0
                            try clear c14b1
                            try clear c19
                            try clear c20
                            try clear c20b0
                            try clear c21
                            try clear c21b0
                            try clear c22
                            try clear c22b0
                            try clear c22b1
                            try clear c23
                            try clear c23b0
                            try clear c23b1
                            try clear c25
                            try clear c25b0
                            try clear c25b1
                            try clear c30
                            try clear p32
                            try clear q32
                            try clear hx32
                            try clear p33
                            try clear q33
                            try clear hx33
                            try clear c34
                            try clear c39
                            try clear c39b0
                            try clear c40
                            try clear c40b0
                            try clear c41
                            try clear c41b0
                            try clear c41b1
                            try clear c42
                            try clear p42
                            try clear q42
                            try clear hx42
                            try clear hf42
                            try clear c44
                            try clear hx44
                            try clear hf44
                            try clear c49
                            try clear c52
                            try clear c53
                            try clear c55
                            try clear c55b0
                            try clear c55b1
                            try clear c56
                            try clear c57
                            try clear c61
                            try clear c62
                            try clear c64
                            try clear p64
                            try clear c68
                            try clear c69
                            try clear c70
                            try clear c72
                            try clear c72b0
                            try clear c72b1
                            try clear hcz10_0
                            try clear hcz10_1
                            try clear hcz10_2
                            try clear hcz10_3
                            try clear hcz10_4
                            try clear hcz13_0
                            try clear hcz13_1
                            try clear hcz13_2
                            try clear hcz13_3
                            try clear hcz13_4
                            try clear hcz15_0
                            try clear hcz15_1
                            try clear hcz15_2
                            try clear hcz15_3
                            try clear hcz15_4
                            try clear hcz17_0
                            try clear hcz17_1
                            try clear hcz17_2
                            try clear hcz17_3
                            try clear hcz17_4
                            try clear hcz24_0
                            try clear hcz24_1
                            try clear hcz24_2
                            try clear hcz24_3
                            try clear hcz24_4
                            try clear hcz26_0
                            try clear hcz26_1
                            try clear hcz26_2
                            try clear hcz26_3
                            try clear hcz26_4
                            try clear hcz27_0
                            try clear hcz27_1
                            try clear hcz27_2
                            try clear hcz27_3
                            try clear hcz27_4
                            try clear hcz28_0
                            try clear hcz28_1
                            try clear hcz28_2
                            try clear hcz28_3
                            try clear hcz28_4
                            try clear hcz31_0
                            try clear hcz31_1
                            try clear hcz31_2
                            try clear hcz31_3
                            try clear hcz31_4
                            try clear hcz35_0
                            try clear hcz35_1
                            try clear hcz35_2
                            try clear hcz50_0
                            try clear hcz50_1
                            try clear hcz50_2
                            try clear hcz50_3
                            try clear hcz50_4
                            try clear hcz54_0
                            try clear hcz54_1
                            try clear hcz54_2
                            try clear hcz58_0
                            try clear hcz58_1
                            try clear hcz58_2
                            try clear hcz63_0
                            try clear hcz63_1
                            try clear hcz63_2
                            try clear hcz63_3
                            try clear hcz63_4
                            try clear hcz65_0
                            try clear hcz65_1
                            try clear hcz65_2
                            try clear hcz71_0
                            try clear hcz71_1
                            try clear hcz71_2
                            try clear hcz8_0
                            try clear hcz8_1
                            try clear hcz8_2
                            try clear hcz8_3
                            try clear hcz8_4
                            try clear hfz10_0
                            try clear hfz10_1
                            try clear hfz10_2
                            try clear hfz10_3
                            try clear hfz10_4
                            try clear hfz13_0
                            try clear hfz13_1
                            try clear hfz13_2
                            try clear hfz13_3
                            try clear hfz13_4
                            try clear hfz15_0
                            try clear hfz15_1
                            try clear hfz15_2
                            try clear hfz15_3
                            try clear hfz15_4
                            try clear hfz17_0
                            try clear hfz17_1
                            try clear hfz17_2
                            try clear hfz17_3
                            try clear hfz17_4
                            try clear hfz24_0
                            try clear hfz24_1
                            try clear hfz24_2
                            try clear hfz24_3
                            try clear hfz24_4
                            try clear hfz26_0
                            try clear hfz26_1
                            try clear hfz26_2
                            try clear hfz26_3
                            try clear hfz26_4
                            try clear hfz27_0
                            try clear hfz27_1
                            try clear hfz27_2
                            try clear hfz27_3
                            try clear hfz27_4
                            try clear hfz28_0
                            try clear hfz28_1
                            try clear hfz28_2
                            try clear hfz28_3
                            try clear hfz28_4
                            try clear hfz31_0
                            try clear hfz31_1
                            try clear hfz31_2
                            try clear hfz31_3
                            try clear hfz31_4
                            try clear hfz35_0
                            try clear hfz35_1
                            try clear hfz35_2
                            try clear hfz50_0
                            try clear hfz50_1
                            try clear hfz50_2
                            try clear hfz50_3
                            try clear hfz50_4
                            try clear hfz54_0
                            try clear hfz54_1
                            try clear hfz54_2
                            try clear hfz58_0
                            try clear hfz58_1
                            try clear hfz58_2
                            try clear hfz63_0
                            try clear hfz63_1
                            try clear hfz63_2
                            try clear hfz63_3
                            try clear hfz63_4
                            try clear hfz65_0
                            try clear hfz65_1
                            try clear hfz65_2
                            try clear hfz71_0
                            try clear hfz71_1
                            try clear hfz71_2
                            try clear hfz8_0
                            try clear hfz8_1
                            try clear hfz8_2
                            try clear hfz8_3
                            try clear hfz8_4
                            try clear hx323_0
                            try clear hx323_1
                            try clear hx323_2
                            try clear hx323_3
                            try clear hx324_0
                            try clear hx324_1
                            try clear hx324_2
                            try clear hx324_3
                            try clear hx325_0
                            try clear hx325_1
                            try clear hx325_2
                            try clear hx325_3
                            try clear hx338_0
                            try clear hx338_1
                            try clear hx338_2
                            try clear hx338_3
                            try clear hx339_0
                            try clear hx339_1
                            try clear hx339_2
                            try clear hx339_3
                            try clear hx42_0
                            try clear hx42_1
                            try clear hx42_2
                            try clear hx42_3
                            try clear hx44_2
                            try clear p2
                            try clear p3
                            try clear p32
                            try clear p323
                            try clear p324
                            try clear p325
                            try clear p33
                            try clear p338
                            try clear p339
                            try clear p4
                            try clear p42
                            try clear p6
                            try clear q3
                            try clear q32
                            try clear q323
                            try clear q324
                            try clear q325
                            try clear q33
                            try clear q338
                            try clear q339
                            try clear q4
                            try clear q42
                            obtain ⟨kq, x144_59, rfl, HA, HJ59, BK319, BK331, BK341, BK347, HB⟩ := hcut
                            cases kq with
                            | zero => exact absurd HA.out (by simp [emulatorlaw26_AsmexprMoves.j4])
                            | succ kj59 =>
                              have H := HA.out
                              clear HA
                              simp only [emulatorlaw26_AsmexprMoves.j4] at H
                              by_cases c73 : x144_59 = true
                              · subst c73
                                have H1 : (if t330 = t346 then (if t329 = t345 then ((emulatorlaw26_alive.f).bind fun t348 => (some t348)) else (some false)) else (some false)) = some r := by rw [if_pos rfl] at H; exact H
                                clear H
                                have H := H1
                                clear H1
                                by_cases c74 : t330 = t346
                                · rw [if_pos c74] at H
                                  have c74b0 : (t330 == t346) = true := beq_iff_eq.mpr c74
                                  have c74b1 : (t330 != t346) = false := bne_eq_false_iff_eq.mpr c74
                                  clear c74
                                  by_cases c75 : t329 = t345
                                  · rw [if_pos c75] at H
                                    have c75b0 : (t329 == t345) = true := beq_iff_eq.mpr c75
                                    have c75b1 : (t329 != t345) = false := bne_eq_false_iff_eq.mpr c75
                                    clear c75
                                    replace H := Option.bind_eq_some_iff.mp H
                                    obtain ⟨t348, A760, H⟩ := H
                                    replace H : (some t348) = some r := H
                                    have A76 := Aside0.mk A760
                                    clear A760
                                    obtain rfl := Option.some.inj H
                                    go_wp2_with (first | (go_at_call 13; (with_reducible refine (emulatorlaw26_alive.calls  t348 _ A76.out).mono ?_); rintro e w77 ⟨rfl, hb⟩; have n0_ := Aside0.mk (blk_below (g := gb319) (o := .cells #[.slice A0_0 l0_0.length c0_0, .int .i64 a0_1, .int .i64 a0_2, .string a0_3, .int .i64 a0_4] 26 (0, 0)) (by (with_reducible repeat (first | refine blk_drewN ?_ _ | refine blk_drew ?_ | refine blk_alloc ?_ _)); exact BK319.out) hb); have n1_ := Aside0.mk (blk_below (g := gb331) (o := .cells #[.int .i64 t326, .string t327, .int .i64 t328] 24 (0, 0)) (by (with_reducible repeat (first | refine blk_drewN ?_ _ | refine blk_drew ?_ | refine blk_alloc ?_ _)); exact BK331.out) hb); have n2_ := Aside0.mk (blk_below (g := gb341) (o := .cells #[.int .i64 a0_2, .string a0_3, .int .i64 x342002_46] 24 (0, 0)) (by (with_reducible repeat (first | refine blk_drewN ?_ _ | refine blk_drew ?_ | refine blk_alloc ?_ _)); exact BK341.out) hb); have n3_ := Aside0.mk (blk_below (g := gb347) (o := .cells #[.int .i64 t342, .string t343, .int .i64 t344] 24 (0, 0)) (by (with_reducible repeat (first | refine blk_drewN ?_ _ | refine blk_drew ?_ | refine blk_alloc ?_ _)); exact BK347.out) hb); have n4_ := Aside0.mk (below_step (by repeat (first | (with_reducible first | exact HB.out | apply below_alloc | apply pw_below_drewN | apply below_drew1 | refine below_set ?_ GE319.out | refine below_set ?_ GE331.out | refine below_set ?_ GE341.out | refine below_set ?_ GE347.out) | exact HB.out)) hb); clear BK319; clear BK331; clear BK341; clear BK347; clear HB; have BK319 := n0_; have BK331 := n1_; have BK341 := n2_; have BK347 := n3_; have HB := n4_; clear n0_ n1_ n2_ n3_ n4_; (try clear hb); (try clear hb2); (try clear hk); (try clear hi)))
                                    go_ret
                                    exact ⟨by first | rfl | (simp [errW_none, errW_some] <;> rfl) | (simp [*, errW_none, errW_some] <;> rfl), by repeat (first | (with_reducible first | exact HB.out | apply below_alloc | apply pw_below_drewN | apply below_drew1 | refine below_set ?_ GE319.out | refine below_set ?_ GE331.out | refine below_set ?_ GE341.out | refine below_set ?_ GE347.out) | exact HB.out)⟩
                                  · rw [if_neg c75] at H
                                    exact absurd (H.trans (congrArg some hr_.out)) (by decide)
                                · rw [if_neg c74] at H
                                  exact absurd (H.trans (congrArg some hr_.out)) (by decide)
                              · replace c73 := Bool.eq_false_iff.mpr c73
                                subst c73
                                have H1 : (if t326 = 1 then (if (t326 == t342 && (t327.toList == t343.toList && ((Go.bits .and .i64 (wrap64 (t328 + (wrap64 (a2)))) 65535) == t344))) = true then (if t329 = t345 then ((emulatorlaw26_alive.f).bind fun t349 => (some t349)) else (some false)) else (some false)) else (if (t326 == t342 && (t327.toList == t343.toList && (t328 == t344))) = true then (if t329 = t345 then ((emulatorlaw26_alive.f).bind fun t350 => (some t350)) else (some false)) else (some false))) = some r := by rw [if_neg (show ¬ (false = true) by decide)] at H; exact H
                                clear H
                                have H := H1
                                clear H1
                                by_cases c78 : t326 = 1
                                · rw [if_pos c78] at H
                                  have c78b0 : (t326 == 1) = true := beq_iff_eq.mpr c78
                                  have c78b1 : (t326 != 1) = false := bne_eq_false_iff_eq.mpr c78
                                  clear c78
                                  by_cases c79 : (t326 == t342 && (t327.toList == t343.toList && ((Go.bits .and .i64 (wrap64 (t328 + (wrap64 (a2)))) 65535) == t344))) = true
                                  · rw [if_pos c79] at H
                                    have c79b0 : (t326 == t342 && (t327.toList == t343.toList && ((Go.bits .and .i64 (wrap64 (t328 + (wrap64 (a2)))) 65535) == t344))) = true := c79
                                    (try (have c79b1 : decide (t326 = t342 && (t327.toList == t343.toList && ((Go.bits .and .i64 (wrap64 (t328 + (wrap64 (a2)))) 65535) == t344))) = true := by simpa using c79))
                                    (try (have c79b2 : (t326 == t342 && (t327.toList == t343.toList && ((Go.bits .and .i64 (wrap64 (t328 + (wrap64 (a2)))) 65535) == t344))) = true := by simpa using c79))
                                    clear c79
                                    by_cases c80 : t329 = t345
                                    · rw [if_pos c80] at H
                                      have c80b0 : (t329 == t345) = true := beq_iff_eq.mpr c80
                                      have c80b1 : (t329 != t345) = false := bne_eq_false_iff_eq.mpr c80
                                      clear c80
                                      replace H := Option.bind_eq_some_iff.mp H
                                      obtain ⟨t349, A810, H⟩ := H
                                      replace H : (some t349) = some r := H
                                      have A81 := Aside0.mk A810
                                      clear A810
                                      obtain rfl := Option.some.inj H
                                      have hnb82 := NB331_319.out
                                      have hnc82 := NB319_331.out
                                      have hnb83 := NB331_341.out
                                      have hnc83 := NB341_331.out
                                      have hnb84 := NB331_347.out
                                      have hnc84 := NB347_331.out
                                      have hcz85_0 : wc.cell? ⟨gb331, 0, none⟩ = some (.int .i64 t326) := (blk_cell BK331.out 0).trans rfl
                                      have hcz85_1 : wc.cell? ⟨gb331, 1, none⟩ = some (.string t327) := (blk_cell BK331.out 1).trans rfl
                                      have hcz85_2 : wc.cell? ⟨gb331, 2, none⟩ = some (.int .i64 t328) := (blk_cell BK331.out 2).trans rfl
                                      have hfz85_0 := blk_frozen BK331.out 0
                                      have hfz85_1 := blk_frozen BK331.out 1
                                      have hfz85_2 := blk_frozen BK331.out 2
                                      have hnb86 := NB347_319.out
                                      have hnc86 := NB319_347.out
                                      have hnb87 := NB347_341.out
                                      have hnc87 := NB341_347.out
                                      have hcz88_0 : wc.cell? ⟨gb347, 0, none⟩ = some (.int .i64 t342) := (blk_cell BK347.out 0).trans rfl
                                      have hcz88_1 : wc.cell? ⟨gb347, 1, none⟩ = some (.string t343) := (blk_cell BK347.out 1).trans rfl
                                      have hcz88_2 : wc.cell? ⟨gb347, 2, none⟩ = some (.int .i64 t344) := (blk_cell BK347.out 2).trans rfl
                                      have hfz88_0 := blk_frozen BK347.out 0
                                      have hfz88_1 := blk_frozen BK347.out 1
                                      have hfz88_2 := blk_frozen BK347.out 2
                                      go_wp2_with (first | (go_at_call 13; (with_reducible refine (emulatorlaw26_alive.calls  t349 _ A81.out).mono ?_); rintro e w89 ⟨rfl, hb⟩; have n0_ := Aside0.mk (blk_below (g := gb319) (o := .cells #[.slice A0_0 l0_0.length c0_0, .int .i64 a0_1, .int .i64 a0_2, .string a0_3, .int .i64 a0_4] 26 (0, 0)) (by (with_reducible repeat (first | refine blk_drewN ?_ _ | refine blk_drew ?_ | refine blk_alloc ?_ _)); refine blk_far ?_ NB319_331.out _; (with_reducible repeat (first | refine blk_drewN ?_ _ | refine blk_drew ?_ | refine blk_alloc ?_ _)); exact BK319.out) hb); have n1_ := Aside0.mk (blk_below (g := gb331) (o := .cells #[.int .i64 t326, .string t327, .int .i64 (Go.bits .and .i64 (wrap64 (t328 + (wrap64 (a2)))) 65535)] 24 (0, 0)) (by (with_reducible repeat (first | refine blk_drewN ?_ _ | refine blk_drew ?_ | refine blk_alloc ?_ _)); refine blk_put (cs := #[.int .i64 t326, .string t327, .int .i64 t328]) ?_ 2 _ rfl; (with_reducible repeat (first | refine blk_drewN ?_ _ | refine blk_drew ?_ | refine blk_alloc ?_ _)); exact BK331.out) hb); have n2_ := Aside0.mk (blk_below (g := gb341) (o := .cells #[.int .i64 a0_2, .string a0_3, .int .i64 x342002_46] 24 (0, 0)) (by (with_reducible repeat (first | refine blk_drewN ?_ _ | refine blk_drew ?_ | refine blk_alloc ?_ _)); refine blk_far ?_ NB341_331.out _; (with_reducible repeat (first | refine blk_drewN ?_ _ | refine blk_drew ?_ | refine blk_alloc ?_ _)); exact BK341.out) hb); have n3_ := Aside0.mk (blk_below (g := gb347) (o := .cells #[.int .i64 t342, .string t343, .int .i64 t344] 24 (0, 0)) (by (with_reducible repeat (first | refine blk_drewN ?_ _ | refine blk_drew ?_ | refine blk_alloc ?_ _)); refine blk_far ?_ NB347_331.out _; (with_reducible repeat (first | refine blk_drewN ?_ _ | refine blk_drew ?_ | refine blk_alloc ?_ _)); exact BK347.out) hb); have n4_ := Aside0.mk (below_step (by repeat (first | (with_reducible first | exact HB.out | apply below_alloc | apply pw_below_drewN | apply below_drew1 | refine below_set ?_ GE319.out | refine below_set ?_ GE331.out | refine below_set ?_ GE341.out | refine below_set ?_ GE347.out) | exact HB.out)) hb); clear BK319; clear BK331; clear BK341; clear BK347; clear HB; have BK319 := n0_; have BK331 := n1_; have BK341 := n2_; have BK347 := n3_; have HB := n4_; clear n0_ n1_ n2_ n3_ n4_; (try clear hb); (try clear hb2); (try clear hk); (try clear hi)))
                                      go_ret
                                      exact ⟨by first | rfl | (simp [errW_none, errW_some] <;> rfl) | (simp [*, errW_none, errW_some] <;> rfl), by repeat (first | (with_reducible first | exact HB.out | apply below_alloc | apply pw_below_drewN | apply below_drew1 | refine below_set ?_ GE319.out | refine below_set ?_ GE331.out | refine below_set ?_ GE341.out | refine below_set ?_ GE347.out) | exact HB.out)⟩
                                    · rw [if_neg c80] at H
                                      exact absurd (H.trans (congrArg some hr_.out)) (by decide)
                                  · rw [if_neg c79] at H
                                    exact absurd (H.trans (congrArg some hr_.out)) (by decide)
                                · rw [if_neg c78] at H
                                  have c78b0 : (t326 == 1) = false := beq_eq_false_iff_ne.mpr c78
                                  have c78b1 : (t326 != 1) = true := bne_iff_ne.mpr c78
                                  by_cases c104 : (t326 == t342 && (t327.toList == t343.toList && (t328 == t344))) = true
                                  · rw [if_pos c104] at H
                                    have c104b0 : (t326 == t342 && (t327.toList == t343.toList && (t328 == t344))) = true := c104
                                    (try (have c104b1 : decide (t326 = t342 && (t327.toList == t343.toList && (t328 == t344))) = true := by simpa using c104))
                                    (try (have c104b2 : (t326 == t342 && (t327.toList == t343.toList && (t328 == t344))) = true := by simpa using c104))
                                    clear c104
                                    by_cases c105 : t329 = t345
                                    · rw [if_pos c105] at H
                                      have c105b0 : (t329 == t345) = true := beq_iff_eq.mpr c105
                                      have c105b1 : (t329 != t345) = false := bne_eq_false_iff_eq.mpr c105
                                      clear c105
                                      replace H := Option.bind_eq_some_iff.mp H
                                      obtain ⟨t350, A1060, H⟩ := H
                                      replace H : (some t350) = some r := H
                                      have A106 := Aside0.mk A1060
                                      clear A1060
                                      obtain rfl := Option.some.inj H
                                      have hnb107 := NB331_319.out
                                      have hnc107 := NB319_331.out
                                      have hnb108 := NB331_341.out
                                      have hnc108 := NB341_331.out
                                      have hnb109 := NB331_347.out
                                      have hnc109 := NB347_331.out
                                      have hcz110_0 : wc.cell? ⟨gb331, 0, none⟩ = some (.int .i64 t326) := (blk_cell BK331.out 0).trans rfl
                                      have hcz110_1 : wc.cell? ⟨gb331, 1, none⟩ = some (.string t327) := (blk_cell BK331.out 1).trans rfl
                                      have hcz110_2 : wc.cell? ⟨gb331, 2, none⟩ = some (.int .i64 t328) := (blk_cell BK331.out 2).trans rfl
                                      have hfz110_0 := blk_frozen BK331.out 0
                                      have hfz110_1 := blk_frozen BK331.out 1
                                      have hfz110_2 := blk_frozen BK331.out 2
                                      have hnb111 := NB347_319.out
                                      have hnc111 := NB319_347.out
                                      have hnb112 := NB347_341.out
                                      have hnc112 := NB341_347.out
                                      have hcz113_0 : wc.cell? ⟨gb347, 0, none⟩ = some (.int .i64 t342) := (blk_cell BK347.out 0).trans rfl
                                      have hcz113_1 : wc.cell? ⟨gb347, 1, none⟩ = some (.string t343) := (blk_cell BK347.out 1).trans rfl
                                      have hcz113_2 : wc.cell? ⟨gb347, 2, none⟩ = some (.int .i64 t344) := (blk_cell BK347.out 2).trans rfl
                                      have hfz113_0 := blk_frozen BK347.out 0
                                      have hfz113_1 := blk_frozen BK347.out 1
                                      have hfz113_2 := blk_frozen BK347.out 2
                                      go_wp2_with (first | (go_at_call 13; (with_reducible refine (emulatorlaw26_alive.calls  t350 _ A106.out).mono ?_); rintro e w114 ⟨rfl, hb⟩; have n0_ := Aside0.mk (blk_below (g := gb319) (o := .cells #[.slice A0_0 l0_0.length c0_0, .int .i64 a0_1, .int .i64 a0_2, .string a0_3, .int .i64 a0_4] 26 (0, 0)) (by (with_reducible repeat (first | refine blk_drewN ?_ _ | refine blk_drew ?_ | refine blk_alloc ?_ _)); exact BK319.out) hb); have n1_ := Aside0.mk (blk_below (g := gb331) (o := .cells #[.int .i64 t326, .string t327, .int .i64 t328] 24 (0, 0)) (by (with_reducible repeat (first | refine blk_drewN ?_ _ | refine blk_drew ?_ | refine blk_alloc ?_ _)); exact BK331.out) hb); have n2_ := Aside0.mk (blk_below (g := gb341) (o := .cells #[.int .i64 a0_2, .string a0_3, .int .i64 x342002_46] 24 (0, 0)) (by (with_reducible repeat (first | refine blk_drewN ?_ _ | refine blk_drew ?_ | refine blk_alloc ?_ _)); exact BK341.out) hb); have n3_ := Aside0.mk (blk_below (g := gb347) (o := .cells #[.int .i64 t342, .string t343, .int .i64 t344] 24 (0, 0)) (by (with_reducible repeat (first | refine blk_drewN ?_ _ | refine blk_drew ?_ | refine blk_alloc ?_ _)); exact BK347.out) hb); have n4_ := Aside0.mk (below_step (by repeat (first | (with_reducible first | exact HB.out | apply below_alloc | apply pw_below_drewN | apply below_drew1 | refine below_set ?_ GE319.out | refine below_set ?_ GE331.out | refine below_set ?_ GE341.out | refine below_set ?_ GE347.out) | exact HB.out)) hb); clear BK319; clear BK331; clear BK341; clear BK347; clear HB; have BK319 := n0_; have BK331 := n1_; have BK341 := n2_; have BK347 := n3_; have HB := n4_; clear n0_ n1_ n2_ n3_ n4_; (try clear hb); (try clear hb2); (try clear hk); (try clear hi)))
                                      go_ret
                                      exact ⟨by first | rfl | (simp [errW_none, errW_some] <;> rfl) | (simp [*, errW_none, errW_some] <;> rfl), by repeat (first | (with_reducible first | exact HB.out | apply below_alloc | apply pw_below_drewN | apply below_drew1 | refine below_set ?_ GE319.out | refine below_set ?_ GE331.out | refine below_set ?_ GE341.out | refine below_set ?_ GE347.out) | exact HB.out)⟩
                                    · rw [if_neg c105] at H
                                      exact absurd (H.trans (congrArg some hr_.out)) (by decide)
                                  · rw [if_neg c104] at H
                                    exact absurd (H.trans (congrArg some hr_.out)) (by decide)
              · rw [if_neg c30] at H
                exact absurd H (by simp)
end Go.Proofs.Ytpinoobgnnlccaa.A

/- AsmexprMoves: true, whatever the input. -/
namespace Go.Proofs.Ytpinoobgnnlccaa.A
open Go Go.RowKit Go.Proofs.YtpinoobgnnlccaaW.PrintWords
set_option linter.unusedSimpArgs false
set_option linter.unusedVariables false
theorem fits_of2 {L : List S38} (h : L.length ≤ 100 ∧ ∀ x ∈ L, x.f1.size ≤ 100) : fits L = true := by
  unfold fits
  simp only [Bool.and_eq_true, decide_eq_true_eq, List.all_eq_true]
  exact ⟨by omega, fun x hx => by have := h.2 x hx; omega⟩
theorem eval_f2 (L : List S38) (S : List S44) (h : VV) (a : Int) (hf : fits L = true) (hS : S.length ≤ 1000) (hh : h.2.1.size ≤ 1000) : asmexpr_Eval.f L a S h.1 h.2.1 h.2.2 = outR (evalS L S h a) := by
  unfold asmexpr_Eval.f; rw [if_pos ⟨hf, hS, hh⟩]
theorem w64_mod (n : Int) : wrap64 n % 65536 = n % 65536 := by unfold wrap64; omega
/-- a value of section 1, moved -/
def mv (b : Int) (v : VV) : VV := if v.1 = 1 then (v.1, v.2.1, wrp (wrap64 (v.2.2 + wrap64 b))) else v
def mvR (b : Int) (r : RR) : RR := (mv b r.1, r.2.1, r.2.2)
def mvE (b : Int) (r : VE) : VE := (mv b r.1, r.2)
theorem mv_v0 (b : Int) : mv b v0 = v0 := rfl
theorem mv_re (b e : Int) : mvR b (re e) = re e := rfl
theorem mv_sec (b : Int) (v : VV) : (mv b v).1 = v.1 := by unfold mv; by_cases c : v.1 = 1 <;> simp [c]
theorem mv_txt (b : Int) (v : VV) : (mv b v).2.1 = v.2.1 := by unfold mv; by_cases c : v.1 = 1 <;> simp [c]
theorem mv_num (b : Int) (v : VV) : (mv b v).2.2 % 65536 = (if v.1 = 1 then (v.2.2 + b) else v.2.2) % 65536 := by
  unfold mv
  by_cases c : v.1 = 1
  · simp only [if_pos c]; rw [wrp_eq, w64_mod]; have := w64_mod b; omega
  · simp only [if_neg c]
theorem wrp_cong {x y : Int} (h : x % 65536 = y % 65536) : wrp x = wrp y := by rw [wrp_eq, wrp_eq, h]
theorem mv_mk (b : Int) (c : Int) (s : ByteArray) (n m : Int) (h : m % 65536 = (if c = 1 then n + b else n) % 65536) : (c, s, wrp m) = mv b (c, s, wrp n) := by
  unfold mv
  by_cases d : c = 1
  · rw [if_pos d] at h
    rw [if_pos (show (c, s, wrp n).1 = 1 from d)]
    have e : wrp m = wrp (wrap64 (wrp n + wrap64 b)) := wrp_cong (by rw [w64_mod, wrp_eq]; have := w64_mod b; omega)
    rw [e]
  · rw [if_neg d] at h
    rw [if_neg (show ¬ (c, s, wrp n).1 = 1 from d)]
    rw [wrp_cong h]
theorem mv_zero {b : Int} {v : VV} (h : v.1 ≠ 1) : mv b v = v := by unfold mv; rw [if_neg h]
theorem mv_add (b : Int) (x y : VV) : addS (mv b x) (mv b y) = mvE b (addS x y) := by
  unfold addS mvE
  rw [mv_sec, mv_sec, mv_txt, mv_txt]
  have hx := mv_num b x
  have hy := mv_num b y
  by_cases c : y.1 = 0
  · rw [if_pos c, if_pos c]
    rw [if_neg (by omega)] at hy
    congr 1
    refine mv_mk b _ _ _ _ ?_
    rw [w64_mod]
    have := w64_mod (x.2.2 + y.2.2)
    by_cases d : x.1 = 1
    · rw [if_pos d] at hx ⊢; omega
    · rw [if_neg d] at hx ⊢; omega
  · rw [if_neg c, if_neg c]
    by_cases c2 : x.1 = 0
    · rw [if_pos c2, if_pos c2]
      rw [if_neg (by omega)] at hx
      congr 1
      refine mv_mk b _ _ _ _ ?_
      rw [w64_mod]
      have := w64_mod (y.2.2 + x.2.2)
      by_cases d : y.1 = 1
      · rw [if_pos d] at hy ⊢; omega
      · rw [if_neg d] at hy ⊢; omega
    · rw [if_neg c2, if_neg c2]; rfl
theorem mv_sub (b : Int) (x y : VV) : subS (mv b x) (mv b y) = mvE b (subS x y) := by
  unfold subS mvE
  rw [mv_sec, mv_sec, mv_txt]
  have hx := mv_num b x
  have hy := mv_num b y
  by_cases c : y.1 = 0
  · rw [if_pos c, if_pos c]
    rw [if_neg (by omega)] at hy
    congr 1
    refine mv_mk b _ _ _ _ ?_
    rw [w64_mod]
    have := w64_mod (x.2.2 + wrap64 (-y.2.2))
    have := w64_mod (-y.2.2)
    have := w64_mod (-(mv b y).2.2)
    by_cases d : x.1 = 1
    · rw [if_pos d] at hx ⊢; omega
    · rw [if_neg d] at hx ⊢; omega
  · rw [if_neg c, if_neg c]
    by_cases c2 : x.1 = y.1 ∧ x.1 ≠ 4
    · rw [if_pos c2, if_pos c2]
      congr 1
      refine mv_mk b _ _ _ _ ?_
      rw [w64_mod, if_neg (by omega), w64_mod]
      by_cases d : x.1 = 1
      · rw [if_pos d] at hx; rw [if_pos (by omega)] at hy; omega
      · rw [if_neg d] at hx; rw [if_neg (by omega)] at hy; omega
    · rw [if_neg c2, if_neg c2]; rfl
/-- the symbol of section 1, moved -/
def mvS (b : Int) (x : S44) : S44 := if x.f1 = 1 then ⟨x.f0, x.f1, wrap64 ((Go.bits .and .i64 x.f2 65535) + wrap64 b), x.f3⟩ else x
theorem mvS_f0 (b : Int) (x : S44) : (mvS b x).f0 = x.f0 := by unfold mvS; by_cases c : x.f1 = 1 <;> simp [c]
theorem mvS_f1 (b : Int) (x : S44) : (mvS b x).f1 = x.f1 := by unfold mvS; by_cases c : x.f1 = 1 <;> simp [c]
theorem mv_named (b : Int) (S : List S44) (s : ByteArray) : namedS (S.map (mvS b)) s = mv b (namedS S s) := by
  unfold namedS
  have e : (S.map (mvS b)).find? (fun x => x.f0.toList == s.toList) = (S.find? (fun x => x.f0.toList == s.toList)).map (mvS b) := by
    rw [List.find?_map]
    congr 2
    funext x
    simp only [Function.comp, mvS_f0]
  rw [e]
  cases S.find? (fun x => x.f0.toList == s.toList) with
  | none => rfl
  | some x =>
    simp only [Option.map_some, mvS_f1]
    by_cases c : 0 ≤ x.f1 ∧ x.f1 ≤ 3
    · rw [if_pos c, if_pos c]
      refine mv_mk b _ _ _ _ ?_
      unfold mvS
      by_cases d : x.f1 = 1
      · rw [if_pos d, if_pos d]
        show wrap64 (wrp x.f2 + wrap64 b) % 65536 = _
        rw [w64_mod, wrp_eq]; have := w64_mod b; omega
      · rw [if_neg d, if_neg d]
    · rw [if_neg c, if_neg c]; rfl
def PM (L : List S38) : Prop := ∀ p, p < L.length → (rd_T38 L (p : Int)).f0 = 4 → (rd_T38 L (p : Int)).f1.toList = [43] ∨ (rd_T38 L (p : Int)).f1.toList = [45]
section
variable {L : List S38} {S : List S44} {h : VV} {b : Int}
theorem mv_atom (p : Nat) : atomS L (S.map (mvS b)) (mv b h) p = mvR b (atomS L S h p) := by
  unfold atomS
  by_cases c : L.length ≤ p
  · rw [if_pos c, if_pos c]; rfl
  · rw [if_neg c, if_neg c]
    have e : ∀ t : S38, atomT (S.map (mvS b)) (mv b h) t = mvE b (atomT S h t) := fun t => by
      unfold atomT
      by_cases c1 : t.f0 = 2
      · rw [if_pos c1, if_pos c1]; unfold mvE; rw [mv_zero (by simp)]
      · rw [if_neg c1, if_neg c1]
        by_cases c2 : t.f0 = 1 ∧ sIs t.f1 [46] = true
        · rw [if_pos c2, if_pos c2]; rfl
        · rw [if_neg c2, if_neg c2]
          by_cases c3 : t.f0 = 1 ∧ nameS t.f1 = true
          · rw [if_pos c3, if_pos c3, mv_named]; rfl
          · rw [if_neg c3, if_neg c3]; rfl
    rw [e]
    unfold mvE
    by_cases c2 : (atomT S h (rd_T38 L (p : Int))).2 = 0
    · rw [if_pos c2, if_pos c2]; rfl
    · rw [if_neg c2, if_neg c2]; rfl
theorem mv_op (hP : PM L) {p : Nat} (hp : isOp (symS L p) = true) (x y : VV) : opS (symS L p) (mv b x) (mv b y) = mvE b (opS (symS L p) x y) := by
  obtain ⟨o1, o2, o3⟩ := op_at hp
  rw [o3]
  unfold opS
  rcases hP p o1 o2 with g | g
  · have e : sIs (rd_T38 L (p : Int)).f1 [43] = true := by unfold sIs; simp [g]
    rw [if_pos e, if_pos e]; exact mv_add b x y
  · have e : ¬ sIs (rd_T38 L (p : Int)).f1 [43] = true := by unfold sIs; simp [g]
    have e2 : sIs (rd_T38 L (p : Int)).f1 [45] = true := by unfold sIs; simp [g]
    rw [if_neg e, if_pos e2, if_neg e, if_pos e2]; exact mv_sub b x y
theorem mv_loop (hP : PM L) {tm tm' : Nat → RR} (hT : ∀ p, tm' p = mvR b (tm p)) : ∀ n v p, loopS L tm' n (mv b v) p = mvR b (loopS L tm n v p) := by
  intro n
  induction n with
  | zero => intro v p; rfl
  | succ n ih =>
    intro v p
    unfold loopS
    by_cases c : isOp (symS L p) = true
    · rw [if_pos c, if_pos c, hT]
      show (if (tm (p + 1)).2.2 = 0 then if (opS (symS L p) (mv b v) (mv b (tm (p + 1)).1)).2 = 0 then loopS L tm' n (opS (symS L p) (mv b v) (mv b (tm (p + 1)).1)).1 (tm (p + 1)).2.1 else re (opS (symS L p) (mv b v) (mv b (tm (p + 1)).1)).2 else re (tm (p + 1)).2.2) = _
      rw [mv_op hP c]
      by_cases c2 : (tm (p + 1)).2.2 = 0
      · rw [if_pos c2, if_pos c2]
        unfold mvE
        by_cases c3 : (opS (symS L p) v (tm (p + 1)).1).2 = 0
        · rw [if_pos c3, if_pos c3]; exact ih _ _
        · rw [if_neg c3, if_neg c3]; rfl
      · rw [if_neg c2, if_neg c2]; rfl
    · rw [if_neg c, if_neg c]; rfl
theorem mv_expr (hP : PM L) {tm tm' : Nat → RR} (hT : ∀ p, tm' p = mvR b (tm p)) (p : Nat) : exprS L tm' p = mvR b (exprS L tm p) := by
  unfold exprS
  rw [hT]
  by_cases c : (tm p).2.2 = 0
  · rw [if_pos c, if_pos (show (mvR b (tm p)).2.2 = 0 from c)]; exact mv_loop hP hT _ _ _
  · rw [if_neg c, if_neg (show ¬ (mvR b (tm p)).2.2 = 0 from c)]; rfl
theorem no_par (hP : PM L) (p : Nat) : sIs (symS L p) [40] = false := by
  cases c : sIs (symS L p) [40]
  · rfl
  · obtain ⟨s1, s2, s3⟩ := sym_at (by simp) c
    unfold sIs at s3
    rcases hP p s1 s2 with g | g <;> (rw [g] at s3; cases s3)
theorem mv_term (hP : PM L) : ∀ d p, termS L (S.map (mvS b)) (mv b h) d p = mvR b (termS L S h d p) := by
  intro d
  induction d with
  | zero =>
    intro p
    unfold termS
    rw [no_par hP p]
    by_cases c : sIs (symS L p) [45] = true
    · rw [if_pos c, if_pos c]; rfl
    · rw [if_neg c, if_neg c, if_neg (by decide), if_neg (by decide)]; exact mv_atom p
  | succ d ih =>
    intro p
    unfold termS
    rw [no_par hP p]
    by_cases c : sIs (symS L p) [45] = true
    · rw [if_pos c, if_pos c, ih]
      unfold negS
      by_cases c2 : (termS L S h d (p + 1)).2.2 = 0
      · rw [if_pos c2, if_pos (show (mvR b (termS L S h d (p + 1))).2.2 = 0 from c2)]
        have e := mv_sub b v0 (termS L S h d (p + 1)).1
        rw [mv_v0] at e
        show ((subS v0 (mv b (termS L S h d (p + 1)).1)).1, _, (subS v0 (mv b (termS L S h d (p + 1)).1)).2) = _
        rw [e]; rfl
      · rw [if_neg c2, if_neg (show ¬ (mvR b (termS L S h d (p + 1))).2.2 = 0 from c2)]; rfl
    · rw [if_neg c, if_neg c, if_neg (by decide), if_neg (by decide)]; exact mv_atom p
theorem mv_valid (hv : vS h = true) : vS (mv b h) = true := by
  unfold mv
  by_cases c : h.1 = 1
  · rw [if_pos c]; exact v_num_of hv _
  · rw [if_neg c]; exact hv
theorem mv_eval (hP : PM L) (hv : vS h = true) (a : Int) : evalS L (S.map (mvS b)) (mv b h) a = mvR b (evalS L S h a) := by
  unfold evalS
  have hv' : validS (mv b h).1 (mv b h).2.1 (mv b h).2.2 = true := mv_valid hv
  have hv1 : validS h.1 h.2.1 h.2.2 = true := hv
  rw [hv', hv1]
  by_cases c : a < 0 ∨ (L.length : Int) < a ∨ true = false
  · rw [if_pos c, if_pos c]; rfl
  · rw [if_neg c, if_neg c]; exact mv_expr hP (mv_term hP 16) _
end
def mapFrom (b : Int) (i : Nat) (xs : List S44) : List S44 := xs.mapIdx (fun p x => if p < i then x else mvS b x)
theorem from_step (b : Int) (i : Nat) (xs : List S44) (hi : i < xs.length) : mapFrom b (i + 1) (xs.set i (mvS b xs[i])) = mapFrom b i xs := by
  unfold mapFrom
  apply List.ext_getElem?
  intro p
  rw [List.getElem?_mapIdx, List.getElem?_mapIdx, List.getElem?_set]
  by_cases c : i = p
  · subst c
    rw [if_pos rfl, if_pos hi, List.getElem?_eq_getElem hi]
    simp
  · rw [if_neg c]
    cases xs[p]? with
    | none => rfl
    | some x =>
      simp only [Option.map_some]
      by_cases d : p < i
      · rw [if_pos d, if_pos (by omega)]
      · rw [if_neg d, if_neg (by omega)]
theorem from_all (b : Int) (xs : List S44) : mapFrom b xs.length xs = xs := by
  unfold mapFrom
  apply List.ext_getElem?
  intro p
  rw [List.getElem?_mapIdx]
  by_cases c : p < xs.length
  · rw [List.getElem?_eq_getElem c]; simp [c]
  · rw [List.getElem?_eq_none (by omega)]; rfl
theorem from_zero (b : Int) (xs : List S44) : mapFrom b 0 xs = xs.map (mvS b) := by
  unfold mapFrom
  apply List.ext_getElem?
  intro p
  rw [List.getElem?_mapIdx, List.getElem?_map]
  simp
end Go.Proofs.Ytpinoobgnnlccaa.A

/- AsmexprMoves, what the law's own loops do. -/
namespace Go.Proofs.Ytpinoobgnnlccaa.A
open Go Go.RowKit Go.Proofs.YtpinoobgnnlccaaW.PrintWords
set_option linter.unusedSimpArgs false
set_option linter.unusedVariables false
section
variable {L : List S38} {S : List S44} {h : VV} {a b : Int}
theorem mov_l1 (r1 r2 : Int) (R : VV) (res : Option Bool) : ∀ (n k i : Nat) (xs : List S44), i + n = xs.length → xs.length ≤ 1000 →
    (if h.1 = 1 then emulatorlaw26_AsmexprMoves.j3 k b r1 r2 (mapFrom b i xs) L a h.1 h.2.1 h.2.2 R.1 R.2.1 R.2.2 h.1 h.2.1 (Go.bits .and .i64 (wrap64 ((Go.bits .and .i64 h.2.2 65535) + (wrap64 b))) 65535) else emulatorlaw26_AsmexprMoves.j3 k b r1 r2 (mapFrom b i xs) L a h.1 h.2.1 h.2.2 R.1 R.2.1 R.2.2 h.1 h.2.1 h.2.2) = res →
    emulatorlaw26_AsmexprMoves.l1 (k + n + 1) b r1 r2 xs (i : Int) L a h.1 h.2.1 h.2.2 R.1 R.2.1 R.2.2 = res := by
  intro n
  induction n with
  | zero =>
    intro k i xs hi hx hr
    obtain rfl : i = xs.length := by omega
    rw [from_all] at hr
    rw [emulatorlaw26_AsmexprMoves.l1, if_neg (by omega)]
    exact hr
  | succ n ih =>
    intro k i xs hi hx hr
    have hlt : i < xs.length := by omega
    have hrd : rd_T44 xs (i : Int) = xs[i] := by unfold rd_T44; simp [hlt]
    have hw : wrap64 ((i : Int) + 1) = ((i + 1 : Nat) : Int) := by unfold wrap64; omega
    rw [show k + (n + 1) + 1 = (k + n + 1) + 1 by omega, emulatorlaw26_AsmexprMoves.l1, if_pos (by omega), if_pos (by omega), hrd, hw, Int.toNat_natCast]
    have hst := from_step b i xs hlt
    by_cases c : xs[i].f1 = 1
    · rw [if_pos c]
      have e : (⟨xs[i].f0, xs[i].f1, wrap64 ((Go.bits .and .i64 xs[i].f2 65535) + wrap64 b), xs[i].f3⟩ : S44) = mvS b xs[i] := by unfold mvS; rw [if_pos c]
      rw [e]
      refine ih k (i + 1) _ (by rw [List.length_set]; omega) (by rw [List.length_set]; omega) ?_
      rw [hst]; exact hr
    · rw [if_neg c]
      have e : mvS b xs[i] = xs[i] := by unfold mvS; rw [if_neg c]
      rw [e, List.set_getElem_self] at hst
      refine ih k (i + 1) _ (by omega) hx ?_
      rw [hst]; exact hr
theorem mov_tok (k : Nat) (hB : PM L → emulatorlaw26_AsmexprMoves.l0 (k + 1) S b (L.length : Int) L a h.1 h.2.1 h.2.2 = some true) :
    ∀ (n i : Nat), i + n = L.length → L.length ≤ 1000 → (∀ p, p < i → (rd_T38 L (p : Int)).f0 = 4 → (rd_T38 L (p : Int)).f1.toList = [43] ∨ (rd_T38 L (p : Int)).f1.toList = [45]) → emulatorlaw26_AsmexprMoves.l0 (k + n + 1) S b (i : Int) L a h.1 h.2.1 h.2.2 = some true := by
  intro n
  induction n with
  | zero =>
    intro i hi hL hp
    obtain rfl : i = L.length := by omega
    exact hB hp
  | succ n ih =>
    intro i hi hL hp
    have hw : wrap64 ((i : Int) + 1) = ((i + 1 : Nat) : Int) := by unfold wrap64; omega
    rw [show k + (n + 1) + 1 = (k + n + 1) + 1 by omega, emulatorlaw26_AsmexprMoves.l0, if_pos (by omega), if_pos (by omega), hw]
    have hnext : ((rd_T38 L (i : Int)).f0 = 4 → (rd_T38 L (i : Int)).f1.toList = [43] ∨ (rd_T38 L (i : Int)).f1.toList = [45]) → emulatorlaw26_AsmexprMoves.l0 (k + n + 1) S b ((i + 1 : Nat) : Int) L a h.1 h.2.1 h.2.2 = some true := by
      intro hg
      refine ih (i + 1) (by omega) hL (fun p hpi => ?_)
      by_cases c : p = i
      · subst c; exact hg
      · exact hp p (by omega)
    by_cases c : (rd_T38 L (i : Int)).f0 = 4
    · rw [if_pos c]
      by_cases c1 : (rd_T38 L (i : Int)).f1.toList = [43]
      · rw [if_pos c1]; exact hnext (fun _ => .inl c1)
      · rw [if_neg c1]
        by_cases c2 : (rd_T38 L (i : Int)).f1.toList = [45]
        · rw [if_pos c2]; exact hnext (fun _ => .inr c2)
        · rw [if_neg c2]
    · rw [if_neg c]; exact hnext (fun g => absurd g c)
/-- the second run, and what is asked of both -/
theorem mov_j3 (k : Nat) (hP : PM L) (hv : vS h = true) (hf : fits L = true) (hS : S.length ≤ 1000) (hh : h.2.1.size ≤ 1000) (x2 : Int) (hx : (h.1, h.2.1, x2) = mv b h) :
    emulatorlaw26_AsmexprMoves.j3 (k + 2) b ((evalS L S h a).2.1 : Int) (evalS L S h a).2.2 (S.map (mvS b)) L a h.1 h.2.1 h.2.2 (evalS L S h a).1.1 (evalS L S h a).1.2.1 (evalS L S h a).1.2.2 h.1 h.2.1 x2 = some true := by
  rw [show k + 2 = (k + 1) + 1 from rfl, emulatorlaw26_AsmexprMoves.j3]
  have hE := eval_f2 L (S.map (mvS b)) (h.1, h.2.1, x2) a hf (by rw [List.length_map]; exact hS) hh
  rw [hx, mv_eval hP hv a] at hE
  have hE' : asmexpr_Eval.f L a (S.map (mvS b)) h.1 h.2.1 x2 = outR (mvR b (evalS L S h a)) := by
    rw [← hE, ← hx]
  rw [hE']
  generalize evalS L S h a = r
  unfold outR mvR
  simp only [Option.bind_some]
  have hj : ∀ y, (y = false → r.2.2 = 0) → emulatorlaw26_AsmexprMoves.j4 (k + 1) b (r.2.1 : Int) r.2.2 (r.2.1 : Int) r.2.2 y r.1.1 r.1.2.1 r.1.2.2 (mv b r.1).1 (mv b r.1).2.1 (mv b r.1).2.2 = some true := by
    intro y hy
    rw [emulatorlaw26_AsmexprMoves.j4]
    cases y with
    | true => rw [if_pos rfl, if_pos rfl, if_pos rfl]; rfl
    | false =>
      rw [if_neg (by decide)]
      by_cases c : r.1.1 = 1
      · have e : mv b r.1 = (r.1.1, r.1.2.1, wrp (wrap64 (r.1.2.2 + wrap64 b))) := by unfold mv; rw [if_pos c]
        rw [if_pos c, e, if_pos (by simp [wrp]), if_pos rfl]; rfl
      · have e : mv b r.1 = r.1 := by unfold mv; rw [if_neg c]
        rw [if_neg c, e, if_pos (by simp), if_pos rfl]; rfl
  by_cases c : r.2.2 = 0
  · rw [if_pos c]; exact hj _ (fun _ => c)
  · rw [if_neg c]; exact hj true (fun g => by cases g)
theorem mov_end (k : Nat) (hP : PM L) (hv : vS h = true) (hf : fits L = true) (hS : S.length ≤ 1000) (hh : h.2.1.size ≤ 1000) : emulatorlaw26_AsmexprMoves.l0 (k + 2 + S.length + 1 + 1) S b (L.length : Int) L a h.1 h.2.1 h.2.2 = some true := by
  rw [emulatorlaw26_AsmexprMoves.l0, if_neg (by omega), eval_f2 L S h a hf hS hh]
  unfold outR
  simp only [Option.bind_some, List.nil_append, List.length_nil]
  rw [if_pos (by omega)]
  refine mov_l1 (h := h) (L := L) (a := a) (b := b) _ _ (evalS L S h a).1 (some true) S.length (k + 2) 0 S (by omega) hS ?_
  rw [from_zero]
  by_cases c : h.1 = 1
  · rw [if_pos c]
    refine mov_j3 k hP hv hf hS hh _ ?_
    unfold mv
    rw [if_pos c]
    have e : Go.bits .and .i64 (wrap64 ((Go.bits .and .i64 h.2.2 65535) + (wrap64 b))) 65535 = wrp (wrap64 (h.2.2 + wrap64 b)) := by
      show wrp (wrap64 (wrp h.2.2 + wrap64 b)) = _
      refine wrp_cong ?_
      rw [w64_mod, w64_mod, wrp_eq]; omega
    rw [e]
  · rw [if_neg c]
    refine mov_j3 k hP hv hf hS hh _ ?_
    unfold mv
    rw [if_neg c]
end
theorem moves_true (L : List S38) (a : Int) (h : VV) (S : List S44) (b : Int) : emulatorlaw26_AsmexprMoves.f 2000 L a h.1 h.2.1 h.2.2 S b = some true := by
  obtain ⟨g, g1, g2⟩ := great_t L 1700
  obtain ⟨q, q1, q2⟩ := great_s S 1700
  have hj : ∀ y, (y = false → (L.length ≤ 60 ∧ ∀ x ∈ L, x.f1.size ≤ 100) ∧ S.length ≤ 100 ∧ h.2.1.size ≤ 1000 ∧ vS h = true) → emulatorlaw26_AsmexprMoves.j0 2000 S b y L a h.1 h.2.1 h.2.2 = some true := by
    intro y hb
    show emulatorlaw26_AsmexprMoves.j0 (1999 + 1) S b y L a h.1 h.2.1 h.2.2 = some true
    rw [emulatorlaw26_AsmexprMoves.j0]
    cases y with
    | true => rw [if_pos rfl]
    | false =>
      obtain ⟨⟨h1, h1'⟩, h2, h3, h4⟩ := hb rfl
      rw [if_neg (by decide)]
      obtain ⟨m, hm⟩ : ∃ m, 1999 = (m + 2 + S.length + 1) + L.length + 1 := ⟨1999 - 2 - S.length - 1 - L.length - 1, by omega⟩
      rw [hm]
      exact mov_tok (m + 2 + S.length + 1) (fun hP => mov_end m hP h4 (fits_of2 ⟨by omega, h1'⟩) (by omega) h3) L.length 0 (by omega) (by omega) (fun p hp => absurd hp (by omega))
  unfold emulatorlaw26_AsmexprMoves.f
  rw [show (2000 : Nat) = 1700 + 300 from rfl, g1, q1, show 1700 + 300 = 1983 + 17 from rfl, rvalid_f]
  simp only [Option.bind_some]
  show (if g = true then emulatorlaw26_AsmexprMoves.j0 2000 S b true L a h.1 h.2.1 h.2.2 else if (L.length : Int) > 60 then emulatorlaw26_AsmexprMoves.j0 2000 S b true L a h.1 h.2.1 h.2.2 else if q = true then emulatorlaw26_AsmexprMoves.j0 2000 S b true L a h.1 h.2.1 h.2.2 else if (h.2.1.size : Int) > 100 then emulatorlaw26_AsmexprMoves.j0 2000 S b true L a h.1 h.2.1 h.2.2 else emulatorlaw26_AsmexprMoves.j0 2000 S b (!validS h.1 h.2.1 h.2.2) L a h.1 h.2.1 h.2.2) = some true
  cases g with
  | true => rw [if_pos rfl]; exact hj true (fun h => by cases h)
  | false =>
    rw [if_neg (by decide)]
    by_cases c60 : (L.length : Int) > 60
    · rw [if_pos c60]; exact hj true (fun h => by cases h)
    · rw [if_neg c60]
      cases q with
      | true => rw [if_pos rfl]; exact hj true (fun h => by cases h)
      | false =>
        rw [if_neg (by decide)]
        by_cases c1 : (h.2.1.size : Int) > 100
        · rw [if_pos c1]; exact hj true (fun h => by cases h)
        · rw [if_neg c1]
          refine hj _ (fun hd => ?_)
          have hv : vS h = true := by simpa using hd
          exact ⟨⟨by omega, (g2 rfl).2⟩, (q2 rfl).1, by omega, hv⟩
end Go.Proofs.Ytpinoobgnnlccaa.A
