-- Written by a program of this session (mp.py) over the kit's print.py, with proofs by hand for what the print does not take.
import Derived.Test.YtiodpkkigjfkgaaDoorAx0
import Derived.Test.YtiodpkkigjfkgaaDoorAx7
import Derived.Test.YtiodpkkigjfkgaaDoorAx8
import Derived.Test.YtiodpkkigjfkgaaDoorAx11
import Derived.Test.YtiodpkkigjfkgaaDoorAx20
namespace Go.Proofs.YtiodpkkigjfkgaaDoor.A
open Go.RowKit Go.Proofs.YtiodpkkigjfkgaaDoorW.PrintWords Go.Proofs.YtiodpkkigjfkgaaDoorW.PrintLast Go.Proofs.YtiodpkkigjfkgaaDoorW.PrintMore
attribute [local go_sem] max2_int min2_int max_two min_two max_three min_three max_four min_four   -- for this text's walks alone
set_option linter.unusedVariables false
set_option linter.unusedSimpArgs false

/-! ### emulatorlaw01_WordDivides: function 8 -/
mutual
def emulatorlaw01_WordDivides.j0 : Nat → Int → Int → Int → Bool → Option (Bool)
  | 0, _, _, _, _ => none
  | k + 1, x1, x2, x8, x101 => if x101 = true then (some false) else ((word_Mul.f x1 x2).bind fun bt267 => ((word_Div.f bt267.1 bt267.2.1 x2).bind fun bt270 => (if (bt270.2.2.2 == (x8 != 0)) = true then (if x8 = 0 then ((emulatorlaw01_alive.f k).bind fun t274 => (some t274)) else (if bt270.1 = (Go.bits .and .i64 x1 65535) then (if bt270.2.1 = 0 then ((emulatorlaw01_alive.f k).bind fun t275 => (some t275)) else (some false)) else (some false))) else (some false))))
def emulatorlaw01_WordDivides.j1 : Nat → Int → Int → Int → Bool → Option (Bool)
  | 0, _, _, _, _ => none
  | k + 1, x1, x2, x8, x115 => if x115 = true then (some false) else ((word_Mul.f x1 x2).bind fun bt276 => ((word_Div.f bt276.1 bt276.2.1 x2).bind fun bt279 => (if (bt279.2.2.2 == (x8 != 0)) = true then (if x8 = 0 then ((emulatorlaw01_alive.f k).bind fun t283 => (some t283)) else (if bt279.1 = (Go.bits .and .i64 x1 65535) then (if bt279.2.1 = 0 then ((emulatorlaw01_alive.f k).bind fun t284 => (some t284)) else (some false)) else (some false))) else (some false))))
end
def emulatorlaw01_WordDivides.f (k : Nat) (a0 : Int) (a1 : Int) (a2 : Int) : Option (Bool) := (emulatorlaw01_signed.f (Go.bits .and .i64 a0 65535) false).bind fun t259 => ((emulatorlaw01_signed.f (Go.bits .and .i64 a2 65535) false).bind fun t260 => ((word_Div.f a0 a1 a2).bind fun bt261 => (if bt261.2.2.2 = true then ((emulatorlaw01_signed.f bt261.1 false).bind fun t265 => ((emulatorlaw01_signed.f bt261.2.1 false).bind fun t266 => (if (wrap64 ((wrap64 (t265 * t260)) + t266)) = (wrap64 ((wrap64 (t259 * 65536)) + (Go.bits .and .i64 a1 65535))) then (if t266 = 0 then (if t266 ≥ t260 then (if t260 > 0 then (emulatorlaw01_WordDivides.j0 k a1 a2 t260 true) else (if t266 ≤ t260 then (if t260 < 0 then (emulatorlaw01_WordDivides.j0 k a1 a2 t260 true) else (if (wrap64 (-t266)) ≥ t260 then (if (wrap64 (-t266)) ≤ t260 then (emulatorlaw01_WordDivides.j0 k a1 a2 t260 (decide (t260 < 0))) else (emulatorlaw01_WordDivides.j0 k a1 a2 t260 false)) else (if (wrap64 (-t266)) ≤ t260 then (emulatorlaw01_WordDivides.j0 k a1 a2 t260 (decide (t260 < 0))) else (emulatorlaw01_WordDivides.j0 k a1 a2 t260 false)))) else (if (wrap64 (-t266)) ≥ t260 then (if (wrap64 (-t266)) ≤ t260 then (emulatorlaw01_WordDivides.j0 k a1 a2 t260 (decide (t260 < 0))) else (emulatorlaw01_WordDivides.j0 k a1 a2 t260 false)) else (if (wrap64 (-t266)) ≤ t260 then (emulatorlaw01_WordDivides.j0 k a1 a2 t260 (decide (t260 < 0))) else (emulatorlaw01_WordDivides.j0 k a1 a2 t260 false))))) else (if t266 ≤ t260 then (if t260 < 0 then (emulatorlaw01_WordDivides.j0 k a1 a2 t260 true) else (if (wrap64 (-t266)) ≥ t260 then (if t260 > 0 then (emulatorlaw01_WordDivides.j0 k a1 a2 t260 true) else (if (wrap64 (-t266)) ≤ t260 then (emulatorlaw01_WordDivides.j0 k a1 a2 t260 (decide (t260 < 0))) else (emulatorlaw01_WordDivides.j0 k a1 a2 t260 false))) else (if (wrap64 (-t266)) ≤ t260 then (emulatorlaw01_WordDivides.j0 k a1 a2 t260 (decide (t260 < 0))) else (emulatorlaw01_WordDivides.j0 k a1 a2 t260 false)))) else (if (wrap64 (-t266)) ≥ t260 then (if t260 > 0 then (emulatorlaw01_WordDivides.j0 k a1 a2 t260 true) else (if (wrap64 (-t266)) ≤ t260 then (emulatorlaw01_WordDivides.j0 k a1 a2 t260 (decide (t260 < 0))) else (emulatorlaw01_WordDivides.j0 k a1 a2 t260 false))) else (if (wrap64 (-t266)) ≤ t260 then (emulatorlaw01_WordDivides.j0 k a1 a2 t260 (decide (t260 < 0))) else (emulatorlaw01_WordDivides.j0 k a1 a2 t260 false))))) else (if ((decide (t266 < 0)) != (decide ((wrap64 ((wrap64 (t259 * 65536)) + (Go.bits .and .i64 a1 65535))) < 0))) = true then (emulatorlaw01_WordDivides.j0 k a1 a2 t260 true) else (if t266 ≥ t260 then (if t260 > 0 then (emulatorlaw01_WordDivides.j0 k a1 a2 t260 true) else (if t266 ≤ t260 then (if t260 < 0 then (emulatorlaw01_WordDivides.j0 k a1 a2 t260 true) else (if (wrap64 (-t266)) ≥ t260 then (if (wrap64 (-t266)) ≤ t260 then (emulatorlaw01_WordDivides.j0 k a1 a2 t260 (decide (t260 < 0))) else (emulatorlaw01_WordDivides.j0 k a1 a2 t260 false)) else (if (wrap64 (-t266)) ≤ t260 then (emulatorlaw01_WordDivides.j0 k a1 a2 t260 (decide (t260 < 0))) else (emulatorlaw01_WordDivides.j0 k a1 a2 t260 false)))) else (if (wrap64 (-t266)) ≥ t260 then (if (wrap64 (-t266)) ≤ t260 then (emulatorlaw01_WordDivides.j0 k a1 a2 t260 (decide (t260 < 0))) else (emulatorlaw01_WordDivides.j0 k a1 a2 t260 false)) else (if (wrap64 (-t266)) ≤ t260 then (emulatorlaw01_WordDivides.j0 k a1 a2 t260 (decide (t260 < 0))) else (emulatorlaw01_WordDivides.j0 k a1 a2 t260 false))))) else (if t266 ≤ t260 then (if t260 < 0 then (emulatorlaw01_WordDivides.j0 k a1 a2 t260 true) else (if (wrap64 (-t266)) ≥ t260 then (if t260 > 0 then (emulatorlaw01_WordDivides.j0 k a1 a2 t260 true) else (if (wrap64 (-t266)) ≤ t260 then (emulatorlaw01_WordDivides.j0 k a1 a2 t260 (decide (t260 < 0))) else (emulatorlaw01_WordDivides.j0 k a1 a2 t260 false))) else (if (wrap64 (-t266)) ≤ t260 then (emulatorlaw01_WordDivides.j0 k a1 a2 t260 (decide (t260 < 0))) else (emulatorlaw01_WordDivides.j0 k a1 a2 t260 false)))) else (if (wrap64 (-t266)) ≥ t260 then (if t260 > 0 then (emulatorlaw01_WordDivides.j0 k a1 a2 t260 true) else (if (wrap64 (-t266)) ≤ t260 then (emulatorlaw01_WordDivides.j0 k a1 a2 t260 (decide (t260 < 0))) else (emulatorlaw01_WordDivides.j0 k a1 a2 t260 false))) else (if (wrap64 (-t266)) ≤ t260 then (emulatorlaw01_WordDivides.j0 k a1 a2 t260 (decide (t260 < 0))) else (emulatorlaw01_WordDivides.j0 k a1 a2 t260 false))))))) else (emulatorlaw01_WordDivides.j0 k a1 a2 t260 true)))) else (if t260 = 0 then (emulatorlaw01_WordDivides.j1 k a1 a2 t260 false) else (if (wrap64 (Int.tdiv (wrap64 ((wrap64 (t259 * 65536)) + (Go.bits .and .i64 a1 65535))) t260)) ≥ (-32768) then (emulatorlaw01_WordDivides.j1 k a1 a2 t260 (decide ((wrap64 (Int.tdiv (wrap64 ((wrap64 (t259 * 65536)) + (Go.bits .and .i64 a1 65535))) t260)) ≤ 32767))) else (emulatorlaw01_WordDivides.j1 k a1 a2 t260 false))))))
theorem emulatorlaw01_WordDivides.mono_l : ∀ k, (∀ y0 y1 y2 y3, LeO (emulatorlaw01_WordDivides.j0 k y0 y1 y2 y3) (emulatorlaw01_WordDivides.j0 (k + 1) y0 y1 y2 y3)) ∧ (∀ y0 y1 y2 y3, LeO (emulatorlaw01_WordDivides.j1 k y0 y1 y2 y3) (emulatorlaw01_WordDivides.j1 (k + 1) y0 y1 y2 y3))
  | 0 => ⟨fun _ _ _ _ r h => by simp [emulatorlaw01_WordDivides.j0] at h, fun _ _ _ _ r h => by simp [emulatorlaw01_WordDivides.j1] at h⟩
  | k + 1 => by
    obtain ⟨ih0, ih1⟩ := emulatorlaw01_WordDivides.mono_l k
    refine ⟨?_, ?_⟩
    · intro y0 y1 y2 y3
      unfold emulatorlaw01_WordDivides.j0
      repeat' first
      | (with_reducible exact ih0 _ _ _ _)
      | (with_reducible exact ih1 _ _ _ _)
      | (with_reducible exact emulatorlaw01_alive.mono _)
      | (with_reducible exact LeO.refl _)
      | (with_reducible exact LeO.none _)
      | (with_reducible refine LeO.ite ?_ ?_)
      | (with_reducible refine LeO.bind ?_ (fun _ => ?_))
      | exact ih0 _ _ _ _
      | exact ih1 _ _ _ _
      | exact emulatorlaw01_alive.mono _
      | exact LeO.none _
      | refine LeO.ite ?_ ?_
      | refine LeO.bind ?_ (fun _ => ?_)
    · intro y0 y1 y2 y3
      unfold emulatorlaw01_WordDivides.j1
      repeat' first
      | (with_reducible exact ih0 _ _ _ _)
      | (with_reducible exact ih1 _ _ _ _)
      | (with_reducible exact emulatorlaw01_alive.mono _)
      | (with_reducible exact LeO.refl _)
      | (with_reducible exact LeO.none _)
      | (with_reducible refine LeO.ite ?_ ?_)
      | (with_reducible refine LeO.bind ?_ (fun _ => ?_))
      | exact ih0 _ _ _ _
      | exact ih1 _ _ _ _
      | exact emulatorlaw01_alive.mono _
      | exact LeO.none _
      | refine LeO.ite ?_ ?_
      | refine LeO.bind ?_ (fun _ => ?_)
theorem emulatorlaw01_WordDivides.mono : ∀ a0 a1 a2 k, LeO (emulatorlaw01_WordDivides.f k a0 a1 a2) (emulatorlaw01_WordDivides.f (k + 1) a0 a1 a2) := by
  intro a0 a1 a2 k
  obtain ⟨ih0, ih1⟩ := emulatorlaw01_WordDivides.mono_l k
  unfold emulatorlaw01_WordDivides.f
  repeat' first
      | (with_reducible exact ih0 _ _ _ _)
      | (with_reducible exact ih1 _ _ _ _)
      | (with_reducible exact emulatorlaw01_alive.mono _)
      | (with_reducible exact LeO.refl _)
      | (with_reducible exact LeO.none _)
      | (with_reducible refine LeO.ite ?_ ?_)
      | (with_reducible refine LeO.bind ?_ (fun _ => ?_))
      | exact ih0 _ _ _ _
      | exact ih1 _ _ _ _
      | exact emulatorlaw01_alive.mono _
      | exact LeO.none _
      | refine LeO.ite ?_ ?_
      | refine LeO.bind ?_ (fun _ => ?_)
set_option maxHeartbeats 8000000 in
set_option maxRecDepth 100000 in
theorem emulatorlaw01_WordDivides.calls (k : Nat) (a0 : Int) (a1 : Int) (a2 : Int) (r : Bool) (w : World) (hS : Sz w) (h : emulatorlaw01_WordDivides.f k a0 a1 a2 = some r) (hr0 : r = true) :
    Calls Tryd.prog 8 #[.int .i64 a0, .int .i64 a1, .int .i64 a2] w fun e w' => e = .returned (.bool r) ∧ Below w.heap.size w w' := by
  have hr_ := Aside0.mk hr0
  clear hr0
  have HB := Aside0.mk (Below.refl w.heap.size w)
  have H : ((emulatorlaw01_signed.f (Go.bits .and .i64 a0 65535) false).bind fun t259 => ((emulatorlaw01_signed.f (Go.bits .and .i64 a2 65535) false).bind fun t260 => ((word_Div.f a0 a1 a2).bind fun bt261 => (if bt261.2.2.2 = true then ((emulatorlaw01_signed.f bt261.1 false).bind fun t265 => ((emulatorlaw01_signed.f bt261.2.1 false).bind fun t266 => (if (wrap64 ((wrap64 (t265 * t260)) + t266)) = (wrap64 ((wrap64 (t259 * 65536)) + (Go.bits .and .i64 a1 65535))) then (if t266 = 0 then (if t266 ≥ t260 then (if t260 > 0 then (emulatorlaw01_WordDivides.j0 k a1 a2 t260 true) else (if t266 ≤ t260 then (if t260 < 0 then (emulatorlaw01_WordDivides.j0 k a1 a2 t260 true) else (if (wrap64 (-t266)) ≥ t260 then (if (wrap64 (-t266)) ≤ t260 then (emulatorlaw01_WordDivides.j0 k a1 a2 t260 (decide (t260 < 0))) else (emulatorlaw01_WordDivides.j0 k a1 a2 t260 false)) else (if (wrap64 (-t266)) ≤ t260 then (emulatorlaw01_WordDivides.j0 k a1 a2 t260 (decide (t260 < 0))) else (emulatorlaw01_WordDivides.j0 k a1 a2 t260 false)))) else (if (wrap64 (-t266)) ≥ t260 then (if (wrap64 (-t266)) ≤ t260 then (emulatorlaw01_WordDivides.j0 k a1 a2 t260 (decide (t260 < 0))) else (emulatorlaw01_WordDivides.j0 k a1 a2 t260 false)) else (if (wrap64 (-t266)) ≤ t260 then (emulatorlaw01_WordDivides.j0 k a1 a2 t260 (decide (t260 < 0))) else (emulatorlaw01_WordDivides.j0 k a1 a2 t260 false))))) else (if t266 ≤ t260 then (if t260 < 0 then (emulatorlaw01_WordDivides.j0 k a1 a2 t260 true) else (if (wrap64 (-t266)) ≥ t260 then (if t260 > 0 then (emulatorlaw01_WordDivides.j0 k a1 a2 t260 true) else (if (wrap64 (-t266)) ≤ t260 then (emulatorlaw01_WordDivides.j0 k a1 a2 t260 (decide (t260 < 0))) else (emulatorlaw01_WordDivides.j0 k a1 a2 t260 false))) else (if (wrap64 (-t266)) ≤ t260 then (emulatorlaw01_WordDivides.j0 k a1 a2 t260 (decide (t260 < 0))) else (emulatorlaw01_WordDivides.j0 k a1 a2 t260 false)))) else (if (wrap64 (-t266)) ≥ t260 then (if t260 > 0 then (emulatorlaw01_WordDivides.j0 k a1 a2 t260 true) else (if (wrap64 (-t266)) ≤ t260 then (emulatorlaw01_WordDivides.j0 k a1 a2 t260 (decide (t260 < 0))) else (emulatorlaw01_WordDivides.j0 k a1 a2 t260 false))) else (if (wrap64 (-t266)) ≤ t260 then (emulatorlaw01_WordDivides.j0 k a1 a2 t260 (decide (t260 < 0))) else (emulatorlaw01_WordDivides.j0 k a1 a2 t260 false))))) else (if ((decide (t266 < 0)) != (decide ((wrap64 ((wrap64 (t259 * 65536)) + (Go.bits .and .i64 a1 65535))) < 0))) = true then (emulatorlaw01_WordDivides.j0 k a1 a2 t260 true) else (if t266 ≥ t260 then (if t260 > 0 then (emulatorlaw01_WordDivides.j0 k a1 a2 t260 true) else (if t266 ≤ t260 then (if t260 < 0 then (emulatorlaw01_WordDivides.j0 k a1 a2 t260 true) else (if (wrap64 (-t266)) ≥ t260 then (if (wrap64 (-t266)) ≤ t260 then (emulatorlaw01_WordDivides.j0 k a1 a2 t260 (decide (t260 < 0))) else (emulatorlaw01_WordDivides.j0 k a1 a2 t260 false)) else (if (wrap64 (-t266)) ≤ t260 then (emulatorlaw01_WordDivides.j0 k a1 a2 t260 (decide (t260 < 0))) else (emulatorlaw01_WordDivides.j0 k a1 a2 t260 false)))) else (if (wrap64 (-t266)) ≥ t260 then (if (wrap64 (-t266)) ≤ t260 then (emulatorlaw01_WordDivides.j0 k a1 a2 t260 (decide (t260 < 0))) else (emulatorlaw01_WordDivides.j0 k a1 a2 t260 false)) else (if (wrap64 (-t266)) ≤ t260 then (emulatorlaw01_WordDivides.j0 k a1 a2 t260 (decide (t260 < 0))) else (emulatorlaw01_WordDivides.j0 k a1 a2 t260 false))))) else (if t266 ≤ t260 then (if t260 < 0 then (emulatorlaw01_WordDivides.j0 k a1 a2 t260 true) else (if (wrap64 (-t266)) ≥ t260 then (if t260 > 0 then (emulatorlaw01_WordDivides.j0 k a1 a2 t260 true) else (if (wrap64 (-t266)) ≤ t260 then (emulatorlaw01_WordDivides.j0 k a1 a2 t260 (decide (t260 < 0))) else (emulatorlaw01_WordDivides.j0 k a1 a2 t260 false))) else (if (wrap64 (-t266)) ≤ t260 then (emulatorlaw01_WordDivides.j0 k a1 a2 t260 (decide (t260 < 0))) else (emulatorlaw01_WordDivides.j0 k a1 a2 t260 false)))) else (if (wrap64 (-t266)) ≥ t260 then (if t260 > 0 then (emulatorlaw01_WordDivides.j0 k a1 a2 t260 true) else (if (wrap64 (-t266)) ≤ t260 then (emulatorlaw01_WordDivides.j0 k a1 a2 t260 (decide (t260 < 0))) else (emulatorlaw01_WordDivides.j0 k a1 a2 t260 false))) else (if (wrap64 (-t266)) ≤ t260 then (emulatorlaw01_WordDivides.j0 k a1 a2 t260 (decide (t260 < 0))) else (emulatorlaw01_WordDivides.j0 k a1 a2 t260 false))))))) else (emulatorlaw01_WordDivides.j0 k a1 a2 t260 true)))) else (if t260 = 0 then (emulatorlaw01_WordDivides.j1 k a1 a2 t260 false) else (if (wrap64 (Int.tdiv (wrap64 ((wrap64 (t259 * 65536)) + (Go.bits .and .i64 a1 65535))) t260)) ≥ (-32768) then (emulatorlaw01_WordDivides.j1 k a1 a2 t260 (decide ((wrap64 (Int.tdiv (wrap64 ((wrap64 (t259 * 65536)) + (Go.bits .and .i64 a1 65535))) t260)) ≤ 32767))) else (emulatorlaw01_WordDivides.j1 k a1 a2 t260 false))))))) = some r := h
  clear h
  replace H := Option.bind_eq_some_iff.mp H
  obtain ⟨t259, A40, H⟩ := H
  replace H : ((emulatorlaw01_signed.f (Go.bits .and .i64 a2 65535) false).bind fun t260 => ((word_Div.f a0 a1 a2).bind fun bt261 => (if bt261.2.2.2 = true then ((emulatorlaw01_signed.f bt261.1 false).bind fun t265 => ((emulatorlaw01_signed.f bt261.2.1 false).bind fun t266 => (if (wrap64 ((wrap64 (t265 * t260)) + t266)) = (wrap64 ((wrap64 (t259 * 65536)) + (Go.bits .and .i64 a1 65535))) then (if t266 = 0 then (if t266 ≥ t260 then (if t260 > 0 then (emulatorlaw01_WordDivides.j0 k a1 a2 t260 true) else (if t266 ≤ t260 then (if t260 < 0 then (emulatorlaw01_WordDivides.j0 k a1 a2 t260 true) else (if (wrap64 (-t266)) ≥ t260 then (if (wrap64 (-t266)) ≤ t260 then (emulatorlaw01_WordDivides.j0 k a1 a2 t260 (decide (t260 < 0))) else (emulatorlaw01_WordDivides.j0 k a1 a2 t260 false)) else (if (wrap64 (-t266)) ≤ t260 then (emulatorlaw01_WordDivides.j0 k a1 a2 t260 (decide (t260 < 0))) else (emulatorlaw01_WordDivides.j0 k a1 a2 t260 false)))) else (if (wrap64 (-t266)) ≥ t260 then (if (wrap64 (-t266)) ≤ t260 then (emulatorlaw01_WordDivides.j0 k a1 a2 t260 (decide (t260 < 0))) else (emulatorlaw01_WordDivides.j0 k a1 a2 t260 false)) else (if (wrap64 (-t266)) ≤ t260 then (emulatorlaw01_WordDivides.j0 k a1 a2 t260 (decide (t260 < 0))) else (emulatorlaw01_WordDivides.j0 k a1 a2 t260 false))))) else (if t266 ≤ t260 then (if t260 < 0 then (emulatorlaw01_WordDivides.j0 k a1 a2 t260 true) else (if (wrap64 (-t266)) ≥ t260 then (if t260 > 0 then (emulatorlaw01_WordDivides.j0 k a1 a2 t260 true) else (if (wrap64 (-t266)) ≤ t260 then (emulatorlaw01_WordDivides.j0 k a1 a2 t260 (decide (t260 < 0))) else (emulatorlaw01_WordDivides.j0 k a1 a2 t260 false))) else (if (wrap64 (-t266)) ≤ t260 then (emulatorlaw01_WordDivides.j0 k a1 a2 t260 (decide (t260 < 0))) else (emulatorlaw01_WordDivides.j0 k a1 a2 t260 false)))) else (if (wrap64 (-t266)) ≥ t260 then (if t260 > 0 then (emulatorlaw01_WordDivides.j0 k a1 a2 t260 true) else (if (wrap64 (-t266)) ≤ t260 then (emulatorlaw01_WordDivides.j0 k a1 a2 t260 (decide (t260 < 0))) else (emulatorlaw01_WordDivides.j0 k a1 a2 t260 false))) else (if (wrap64 (-t266)) ≤ t260 then (emulatorlaw01_WordDivides.j0 k a1 a2 t260 (decide (t260 < 0))) else (emulatorlaw01_WordDivides.j0 k a1 a2 t260 false))))) else (if ((decide (t266 < 0)) != (decide ((wrap64 ((wrap64 (t259 * 65536)) + (Go.bits .and .i64 a1 65535))) < 0))) = true then (emulatorlaw01_WordDivides.j0 k a1 a2 t260 true) else (if t266 ≥ t260 then (if t260 > 0 then (emulatorlaw01_WordDivides.j0 k a1 a2 t260 true) else (if t266 ≤ t260 then (if t260 < 0 then (emulatorlaw01_WordDivides.j0 k a1 a2 t260 true) else (if (wrap64 (-t266)) ≥ t260 then (if (wrap64 (-t266)) ≤ t260 then (emulatorlaw01_WordDivides.j0 k a1 a2 t260 (decide (t260 < 0))) else (emulatorlaw01_WordDivides.j0 k a1 a2 t260 false)) else (if (wrap64 (-t266)) ≤ t260 then (emulatorlaw01_WordDivides.j0 k a1 a2 t260 (decide (t260 < 0))) else (emulatorlaw01_WordDivides.j0 k a1 a2 t260 false)))) else (if (wrap64 (-t266)) ≥ t260 then (if (wrap64 (-t266)) ≤ t260 then (emulatorlaw01_WordDivides.j0 k a1 a2 t260 (decide (t260 < 0))) else (emulatorlaw01_WordDivides.j0 k a1 a2 t260 false)) else (if (wrap64 (-t266)) ≤ t260 then (emulatorlaw01_WordDivides.j0 k a1 a2 t260 (decide (t260 < 0))) else (emulatorlaw01_WordDivides.j0 k a1 a2 t260 false))))) else (if t266 ≤ t260 then (if t260 < 0 then (emulatorlaw01_WordDivides.j0 k a1 a2 t260 true) else (if (wrap64 (-t266)) ≥ t260 then (if t260 > 0 then (emulatorlaw01_WordDivides.j0 k a1 a2 t260 true) else (if (wrap64 (-t266)) ≤ t260 then (emulatorlaw01_WordDivides.j0 k a1 a2 t260 (decide (t260 < 0))) else (emulatorlaw01_WordDivides.j0 k a1 a2 t260 false))) else (if (wrap64 (-t266)) ≤ t260 then (emulatorlaw01_WordDivides.j0 k a1 a2 t260 (decide (t260 < 0))) else (emulatorlaw01_WordDivides.j0 k a1 a2 t260 false)))) else (if (wrap64 (-t266)) ≥ t260 then (if t260 > 0 then (emulatorlaw01_WordDivides.j0 k a1 a2 t260 true) else (if (wrap64 (-t266)) ≤ t260 then (emulatorlaw01_WordDivides.j0 k a1 a2 t260 (decide (t260 < 0))) else (emulatorlaw01_WordDivides.j0 k a1 a2 t260 false))) else (if (wrap64 (-t266)) ≤ t260 then (emulatorlaw01_WordDivides.j0 k a1 a2 t260 (decide (t260 < 0))) else (emulatorlaw01_WordDivides.j0 k a1 a2 t260 false))))))) else (emulatorlaw01_WordDivides.j0 k a1 a2 t260 true)))) else (if t260 = 0 then (emulatorlaw01_WordDivides.j1 k a1 a2 t260 false) else (if (wrap64 (Int.tdiv (wrap64 ((wrap64 (t259 * 65536)) + (Go.bits .and .i64 a1 65535))) t260)) ≥ (-32768) then (emulatorlaw01_WordDivides.j1 k a1 a2 t260 (decide ((wrap64 (Int.tdiv (wrap64 ((wrap64 (t259 * 65536)) + (Go.bits .and .i64 a1 65535))) t260)) ≤ 32767))) else (emulatorlaw01_WordDivides.j1 k a1 a2 t260 false)))))) = some r := H
  have A4 := Aside0.mk A40
  clear A40
  replace H := Option.bind_eq_some_iff.mp H
  obtain ⟨t260, A50, H⟩ := H
  replace H : ((word_Div.f a0 a1 a2).bind fun bt261 => (if bt261.2.2.2 = true then ((emulatorlaw01_signed.f bt261.1 false).bind fun t265 => ((emulatorlaw01_signed.f bt261.2.1 false).bind fun t266 => (if (wrap64 ((wrap64 (t265 * t260)) + t266)) = (wrap64 ((wrap64 (t259 * 65536)) + (Go.bits .and .i64 a1 65535))) then (if t266 = 0 then (if t266 ≥ t260 then (if t260 > 0 then (emulatorlaw01_WordDivides.j0 k a1 a2 t260 true) else (if t266 ≤ t260 then (if t260 < 0 then (emulatorlaw01_WordDivides.j0 k a1 a2 t260 true) else (if (wrap64 (-t266)) ≥ t260 then (if (wrap64 (-t266)) ≤ t260 then (emulatorlaw01_WordDivides.j0 k a1 a2 t260 (decide (t260 < 0))) else (emulatorlaw01_WordDivides.j0 k a1 a2 t260 false)) else (if (wrap64 (-t266)) ≤ t260 then (emulatorlaw01_WordDivides.j0 k a1 a2 t260 (decide (t260 < 0))) else (emulatorlaw01_WordDivides.j0 k a1 a2 t260 false)))) else (if (wrap64 (-t266)) ≥ t260 then (if (wrap64 (-t266)) ≤ t260 then (emulatorlaw01_WordDivides.j0 k a1 a2 t260 (decide (t260 < 0))) else (emulatorlaw01_WordDivides.j0 k a1 a2 t260 false)) else (if (wrap64 (-t266)) ≤ t260 then (emulatorlaw01_WordDivides.j0 k a1 a2 t260 (decide (t260 < 0))) else (emulatorlaw01_WordDivides.j0 k a1 a2 t260 false))))) else (if t266 ≤ t260 then (if t260 < 0 then (emulatorlaw01_WordDivides.j0 k a1 a2 t260 true) else (if (wrap64 (-t266)) ≥ t260 then (if t260 > 0 then (emulatorlaw01_WordDivides.j0 k a1 a2 t260 true) else (if (wrap64 (-t266)) ≤ t260 then (emulatorlaw01_WordDivides.j0 k a1 a2 t260 (decide (t260 < 0))) else (emulatorlaw01_WordDivides.j0 k a1 a2 t260 false))) else (if (wrap64 (-t266)) ≤ t260 then (emulatorlaw01_WordDivides.j0 k a1 a2 t260 (decide (t260 < 0))) else (emulatorlaw01_WordDivides.j0 k a1 a2 t260 false)))) else (if (wrap64 (-t266)) ≥ t260 then (if t260 > 0 then (emulatorlaw01_WordDivides.j0 k a1 a2 t260 true) else (if (wrap64 (-t266)) ≤ t260 then (emulatorlaw01_WordDivides.j0 k a1 a2 t260 (decide (t260 < 0))) else (emulatorlaw01_WordDivides.j0 k a1 a2 t260 false))) else (if (wrap64 (-t266)) ≤ t260 then (emulatorlaw01_WordDivides.j0 k a1 a2 t260 (decide (t260 < 0))) else (emulatorlaw01_WordDivides.j0 k a1 a2 t260 false))))) else (if ((decide (t266 < 0)) != (decide ((wrap64 ((wrap64 (t259 * 65536)) + (Go.bits .and .i64 a1 65535))) < 0))) = true then (emulatorlaw01_WordDivides.j0 k a1 a2 t260 true) else (if t266 ≥ t260 then (if t260 > 0 then (emulatorlaw01_WordDivides.j0 k a1 a2 t260 true) else (if t266 ≤ t260 then (if t260 < 0 then (emulatorlaw01_WordDivides.j0 k a1 a2 t260 true) else (if (wrap64 (-t266)) ≥ t260 then (if (wrap64 (-t266)) ≤ t260 then (emulatorlaw01_WordDivides.j0 k a1 a2 t260 (decide (t260 < 0))) else (emulatorlaw01_WordDivides.j0 k a1 a2 t260 false)) else (if (wrap64 (-t266)) ≤ t260 then (emulatorlaw01_WordDivides.j0 k a1 a2 t260 (decide (t260 < 0))) else (emulatorlaw01_WordDivides.j0 k a1 a2 t260 false)))) else (if (wrap64 (-t266)) ≥ t260 then (if (wrap64 (-t266)) ≤ t260 then (emulatorlaw01_WordDivides.j0 k a1 a2 t260 (decide (t260 < 0))) else (emulatorlaw01_WordDivides.j0 k a1 a2 t260 false)) else (if (wrap64 (-t266)) ≤ t260 then (emulatorlaw01_WordDivides.j0 k a1 a2 t260 (decide (t260 < 0))) else (emulatorlaw01_WordDivides.j0 k a1 a2 t260 false))))) else (if t266 ≤ t260 then (if t260 < 0 then (emulatorlaw01_WordDivides.j0 k a1 a2 t260 true) else (if (wrap64 (-t266)) ≥ t260 then (if t260 > 0 then (emulatorlaw01_WordDivides.j0 k a1 a2 t260 true) else (if (wrap64 (-t266)) ≤ t260 then (emulatorlaw01_WordDivides.j0 k a1 a2 t260 (decide (t260 < 0))) else (emulatorlaw01_WordDivides.j0 k a1 a2 t260 false))) else (if (wrap64 (-t266)) ≤ t260 then (emulatorlaw01_WordDivides.j0 k a1 a2 t260 (decide (t260 < 0))) else (emulatorlaw01_WordDivides.j0 k a1 a2 t260 false)))) else (if (wrap64 (-t266)) ≥ t260 then (if t260 > 0 then (emulatorlaw01_WordDivides.j0 k a1 a2 t260 true) else (if (wrap64 (-t266)) ≤ t260 then (emulatorlaw01_WordDivides.j0 k a1 a2 t260 (decide (t260 < 0))) else (emulatorlaw01_WordDivides.j0 k a1 a2 t260 false))) else (if (wrap64 (-t266)) ≤ t260 then (emulatorlaw01_WordDivides.j0 k a1 a2 t260 (decide (t260 < 0))) else (emulatorlaw01_WordDivides.j0 k a1 a2 t260 false))))))) else (emulatorlaw01_WordDivides.j0 k a1 a2 t260 true)))) else (if t260 = 0 then (emulatorlaw01_WordDivides.j1 k a1 a2 t260 false) else (if (wrap64 (Int.tdiv (wrap64 ((wrap64 (t259 * 65536)) + (Go.bits .and .i64 a1 65535))) t260)) ≥ (-32768) then (emulatorlaw01_WordDivides.j1 k a1 a2 t260 (decide ((wrap64 (Int.tdiv (wrap64 ((wrap64 (t259 * 65536)) + (Go.bits .and .i64 a1 65535))) t260)) ≤ 32767))) else (emulatorlaw01_WordDivides.j1 k a1 a2 t260 false))))) = some r := H
  have A5 := Aside0.mk A50
  clear A50
  replace H := Option.bind_eq_some_iff.mp H
  obtain ⟨⟨t261, t262, t263, t264⟩, A60, H⟩ := H
  replace H : (if t264 = true then ((emulatorlaw01_signed.f t261 false).bind fun t265 => ((emulatorlaw01_signed.f t262 false).bind fun t266 => (if (wrap64 ((wrap64 (t265 * t260)) + t266)) = (wrap64 ((wrap64 (t259 * 65536)) + (Go.bits .and .i64 a1 65535))) then (if t266 = 0 then (if t266 ≥ t260 then (if t260 > 0 then (emulatorlaw01_WordDivides.j0 k a1 a2 t260 true) else (if t266 ≤ t260 then (if t260 < 0 then (emulatorlaw01_WordDivides.j0 k a1 a2 t260 true) else (if (wrap64 (-t266)) ≥ t260 then (if (wrap64 (-t266)) ≤ t260 then (emulatorlaw01_WordDivides.j0 k a1 a2 t260 (decide (t260 < 0))) else (emulatorlaw01_WordDivides.j0 k a1 a2 t260 false)) else (if (wrap64 (-t266)) ≤ t260 then (emulatorlaw01_WordDivides.j0 k a1 a2 t260 (decide (t260 < 0))) else (emulatorlaw01_WordDivides.j0 k a1 a2 t260 false)))) else (if (wrap64 (-t266)) ≥ t260 then (if (wrap64 (-t266)) ≤ t260 then (emulatorlaw01_WordDivides.j0 k a1 a2 t260 (decide (t260 < 0))) else (emulatorlaw01_WordDivides.j0 k a1 a2 t260 false)) else (if (wrap64 (-t266)) ≤ t260 then (emulatorlaw01_WordDivides.j0 k a1 a2 t260 (decide (t260 < 0))) else (emulatorlaw01_WordDivides.j0 k a1 a2 t260 false))))) else (if t266 ≤ t260 then (if t260 < 0 then (emulatorlaw01_WordDivides.j0 k a1 a2 t260 true) else (if (wrap64 (-t266)) ≥ t260 then (if t260 > 0 then (emulatorlaw01_WordDivides.j0 k a1 a2 t260 true) else (if (wrap64 (-t266)) ≤ t260 then (emulatorlaw01_WordDivides.j0 k a1 a2 t260 (decide (t260 < 0))) else (emulatorlaw01_WordDivides.j0 k a1 a2 t260 false))) else (if (wrap64 (-t266)) ≤ t260 then (emulatorlaw01_WordDivides.j0 k a1 a2 t260 (decide (t260 < 0))) else (emulatorlaw01_WordDivides.j0 k a1 a2 t260 false)))) else (if (wrap64 (-t266)) ≥ t260 then (if t260 > 0 then (emulatorlaw01_WordDivides.j0 k a1 a2 t260 true) else (if (wrap64 (-t266)) ≤ t260 then (emulatorlaw01_WordDivides.j0 k a1 a2 t260 (decide (t260 < 0))) else (emulatorlaw01_WordDivides.j0 k a1 a2 t260 false))) else (if (wrap64 (-t266)) ≤ t260 then (emulatorlaw01_WordDivides.j0 k a1 a2 t260 (decide (t260 < 0))) else (emulatorlaw01_WordDivides.j0 k a1 a2 t260 false))))) else (if ((decide (t266 < 0)) != (decide ((wrap64 ((wrap64 (t259 * 65536)) + (Go.bits .and .i64 a1 65535))) < 0))) = true then (emulatorlaw01_WordDivides.j0 k a1 a2 t260 true) else (if t266 ≥ t260 then (if t260 > 0 then (emulatorlaw01_WordDivides.j0 k a1 a2 t260 true) else (if t266 ≤ t260 then (if t260 < 0 then (emulatorlaw01_WordDivides.j0 k a1 a2 t260 true) else (if (wrap64 (-t266)) ≥ t260 then (if (wrap64 (-t266)) ≤ t260 then (emulatorlaw01_WordDivides.j0 k a1 a2 t260 (decide (t260 < 0))) else (emulatorlaw01_WordDivides.j0 k a1 a2 t260 false)) else (if (wrap64 (-t266)) ≤ t260 then (emulatorlaw01_WordDivides.j0 k a1 a2 t260 (decide (t260 < 0))) else (emulatorlaw01_WordDivides.j0 k a1 a2 t260 false)))) else (if (wrap64 (-t266)) ≥ t260 then (if (wrap64 (-t266)) ≤ t260 then (emulatorlaw01_WordDivides.j0 k a1 a2 t260 (decide (t260 < 0))) else (emulatorlaw01_WordDivides.j0 k a1 a2 t260 false)) else (if (wrap64 (-t266)) ≤ t260 then (emulatorlaw01_WordDivides.j0 k a1 a2 t260 (decide (t260 < 0))) else (emulatorlaw01_WordDivides.j0 k a1 a2 t260 false))))) else (if t266 ≤ t260 then (if t260 < 0 then (emulatorlaw01_WordDivides.j0 k a1 a2 t260 true) else (if (wrap64 (-t266)) ≥ t260 then (if t260 > 0 then (emulatorlaw01_WordDivides.j0 k a1 a2 t260 true) else (if (wrap64 (-t266)) ≤ t260 then (emulatorlaw01_WordDivides.j0 k a1 a2 t260 (decide (t260 < 0))) else (emulatorlaw01_WordDivides.j0 k a1 a2 t260 false))) else (if (wrap64 (-t266)) ≤ t260 then (emulatorlaw01_WordDivides.j0 k a1 a2 t260 (decide (t260 < 0))) else (emulatorlaw01_WordDivides.j0 k a1 a2 t260 false)))) else (if (wrap64 (-t266)) ≥ t260 then (if t260 > 0 then (emulatorlaw01_WordDivides.j0 k a1 a2 t260 true) else (if (wrap64 (-t266)) ≤ t260 then (emulatorlaw01_WordDivides.j0 k a1 a2 t260 (decide (t260 < 0))) else (emulatorlaw01_WordDivides.j0 k a1 a2 t260 false))) else (if (wrap64 (-t266)) ≤ t260 then (emulatorlaw01_WordDivides.j0 k a1 a2 t260 (decide (t260 < 0))) else (emulatorlaw01_WordDivides.j0 k a1 a2 t260 false))))))) else (emulatorlaw01_WordDivides.j0 k a1 a2 t260 true)))) else (if t260 = 0 then (emulatorlaw01_WordDivides.j1 k a1 a2 t260 false) else (if (wrap64 (Int.tdiv (wrap64 ((wrap64 (t259 * 65536)) + (Go.bits .and .i64 a1 65535))) t260)) ≥ (-32768) then (emulatorlaw01_WordDivides.j1 k a1 a2 t260 (decide ((wrap64 (Int.tdiv (wrap64 ((wrap64 (t259 * 65536)) + (Go.bits .and .i64 a1 65535))) t260)) ≤ 32767))) else (emulatorlaw01_WordDivides.j1 k a1 a2 t260 false)))) = some r := H
  have A6 := Aside0.mk A60
  clear A60
  by_cases c7 : t264 = true
  · subst c7
    have H1 : ((emulatorlaw01_signed.f t261 false).bind fun t265 => ((emulatorlaw01_signed.f t262 false).bind fun t266 => (if (wrap64 ((wrap64 (t265 * t260)) + t266)) = (wrap64 ((wrap64 (t259 * 65536)) + (Go.bits .and .i64 a1 65535))) then (if t266 = 0 then (if t266 ≥ t260 then (if t260 > 0 then (emulatorlaw01_WordDivides.j0 k a1 a2 t260 true) else (if t266 ≤ t260 then (if t260 < 0 then (emulatorlaw01_WordDivides.j0 k a1 a2 t260 true) else (if (wrap64 (-t266)) ≥ t260 then (if (wrap64 (-t266)) ≤ t260 then (emulatorlaw01_WordDivides.j0 k a1 a2 t260 (decide (t260 < 0))) else (emulatorlaw01_WordDivides.j0 k a1 a2 t260 false)) else (if (wrap64 (-t266)) ≤ t260 then (emulatorlaw01_WordDivides.j0 k a1 a2 t260 (decide (t260 < 0))) else (emulatorlaw01_WordDivides.j0 k a1 a2 t260 false)))) else (if (wrap64 (-t266)) ≥ t260 then (if (wrap64 (-t266)) ≤ t260 then (emulatorlaw01_WordDivides.j0 k a1 a2 t260 (decide (t260 < 0))) else (emulatorlaw01_WordDivides.j0 k a1 a2 t260 false)) else (if (wrap64 (-t266)) ≤ t260 then (emulatorlaw01_WordDivides.j0 k a1 a2 t260 (decide (t260 < 0))) else (emulatorlaw01_WordDivides.j0 k a1 a2 t260 false))))) else (if t266 ≤ t260 then (if t260 < 0 then (emulatorlaw01_WordDivides.j0 k a1 a2 t260 true) else (if (wrap64 (-t266)) ≥ t260 then (if t260 > 0 then (emulatorlaw01_WordDivides.j0 k a1 a2 t260 true) else (if (wrap64 (-t266)) ≤ t260 then (emulatorlaw01_WordDivides.j0 k a1 a2 t260 (decide (t260 < 0))) else (emulatorlaw01_WordDivides.j0 k a1 a2 t260 false))) else (if (wrap64 (-t266)) ≤ t260 then (emulatorlaw01_WordDivides.j0 k a1 a2 t260 (decide (t260 < 0))) else (emulatorlaw01_WordDivides.j0 k a1 a2 t260 false)))) else (if (wrap64 (-t266)) ≥ t260 then (if t260 > 0 then (emulatorlaw01_WordDivides.j0 k a1 a2 t260 true) else (if (wrap64 (-t266)) ≤ t260 then (emulatorlaw01_WordDivides.j0 k a1 a2 t260 (decide (t260 < 0))) else (emulatorlaw01_WordDivides.j0 k a1 a2 t260 false))) else (if (wrap64 (-t266)) ≤ t260 then (emulatorlaw01_WordDivides.j0 k a1 a2 t260 (decide (t260 < 0))) else (emulatorlaw01_WordDivides.j0 k a1 a2 t260 false))))) else (if ((decide (t266 < 0)) != (decide ((wrap64 ((wrap64 (t259 * 65536)) + (Go.bits .and .i64 a1 65535))) < 0))) = true then (emulatorlaw01_WordDivides.j0 k a1 a2 t260 true) else (if t266 ≥ t260 then (if t260 > 0 then (emulatorlaw01_WordDivides.j0 k a1 a2 t260 true) else (if t266 ≤ t260 then (if t260 < 0 then (emulatorlaw01_WordDivides.j0 k a1 a2 t260 true) else (if (wrap64 (-t266)) ≥ t260 then (if (wrap64 (-t266)) ≤ t260 then (emulatorlaw01_WordDivides.j0 k a1 a2 t260 (decide (t260 < 0))) else (emulatorlaw01_WordDivides.j0 k a1 a2 t260 false)) else (if (wrap64 (-t266)) ≤ t260 then (emulatorlaw01_WordDivides.j0 k a1 a2 t260 (decide (t260 < 0))) else (emulatorlaw01_WordDivides.j0 k a1 a2 t260 false)))) else (if (wrap64 (-t266)) ≥ t260 then (if (wrap64 (-t266)) ≤ t260 then (emulatorlaw01_WordDivides.j0 k a1 a2 t260 (decide (t260 < 0))) else (emulatorlaw01_WordDivides.j0 k a1 a2 t260 false)) else (if (wrap64 (-t266)) ≤ t260 then (emulatorlaw01_WordDivides.j0 k a1 a2 t260 (decide (t260 < 0))) else (emulatorlaw01_WordDivides.j0 k a1 a2 t260 false))))) else (if t266 ≤ t260 then (if t260 < 0 then (emulatorlaw01_WordDivides.j0 k a1 a2 t260 true) else (if (wrap64 (-t266)) ≥ t260 then (if t260 > 0 then (emulatorlaw01_WordDivides.j0 k a1 a2 t260 true) else (if (wrap64 (-t266)) ≤ t260 then (emulatorlaw01_WordDivides.j0 k a1 a2 t260 (decide (t260 < 0))) else (emulatorlaw01_WordDivides.j0 k a1 a2 t260 false))) else (if (wrap64 (-t266)) ≤ t260 then (emulatorlaw01_WordDivides.j0 k a1 a2 t260 (decide (t260 < 0))) else (emulatorlaw01_WordDivides.j0 k a1 a2 t260 false)))) else (if (wrap64 (-t266)) ≥ t260 then (if t260 > 0 then (emulatorlaw01_WordDivides.j0 k a1 a2 t260 true) else (if (wrap64 (-t266)) ≤ t260 then (emulatorlaw01_WordDivides.j0 k a1 a2 t260 (decide (t260 < 0))) else (emulatorlaw01_WordDivides.j0 k a1 a2 t260 false))) else (if (wrap64 (-t266)) ≤ t260 then (emulatorlaw01_WordDivides.j0 k a1 a2 t260 (decide (t260 < 0))) else (emulatorlaw01_WordDivides.j0 k a1 a2 t260 false))))))) else (emulatorlaw01_WordDivides.j0 k a1 a2 t260 true)))) = some r := by rw [if_pos rfl] at H; exact H
    clear H
    have H := H1
    clear H1
    replace H := Option.bind_eq_some_iff.mp H
    obtain ⟨t265, A80, H⟩ := H
    replace H : ((emulatorlaw01_signed.f t262 false).bind fun t266 => (if (wrap64 ((wrap64 (t265 * t260)) + t266)) = (wrap64 ((wrap64 (t259 * 65536)) + (Go.bits .and .i64 a1 65535))) then (if t266 = 0 then (if t266 ≥ t260 then (if t260 > 0 then (emulatorlaw01_WordDivides.j0 k a1 a2 t260 true) else (if t266 ≤ t260 then (if t260 < 0 then (emulatorlaw01_WordDivides.j0 k a1 a2 t260 true) else (if (wrap64 (-t266)) ≥ t260 then (if (wrap64 (-t266)) ≤ t260 then (emulatorlaw01_WordDivides.j0 k a1 a2 t260 (decide (t260 < 0))) else (emulatorlaw01_WordDivides.j0 k a1 a2 t260 false)) else (if (wrap64 (-t266)) ≤ t260 then (emulatorlaw01_WordDivides.j0 k a1 a2 t260 (decide (t260 < 0))) else (emulatorlaw01_WordDivides.j0 k a1 a2 t260 false)))) else (if (wrap64 (-t266)) ≥ t260 then (if (wrap64 (-t266)) ≤ t260 then (emulatorlaw01_WordDivides.j0 k a1 a2 t260 (decide (t260 < 0))) else (emulatorlaw01_WordDivides.j0 k a1 a2 t260 false)) else (if (wrap64 (-t266)) ≤ t260 then (emulatorlaw01_WordDivides.j0 k a1 a2 t260 (decide (t260 < 0))) else (emulatorlaw01_WordDivides.j0 k a1 a2 t260 false))))) else (if t266 ≤ t260 then (if t260 < 0 then (emulatorlaw01_WordDivides.j0 k a1 a2 t260 true) else (if (wrap64 (-t266)) ≥ t260 then (if t260 > 0 then (emulatorlaw01_WordDivides.j0 k a1 a2 t260 true) else (if (wrap64 (-t266)) ≤ t260 then (emulatorlaw01_WordDivides.j0 k a1 a2 t260 (decide (t260 < 0))) else (emulatorlaw01_WordDivides.j0 k a1 a2 t260 false))) else (if (wrap64 (-t266)) ≤ t260 then (emulatorlaw01_WordDivides.j0 k a1 a2 t260 (decide (t260 < 0))) else (emulatorlaw01_WordDivides.j0 k a1 a2 t260 false)))) else (if (wrap64 (-t266)) ≥ t260 then (if t260 > 0 then (emulatorlaw01_WordDivides.j0 k a1 a2 t260 true) else (if (wrap64 (-t266)) ≤ t260 then (emulatorlaw01_WordDivides.j0 k a1 a2 t260 (decide (t260 < 0))) else (emulatorlaw01_WordDivides.j0 k a1 a2 t260 false))) else (if (wrap64 (-t266)) ≤ t260 then (emulatorlaw01_WordDivides.j0 k a1 a2 t260 (decide (t260 < 0))) else (emulatorlaw01_WordDivides.j0 k a1 a2 t260 false))))) else (if ((decide (t266 < 0)) != (decide ((wrap64 ((wrap64 (t259 * 65536)) + (Go.bits .and .i64 a1 65535))) < 0))) = true then (emulatorlaw01_WordDivides.j0 k a1 a2 t260 true) else (if t266 ≥ t260 then (if t260 > 0 then (emulatorlaw01_WordDivides.j0 k a1 a2 t260 true) else (if t266 ≤ t260 then (if t260 < 0 then (emulatorlaw01_WordDivides.j0 k a1 a2 t260 true) else (if (wrap64 (-t266)) ≥ t260 then (if (wrap64 (-t266)) ≤ t260 then (emulatorlaw01_WordDivides.j0 k a1 a2 t260 (decide (t260 < 0))) else (emulatorlaw01_WordDivides.j0 k a1 a2 t260 false)) else (if (wrap64 (-t266)) ≤ t260 then (emulatorlaw01_WordDivides.j0 k a1 a2 t260 (decide (t260 < 0))) else (emulatorlaw01_WordDivides.j0 k a1 a2 t260 false)))) else (if (wrap64 (-t266)) ≥ t260 then (if (wrap64 (-t266)) ≤ t260 then (emulatorlaw01_WordDivides.j0 k a1 a2 t260 (decide (t260 < 0))) else (emulatorlaw01_WordDivides.j0 k a1 a2 t260 false)) else (if (wrap64 (-t266)) ≤ t260 then (emulatorlaw01_WordDivides.j0 k a1 a2 t260 (decide (t260 < 0))) else (emulatorlaw01_WordDivides.j0 k a1 a2 t260 false))))) else (if t266 ≤ t260 then (if t260 < 0 then (emulatorlaw01_WordDivides.j0 k a1 a2 t260 true) else (if (wrap64 (-t266)) ≥ t260 then (if t260 > 0 then (emulatorlaw01_WordDivides.j0 k a1 a2 t260 true) else (if (wrap64 (-t266)) ≤ t260 then (emulatorlaw01_WordDivides.j0 k a1 a2 t260 (decide (t260 < 0))) else (emulatorlaw01_WordDivides.j0 k a1 a2 t260 false))) else (if (wrap64 (-t266)) ≤ t260 then (emulatorlaw01_WordDivides.j0 k a1 a2 t260 (decide (t260 < 0))) else (emulatorlaw01_WordDivides.j0 k a1 a2 t260 false)))) else (if (wrap64 (-t266)) ≥ t260 then (if t260 > 0 then (emulatorlaw01_WordDivides.j0 k a1 a2 t260 true) else (if (wrap64 (-t266)) ≤ t260 then (emulatorlaw01_WordDivides.j0 k a1 a2 t260 (decide (t260 < 0))) else (emulatorlaw01_WordDivides.j0 k a1 a2 t260 false))) else (if (wrap64 (-t266)) ≤ t260 then (emulatorlaw01_WordDivides.j0 k a1 a2 t260 (decide (t260 < 0))) else (emulatorlaw01_WordDivides.j0 k a1 a2 t260 false))))))) else (emulatorlaw01_WordDivides.j0 k a1 a2 t260 true))) = some r := H
    have A8 := Aside0.mk A80
    clear A80
    replace H := Option.bind_eq_some_iff.mp H
    obtain ⟨t266, A90, H⟩ := H
    replace H : (if (wrap64 ((wrap64 (t265 * t260)) + t266)) = (wrap64 ((wrap64 (t259 * 65536)) + (Go.bits .and .i64 a1 65535))) then (if t266 = 0 then (if t266 ≥ t260 then (if t260 > 0 then (emulatorlaw01_WordDivides.j0 k a1 a2 t260 true) else (if t266 ≤ t260 then (if t260 < 0 then (emulatorlaw01_WordDivides.j0 k a1 a2 t260 true) else (if (wrap64 (-t266)) ≥ t260 then (if (wrap64 (-t266)) ≤ t260 then (emulatorlaw01_WordDivides.j0 k a1 a2 t260 (decide (t260 < 0))) else (emulatorlaw01_WordDivides.j0 k a1 a2 t260 false)) else (if (wrap64 (-t266)) ≤ t260 then (emulatorlaw01_WordDivides.j0 k a1 a2 t260 (decide (t260 < 0))) else (emulatorlaw01_WordDivides.j0 k a1 a2 t260 false)))) else (if (wrap64 (-t266)) ≥ t260 then (if (wrap64 (-t266)) ≤ t260 then (emulatorlaw01_WordDivides.j0 k a1 a2 t260 (decide (t260 < 0))) else (emulatorlaw01_WordDivides.j0 k a1 a2 t260 false)) else (if (wrap64 (-t266)) ≤ t260 then (emulatorlaw01_WordDivides.j0 k a1 a2 t260 (decide (t260 < 0))) else (emulatorlaw01_WordDivides.j0 k a1 a2 t260 false))))) else (if t266 ≤ t260 then (if t260 < 0 then (emulatorlaw01_WordDivides.j0 k a1 a2 t260 true) else (if (wrap64 (-t266)) ≥ t260 then (if t260 > 0 then (emulatorlaw01_WordDivides.j0 k a1 a2 t260 true) else (if (wrap64 (-t266)) ≤ t260 then (emulatorlaw01_WordDivides.j0 k a1 a2 t260 (decide (t260 < 0))) else (emulatorlaw01_WordDivides.j0 k a1 a2 t260 false))) else (if (wrap64 (-t266)) ≤ t260 then (emulatorlaw01_WordDivides.j0 k a1 a2 t260 (decide (t260 < 0))) else (emulatorlaw01_WordDivides.j0 k a1 a2 t260 false)))) else (if (wrap64 (-t266)) ≥ t260 then (if t260 > 0 then (emulatorlaw01_WordDivides.j0 k a1 a2 t260 true) else (if (wrap64 (-t266)) ≤ t260 then (emulatorlaw01_WordDivides.j0 k a1 a2 t260 (decide (t260 < 0))) else (emulatorlaw01_WordDivides.j0 k a1 a2 t260 false))) else (if (wrap64 (-t266)) ≤ t260 then (emulatorlaw01_WordDivides.j0 k a1 a2 t260 (decide (t260 < 0))) else (emulatorlaw01_WordDivides.j0 k a1 a2 t260 false))))) else (if ((decide (t266 < 0)) != (decide ((wrap64 ((wrap64 (t259 * 65536)) + (Go.bits .and .i64 a1 65535))) < 0))) = true then (emulatorlaw01_WordDivides.j0 k a1 a2 t260 true) else (if t266 ≥ t260 then (if t260 > 0 then (emulatorlaw01_WordDivides.j0 k a1 a2 t260 true) else (if t266 ≤ t260 then (if t260 < 0 then (emulatorlaw01_WordDivides.j0 k a1 a2 t260 true) else (if (wrap64 (-t266)) ≥ t260 then (if (wrap64 (-t266)) ≤ t260 then (emulatorlaw01_WordDivides.j0 k a1 a2 t260 (decide (t260 < 0))) else (emulatorlaw01_WordDivides.j0 k a1 a2 t260 false)) else (if (wrap64 (-t266)) ≤ t260 then (emulatorlaw01_WordDivides.j0 k a1 a2 t260 (decide (t260 < 0))) else (emulatorlaw01_WordDivides.j0 k a1 a2 t260 false)))) else (if (wrap64 (-t266)) ≥ t260 then (if (wrap64 (-t266)) ≤ t260 then (emulatorlaw01_WordDivides.j0 k a1 a2 t260 (decide (t260 < 0))) else (emulatorlaw01_WordDivides.j0 k a1 a2 t260 false)) else (if (wrap64 (-t266)) ≤ t260 then (emulatorlaw01_WordDivides.j0 k a1 a2 t260 (decide (t260 < 0))) else (emulatorlaw01_WordDivides.j0 k a1 a2 t260 false))))) else (if t266 ≤ t260 then (if t260 < 0 then (emulatorlaw01_WordDivides.j0 k a1 a2 t260 true) else (if (wrap64 (-t266)) ≥ t260 then (if t260 > 0 then (emulatorlaw01_WordDivides.j0 k a1 a2 t260 true) else (if (wrap64 (-t266)) ≤ t260 then (emulatorlaw01_WordDivides.j0 k a1 a2 t260 (decide (t260 < 0))) else (emulatorlaw01_WordDivides.j0 k a1 a2 t260 false))) else (if (wrap64 (-t266)) ≤ t260 then (emulatorlaw01_WordDivides.j0 k a1 a2 t260 (decide (t260 < 0))) else (emulatorlaw01_WordDivides.j0 k a1 a2 t260 false)))) else (if (wrap64 (-t266)) ≥ t260 then (if t260 > 0 then (emulatorlaw01_WordDivides.j0 k a1 a2 t260 true) else (if (wrap64 (-t266)) ≤ t260 then (emulatorlaw01_WordDivides.j0 k a1 a2 t260 (decide (t260 < 0))) else (emulatorlaw01_WordDivides.j0 k a1 a2 t260 false))) else (if (wrap64 (-t266)) ≤ t260 then (emulatorlaw01_WordDivides.j0 k a1 a2 t260 (decide (t260 < 0))) else (emulatorlaw01_WordDivides.j0 k a1 a2 t260 false))))))) else (emulatorlaw01_WordDivides.j0 k a1 a2 t260 true)) = some r := H
    have A9 := Aside0.mk A90
    clear A90
    have HC10 := Aside0.mk H
    clear H
    go_enter Tryd.func8, Tryd.ntmps8
    go_upto_region 6 with (first | ((with_reducible refine gate_callee (f := 24) rfl ?_); refine goesL_ (some 24) rfl rfl Tryd.func24 (by kernel_rfl) rfl #[.int .i64 (Go.bits .and .i64 a0 65535), .bool false] rfl (by (try simp only [List.map_toArray, List.map_cons, List.map_nil]); first | done | rfl | (simp only [List.length_drop, List.length_take]; rfl)) ?_; (with_reducible refine (emulatorlaw01_signed.calls (Go.bits .and .i64 a0 65535) false t259 _ A4.out).mono ?_); rintro e w' ⟨rfl, ⟨nd, rfl⟩⟩; refine ⟨_, rfl, ?_⟩) | ((with_reducible refine gate_callee (f := 24) rfl ?_); refine goesL_ (some 31) rfl rfl Tryd.func24 (by kernel_rfl) rfl #[.int .i64 (Go.bits .and .i64 a2 65535), .bool false] rfl (by (try simp only [List.map_toArray, List.map_cons, List.map_nil]); first | done | rfl | (simp only [List.length_drop, List.length_take]; rfl)) ?_; (with_reducible refine (emulatorlaw01_signed.calls (Go.bits .and .i64 a2 65535) false t260 _ A5.out).mono ?_); rintro e w' ⟨rfl, ⟨nd, rfl⟩⟩; refine ⟨_, rfl, ?_⟩) | ((with_reducible refine gate_callee (f := 18) rfl ?_); refine goesL_ (some 36) rfl rfl Tryd.func18 (by kernel_rfl) rfl #[.int .i64 a0, .int .i64 a1, .int .i64 a2] rfl (by (try simp only [List.map_toArray, List.map_cons, List.map_nil]); first | done | rfl | (simp only [List.length_drop, List.length_take]; rfl)) ?_; (with_reducible refine (word_Div.calls a0 a1 a2 t261 t262 t263 true _ (hS.go (by repeat (first | (with_reducible first | exact HB.out | apply below_alloc | apply pw_below_drewN | apply below_drew1) | exact HB.out))) A6.out).mono ?_); rintro e w11 ⟨rfl, hb⟩; refine ⟨_, rfl, ?_⟩; have n0_ := Aside0.mk (below_step (by repeat (first | (with_reducible first | exact HB.out | apply below_alloc | apply pw_below_drewN | apply below_drew1) | exact HB.out)) hb); clear HB; have HB := n0_; clear n0_; (try clear hb); (try clear hb2); (try clear hk); (try clear hi)) | ((with_reducible refine gate_callee (f := 24) rfl ?_); refine goesL_ (some 43) rfl rfl Tryd.func24 (by kernel_rfl) rfl #[.int .i64 t261, .bool false] rfl (by (try simp only [List.map_toArray, List.map_cons, List.map_nil]); first | done | rfl | (simp only [List.length_drop, List.length_take]; rfl)) ?_; (with_reducible refine (emulatorlaw01_signed.calls t261 false t265 _ A8.out).mono ?_); rintro e w' ⟨rfl, ⟨nd, rfl⟩⟩; refine ⟨_, rfl, ?_⟩) | ((with_reducible refine gate_callee (f := 24) rfl ?_); refine goesL_ (some 45) rfl rfl Tryd.func24 (by kernel_rfl) rfl #[.int .i64 t262, .bool false] rfl (by (try simp only [List.map_toArray, List.map_cons, List.map_nil]); first | done | rfl | (simp only [List.length_drop, List.length_take]; rfl)) ?_; (with_reducible refine (emulatorlaw01_signed.calls t262 false t266 _ A9.out).mono ?_); rintro e w' ⟨rfl, ⟨nd, rfl⟩⟩; refine ⟨_, rfl, ?_⟩))
    (try simp only [Act.put, List.setIfInBounds_toArray, List.set_cons_zero, List.set_cons_succ])
    go_cut [101] (fun v101 wc => ∃ (kq : Nat) (x101_9 : Bool), v101 = .bool x101_9 ∧ Aside0 (emulatorlaw01_WordDivides.j0 kq a1 a2 t260 x101_9 = some r) ∧ Aside0 (kq ≤ k) ∧ Aside0 (Below w.heap.size w wc))
    case first =>
      have H := HC10.out
      clear HC10
      by_cases c12 : (wrap64 ((wrap64 (t265 * t260)) + t266)) = (wrap64 ((wrap64 (t259 * 65536)) + (Go.bits .and .i64 a1 65535)))
      · rw [if_pos c12] at H
        have c12b0 : ((wrap64 ((wrap64 (t265 * t260)) + t266)) == (wrap64 ((wrap64 (t259 * 65536)) + (Go.bits .and .i64 a1 65535)))) = true := beq_iff_eq.mpr c12
        have c12b1 : ((wrap64 ((wrap64 (t265 * t260)) + t266)) != (wrap64 ((wrap64 (t259 * 65536)) + (Go.bits .and .i64 a1 65535)))) = false := bne_eq_false_iff_eq.mpr c12
        clear c12
        (first | rw [c12b0] | (simp only [i64_w, i32_w]; rw [c12b0]) | skip)
        by_cases c13 : t266 = 0
        · rw [if_pos c13] at H
          have c13b0 : (t266 == 0) = true := beq_iff_eq.mpr c13
          have c13b1 : (t266 != 0) = false := bne_eq_false_iff_eq.mpr c13
          clear c13
          by_cases c14 : t266 ≥ t260
          · rw [if_pos c14] at H
            have c14b0 : decide (t260 ≤ t266) = true := decide_eq_true c14
            clear c14
            by_cases c15 : t260 > 0
            · rw [if_pos c15] at H
              have c15b0 : decide (0 < t260) = true := decide_eq_true c15
              clear c15
              have H' := Aside0.mk H
              clear H
              go_wp2
              go_meet
              case rel => exact ⟨_, (true), (by first | rfl | (simp; done) | (simp [*]; done)), H', ⟨by first | omega | exact Nat.le_refl _⟩, ⟨by repeat (first | (with_reducible first | exact HB.out | apply below_alloc | apply pw_below_drewN | apply below_drew1) | exact HB.out)⟩⟩
            · rw [if_neg c15] at H
              have c15b0 : decide (0 < t260) = false := decide_eq_false c15
              clear c15
              by_cases c16 : t266 ≤ t260
              · rw [if_pos c16] at H
                have c16b0 : decide (t266 ≤ t260) = true := decide_eq_true c16
                clear c16
                by_cases c17 : t260 < 0
                · rw [if_pos c17] at H
                  have c17b0 : decide (t260 < 0) = true := decide_eq_true c17
                  clear c17
                  have H' := Aside0.mk H
                  clear H
                  go_wp2
                  go_meet
                  case rel => exact ⟨_, (true), (by first | rfl | (simp; done) | (simp [*]; done)), H', ⟨by first | omega | exact Nat.le_refl _⟩, ⟨by repeat (first | (with_reducible first | exact HB.out | apply below_alloc | apply pw_below_drewN | apply below_drew1) | exact HB.out)⟩⟩
                · rw [if_neg c17] at H
                  have c17b0 : decide (t260 < 0) = false := decide_eq_false c17
                  clear c17
                  by_cases c18 : (wrap64 (-t266)) ≥ t260
                  · rw [if_pos c18] at H
                    have c18b0 : decide (t260 ≤ (wrap64 (-t266))) = true := decide_eq_true c18
                    clear c18
                    by_cases c19 : (wrap64 (-t266)) ≤ t260
                    · rw [if_pos c19] at H
                      have c19b0 : decide ((wrap64 (-t266)) ≤ t260) = true := decide_eq_true c19
                      clear c19
                      have H' := Aside0.mk H
                      clear H
                      go_wp2
                      go_meet
                      case rel => exact ⟨_, (decide (t260 < 0)), (by first | rfl | (simp; done) | (simp [*]; done)), H', ⟨by first | omega | exact Nat.le_refl _⟩, ⟨by repeat (first | (with_reducible first | exact HB.out | apply below_alloc | apply pw_below_drewN | apply below_drew1) | exact HB.out)⟩⟩
                    · rw [if_neg c19] at H
                      have c19b0 : decide ((wrap64 (-t266)) ≤ t260) = false := decide_eq_false c19
                      clear c19
                      have H' := Aside0.mk H
                      clear H
                      go_wp2
                      go_meet
                      case rel => exact ⟨_, (false), (by first | rfl | (simp; done) | (simp [*]; done)), H', ⟨by first | omega | exact Nat.le_refl _⟩, ⟨by repeat (first | (with_reducible first | exact HB.out | apply below_alloc | apply pw_below_drewN | apply below_drew1) | exact HB.out)⟩⟩
                  · rw [if_neg c18] at H
                    have c18b0 : decide (t260 ≤ (wrap64 (-t266))) = false := decide_eq_false c18
                    clear c18
                    by_cases c20 : (wrap64 (-t266)) ≤ t260
                    · rw [if_pos c20] at H
                      have c20b0 : decide ((wrap64 (-t266)) ≤ t260) = true := decide_eq_true c20
                      clear c20
                      have H' := Aside0.mk H
                      clear H
                      go_wp2
                      go_meet
                      case rel => exact ⟨_, (decide (t260 < 0)), (by first | rfl | (simp; done) | (simp [*]; done)), H', ⟨by first | omega | exact Nat.le_refl _⟩, ⟨by repeat (first | (with_reducible first | exact HB.out | apply below_alloc | apply pw_below_drewN | apply below_drew1) | exact HB.out)⟩⟩
                    · rw [if_neg c20] at H
                      have c20b0 : decide ((wrap64 (-t266)) ≤ t260) = false := decide_eq_false c20
                      clear c20
                      have H' := Aside0.mk H
                      clear H
                      go_wp2
                      go_meet
                      case rel => exact ⟨_, (false), (by first | rfl | (simp; done) | (simp [*]; done)), H', ⟨by first | omega | exact Nat.le_refl _⟩, ⟨by repeat (first | (with_reducible first | exact HB.out | apply below_alloc | apply pw_below_drewN | apply below_drew1) | exact HB.out)⟩⟩
              · rw [if_neg c16] at H
                have c16b0 : decide (t266 ≤ t260) = false := decide_eq_false c16
                clear c16
                by_cases c21 : (wrap64 (-t266)) ≥ t260
                · rw [if_pos c21] at H
                  have c21b0 : decide (t260 ≤ (wrap64 (-t266))) = true := decide_eq_true c21
                  clear c21
                  by_cases c22 : (wrap64 (-t266)) ≤ t260
                  · rw [if_pos c22] at H
                    have c22b0 : decide ((wrap64 (-t266)) ≤ t260) = true := decide_eq_true c22
                    clear c22
                    have H' := Aside0.mk H
                    clear H
                    go_wp2
                    go_meet
                    case rel => exact ⟨_, (decide (t260 < 0)), (by first | rfl | (simp; done) | (simp [*]; done)), H', ⟨by first | omega | exact Nat.le_refl _⟩, ⟨by repeat (first | (with_reducible first | exact HB.out | apply below_alloc | apply pw_below_drewN | apply below_drew1) | exact HB.out)⟩⟩
                  · rw [if_neg c22] at H
                    have c22b0 : decide ((wrap64 (-t266)) ≤ t260) = false := decide_eq_false c22
                    clear c22
                    have H' := Aside0.mk H
                    clear H
                    go_wp2
                    go_meet
                    case rel => exact ⟨_, (false), (by first | rfl | (simp; done) | (simp [*]; done)), H', ⟨by first | omega | exact Nat.le_refl _⟩, ⟨by repeat (first | (with_reducible first | exact HB.out | apply below_alloc | apply pw_below_drewN | apply below_drew1) | exact HB.out)⟩⟩
                · rw [if_neg c21] at H
                  have c21b0 : decide (t260 ≤ (wrap64 (-t266))) = false := decide_eq_false c21
                  clear c21
                  by_cases c23 : (wrap64 (-t266)) ≤ t260
                  · rw [if_pos c23] at H
                    have c23b0 : decide ((wrap64 (-t266)) ≤ t260) = true := decide_eq_true c23
                    clear c23
                    have H' := Aside0.mk H
                    clear H
                    go_wp2
                    go_meet
                    case rel => exact ⟨_, (decide (t260 < 0)), (by first | rfl | (simp; done) | (simp [*]; done)), H', ⟨by first | omega | exact Nat.le_refl _⟩, ⟨by repeat (first | (with_reducible first | exact HB.out | apply below_alloc | apply pw_below_drewN | apply below_drew1) | exact HB.out)⟩⟩
                  · rw [if_neg c23] at H
                    have c23b0 : decide ((wrap64 (-t266)) ≤ t260) = false := decide_eq_false c23
                    clear c23
                    have H' := Aside0.mk H
                    clear H
                    go_wp2
                    go_meet
                    case rel => exact ⟨_, (false), (by first | rfl | (simp; done) | (simp [*]; done)), H', ⟨by first | omega | exact Nat.le_refl _⟩, ⟨by repeat (first | (with_reducible first | exact HB.out | apply below_alloc | apply pw_below_drewN | apply below_drew1) | exact HB.out)⟩⟩
          · rw [if_neg c14] at H
            have c14b0 : decide (t260 ≤ t266) = false := decide_eq_false c14
            clear c14
            by_cases c24 : t266 ≤ t260
            · rw [if_pos c24] at H
              have c24b0 : decide (t266 ≤ t260) = true := decide_eq_true c24
              clear c24
              by_cases c25 : t260 < 0
              · rw [if_pos c25] at H
                have c25b0 : decide (t260 < 0) = true := decide_eq_true c25
                clear c25
                have H' := Aside0.mk H
                clear H
                go_wp2
                go_meet
                case rel => exact ⟨_, (true), (by first | rfl | (simp; done) | (simp [*]; done)), H', ⟨by first | omega | exact Nat.le_refl _⟩, ⟨by repeat (first | (with_reducible first | exact HB.out | apply below_alloc | apply pw_below_drewN | apply below_drew1) | exact HB.out)⟩⟩
              · rw [if_neg c25] at H
                have c25b0 : decide (t260 < 0) = false := decide_eq_false c25
                clear c25
                by_cases c26 : (wrap64 (-t266)) ≥ t260
                · rw [if_pos c26] at H
                  have c26b0 : decide (t260 ≤ (wrap64 (-t266))) = true := decide_eq_true c26
                  clear c26
                  by_cases c27 : t260 > 0
                  · rw [if_pos c27] at H
                    have c27b0 : decide (0 < t260) = true := decide_eq_true c27
                    clear c27
                    have H' := Aside0.mk H
                    clear H
                    go_wp2
                    go_meet
                    case rel => exact ⟨_, (true), (by first | rfl | (simp; done) | (simp [*]; done)), H', ⟨by first | omega | exact Nat.le_refl _⟩, ⟨by repeat (first | (with_reducible first | exact HB.out | apply below_alloc | apply pw_below_drewN | apply below_drew1) | exact HB.out)⟩⟩
                  · rw [if_neg c27] at H
                    have c27b0 : decide (0 < t260) = false := decide_eq_false c27
                    clear c27
                    by_cases c28 : (wrap64 (-t266)) ≤ t260
                    · rw [if_pos c28] at H
                      have c28b0 : decide ((wrap64 (-t266)) ≤ t260) = true := decide_eq_true c28
                      clear c28
                      have H' := Aside0.mk H
                      clear H
                      go_wp2
                      go_meet
                      case rel => exact ⟨_, (decide (t260 < 0)), (by first | rfl | (simp; done) | (simp [*]; done)), H', ⟨by first | omega | exact Nat.le_refl _⟩, ⟨by repeat (first | (with_reducible first | exact HB.out | apply below_alloc | apply pw_below_drewN | apply below_drew1) | exact HB.out)⟩⟩
                    · rw [if_neg c28] at H
                      have c28b0 : decide ((wrap64 (-t266)) ≤ t260) = false := decide_eq_false c28
                      clear c28
                      have H' := Aside0.mk H
                      clear H
                      go_wp2
                      go_meet
                      case rel => exact ⟨_, (false), (by first | rfl | (simp; done) | (simp [*]; done)), H', ⟨by first | omega | exact Nat.le_refl _⟩, ⟨by repeat (first | (with_reducible first | exact HB.out | apply below_alloc | apply pw_below_drewN | apply below_drew1) | exact HB.out)⟩⟩
                · rw [if_neg c26] at H
                  have c26b0 : decide (t260 ≤ (wrap64 (-t266))) = false := decide_eq_false c26
                  clear c26
                  by_cases c29 : (wrap64 (-t266)) ≤ t260
                  · rw [if_pos c29] at H
                    have c29b0 : decide ((wrap64 (-t266)) ≤ t260) = true := decide_eq_true c29
                    clear c29
                    have H' := Aside0.mk H
                    clear H
                    go_wp2
                    go_meet
                    case rel => exact ⟨_, (decide (t260 < 0)), (by first | rfl | (simp; done) | (simp [*]; done)), H', ⟨by first | omega | exact Nat.le_refl _⟩, ⟨by repeat (first | (with_reducible first | exact HB.out | apply below_alloc | apply pw_below_drewN | apply below_drew1) | exact HB.out)⟩⟩
                  · rw [if_neg c29] at H
                    have c29b0 : decide ((wrap64 (-t266)) ≤ t260) = false := decide_eq_false c29
                    clear c29
                    have H' := Aside0.mk H
                    clear H
                    go_wp2
                    go_meet
                    case rel => exact ⟨_, (false), (by first | rfl | (simp; done) | (simp [*]; done)), H', ⟨by first | omega | exact Nat.le_refl _⟩, ⟨by repeat (first | (with_reducible first | exact HB.out | apply below_alloc | apply pw_below_drewN | apply below_drew1) | exact HB.out)⟩⟩
            · rw [if_neg c24] at H
              have c24b0 : decide (t266 ≤ t260) = false := decide_eq_false c24
              clear c24
              by_cases c30 : (wrap64 (-t266)) ≥ t260
              · rw [if_pos c30] at H
                have c30b0 : decide (t260 ≤ (wrap64 (-t266))) = true := decide_eq_true c30
                clear c30
                by_cases c31 : t260 > 0
                · rw [if_pos c31] at H
                  have c31b0 : decide (0 < t260) = true := decide_eq_true c31
                  clear c31
                  have H' := Aside0.mk H
                  clear H
                  go_wp2
                  go_meet
                  case rel => exact ⟨_, (true), (by first | rfl | (simp; done) | (simp [*]; done)), H', ⟨by first | omega | exact Nat.le_refl _⟩, ⟨by repeat (first | (with_reducible first | exact HB.out | apply below_alloc | apply pw_below_drewN | apply below_drew1) | exact HB.out)⟩⟩
                · rw [if_neg c31] at H
                  have c31b0 : decide (0 < t260) = false := decide_eq_false c31
                  clear c31
                  by_cases c32 : (wrap64 (-t266)) ≤ t260
                  · rw [if_pos c32] at H
                    have c32b0 : decide ((wrap64 (-t266)) ≤ t260) = true := decide_eq_true c32
                    clear c32
                    have H' := Aside0.mk H
                    clear H
                    go_wp2
                    go_meet
                    case rel => exact ⟨_, (decide (t260 < 0)), (by first | rfl | (simp; done) | (simp [*]; done)), H', ⟨by first | omega | exact Nat.le_refl _⟩, ⟨by repeat (first | (with_reducible first | exact HB.out | apply below_alloc | apply pw_below_drewN | apply below_drew1) | exact HB.out)⟩⟩
                  · rw [if_neg c32] at H
                    have c32b0 : decide ((wrap64 (-t266)) ≤ t260) = false := decide_eq_false c32
                    clear c32
                    have H' := Aside0.mk H
                    clear H
                    go_wp2
                    go_meet
                    case rel => exact ⟨_, (false), (by first | rfl | (simp; done) | (simp [*]; done)), H', ⟨by first | omega | exact Nat.le_refl _⟩, ⟨by repeat (first | (with_reducible first | exact HB.out | apply below_alloc | apply pw_below_drewN | apply below_drew1) | exact HB.out)⟩⟩
              · rw [if_neg c30] at H
                have c30b0 : decide (t260 ≤ (wrap64 (-t266))) = false := decide_eq_false c30
                clear c30
                by_cases c33 : (wrap64 (-t266)) ≤ t260
                · rw [if_pos c33] at H
                  have c33b0 : decide ((wrap64 (-t266)) ≤ t260) = true := decide_eq_true c33
                  clear c33
                  have H' := Aside0.mk H
                  clear H
                  go_wp2
                  go_meet
                  case rel => exact ⟨_, (decide (t260 < 0)), (by first | rfl | (simp; done) | (simp [*]; done)), H', ⟨by first | omega | exact Nat.le_refl _⟩, ⟨by repeat (first | (with_reducible first | exact HB.out | apply below_alloc | apply pw_below_drewN | apply below_drew1) | exact HB.out)⟩⟩
                · rw [if_neg c33] at H
                  have c33b0 : decide ((wrap64 (-t266)) ≤ t260) = false := decide_eq_false c33
                  clear c33
                  have H' := Aside0.mk H
                  clear H
                  go_wp2
                  go_meet
                  case rel => exact ⟨_, (false), (by first | rfl | (simp; done) | (simp [*]; done)), H', ⟨by first | omega | exact Nat.le_refl _⟩, ⟨by repeat (first | (with_reducible first | exact HB.out | apply below_alloc | apply pw_below_drewN | apply below_drew1) | exact HB.out)⟩⟩
        · rw [if_neg c13] at H
          have c13b0 : (t266 == 0) = false := beq_eq_false_iff_ne.mpr c13
          have c13b1 : (t266 != 0) = true := bne_iff_ne.mpr c13
          by_cases c34 : ((decide (t266 < 0)) != (decide ((wrap64 ((wrap64 (t259 * 65536)) + (Go.bits .and .i64 a1 65535))) < 0))) = true
          · rw [if_pos c34] at H
            have c34b0 : ((decide (t266 < 0)) != (decide ((wrap64 ((wrap64 (t259 * 65536)) + (Go.bits .and .i64 a1 65535))) < 0))) = true := c34
            (try (have c34b1 : decide ((decide (t266 < 0)) = (decide ((wrap64 ((wrap64 (t259 * 65536)) + (Go.bits .and .i64 a1 65535))) < 0))) = false := by simpa using c34))
            (try (have c34b2 : ((decide (t266 < 0)) == (decide ((wrap64 ((wrap64 (t259 * 65536)) + (Go.bits .and .i64 a1 65535))) < 0))) = false := by simpa using c34))
            (try (have c34b3 : ¬ ((decide (t266 < 0)) = (decide ((wrap64 ((wrap64 (t259 * 65536)) + (Go.bits .and .i64 a1 65535))) < 0))) := by simpa using c34))
            clear c34
            have H' := Aside0.mk H
            clear H
            go_wp2
            go_meet
            case rel => exact ⟨_, (true), (by first | rfl | (simp; done) | (simp [*]; done)), H', ⟨by first | omega | exact Nat.le_refl _⟩, ⟨by repeat (first | (with_reducible first | exact HB.out | apply below_alloc | apply pw_below_drewN | apply below_drew1) | exact HB.out)⟩⟩
          · rw [if_neg c34] at H
            have c34b0 : ((decide (t266 < 0)) != (decide ((wrap64 ((wrap64 (t259 * 65536)) + (Go.bits .and .i64 a1 65535))) < 0))) = false := by simpa using c34
            (try (have c34b1 : decide ((decide (t266 < 0)) = (decide ((wrap64 ((wrap64 (t259 * 65536)) + (Go.bits .and .i64 a1 65535))) < 0))) = true := by simpa using c34))
            (try (have c34b2 : ((decide (t266 < 0)) == (decide ((wrap64 ((wrap64 (t259 * 65536)) + (Go.bits .and .i64 a1 65535))) < 0))) = true := by simpa using c34))
            clear c34
            by_cases c35 : t266 ≥ t260
            · rw [if_pos c35] at H
              have c35b0 : decide (t260 ≤ t266) = true := decide_eq_true c35
              clear c35
              by_cases c36 : t260 > 0
              · rw [if_pos c36] at H
                have c36b0 : decide (0 < t260) = true := decide_eq_true c36
                clear c36
                have H' := Aside0.mk H
                clear H
                go_wp2
                go_meet
                case rel => exact ⟨_, (true), (by first | rfl | (simp; done) | (simp [*]; done)), H', ⟨by first | omega | exact Nat.le_refl _⟩, ⟨by repeat (first | (with_reducible first | exact HB.out | apply below_alloc | apply pw_below_drewN | apply below_drew1) | exact HB.out)⟩⟩
              · rw [if_neg c36] at H
                have c36b0 : decide (0 < t260) = false := decide_eq_false c36
                clear c36
                by_cases c37 : t266 ≤ t260
                · rw [if_pos c37] at H
                  have c37b0 : decide (t266 ≤ t260) = true := decide_eq_true c37
                  clear c37
                  by_cases c38 : t260 < 0
                  · rw [if_pos c38] at H
                    have c38b0 : decide (t260 < 0) = true := decide_eq_true c38
                    clear c38
                    have H' := Aside0.mk H
                    clear H
                    go_wp2
                    go_meet
                    case rel => exact ⟨_, (true), (by first | rfl | (simp; done) | (simp [*]; done)), H', ⟨by first | omega | exact Nat.le_refl _⟩, ⟨by repeat (first | (with_reducible first | exact HB.out | apply below_alloc | apply pw_below_drewN | apply below_drew1) | exact HB.out)⟩⟩
                  · rw [if_neg c38] at H
                    have c38b0 : decide (t260 < 0) = false := decide_eq_false c38
                    clear c38
                    by_cases c39 : (wrap64 (-t266)) ≥ t260
                    · rw [if_pos c39] at H
                      have c39b0 : decide (t260 ≤ (wrap64 (-t266))) = true := decide_eq_true c39
                      clear c39
                      by_cases c40 : (wrap64 (-t266)) ≤ t260
                      · rw [if_pos c40] at H
                        have c40b0 : decide ((wrap64 (-t266)) ≤ t260) = true := decide_eq_true c40
                        clear c40
                        have H' := Aside0.mk H
                        clear H
                        go_wp2
                        go_meet
                        case rel => exact ⟨_, (decide (t260 < 0)), (by first | rfl | (simp; done) | (simp [*]; done)), H', ⟨by first | omega | exact Nat.le_refl _⟩, ⟨by repeat (first | (with_reducible first | exact HB.out | apply below_alloc | apply pw_below_drewN | apply below_drew1) | exact HB.out)⟩⟩
                      · rw [if_neg c40] at H
                        have c40b0 : decide ((wrap64 (-t266)) ≤ t260) = false := decide_eq_false c40
                        clear c40
                        have H' := Aside0.mk H
                        clear H
                        go_wp2
                        go_meet
                        case rel => exact ⟨_, (false), (by first | rfl | (simp; done) | (simp [*]; done)), H', ⟨by first | omega | exact Nat.le_refl _⟩, ⟨by repeat (first | (with_reducible first | exact HB.out | apply below_alloc | apply pw_below_drewN | apply below_drew1) | exact HB.out)⟩⟩
                    · rw [if_neg c39] at H
                      have c39b0 : decide (t260 ≤ (wrap64 (-t266))) = false := decide_eq_false c39
                      clear c39
                      by_cases c41 : (wrap64 (-t266)) ≤ t260
                      · rw [if_pos c41] at H
                        have c41b0 : decide ((wrap64 (-t266)) ≤ t260) = true := decide_eq_true c41
                        clear c41
                        have H' := Aside0.mk H
                        clear H
                        go_wp2
                        go_meet
                        case rel => exact ⟨_, (decide (t260 < 0)), (by first | rfl | (simp; done) | (simp [*]; done)), H', ⟨by first | omega | exact Nat.le_refl _⟩, ⟨by repeat (first | (with_reducible first | exact HB.out | apply below_alloc | apply pw_below_drewN | apply below_drew1) | exact HB.out)⟩⟩
                      · rw [if_neg c41] at H
                        have c41b0 : decide ((wrap64 (-t266)) ≤ t260) = false := decide_eq_false c41
                        clear c41
                        have H' := Aside0.mk H
                        clear H
                        go_wp2
                        go_meet
                        case rel => exact ⟨_, (false), (by first | rfl | (simp; done) | (simp [*]; done)), H', ⟨by first | omega | exact Nat.le_refl _⟩, ⟨by repeat (first | (with_reducible first | exact HB.out | apply below_alloc | apply pw_below_drewN | apply below_drew1) | exact HB.out)⟩⟩
                · rw [if_neg c37] at H
                  have c37b0 : decide (t266 ≤ t260) = false := decide_eq_false c37
                  clear c37
                  by_cases c42 : (wrap64 (-t266)) ≥ t260
                  · rw [if_pos c42] at H
                    have c42b0 : decide (t260 ≤ (wrap64 (-t266))) = true := decide_eq_true c42
                    clear c42
                    by_cases c43 : (wrap64 (-t266)) ≤ t260
                    · rw [if_pos c43] at H
                      have c43b0 : decide ((wrap64 (-t266)) ≤ t260) = true := decide_eq_true c43
                      clear c43
                      have H' := Aside0.mk H
                      clear H
                      go_wp2
                      go_meet
                      case rel => exact ⟨_, (decide (t260 < 0)), (by first | rfl | (simp; done) | (simp [*]; done)), H', ⟨by first | omega | exact Nat.le_refl _⟩, ⟨by repeat (first | (with_reducible first | exact HB.out | apply below_alloc | apply pw_below_drewN | apply below_drew1) | exact HB.out)⟩⟩
                    · rw [if_neg c43] at H
                      have c43b0 : decide ((wrap64 (-t266)) ≤ t260) = false := decide_eq_false c43
                      clear c43
                      have H' := Aside0.mk H
                      clear H
                      go_wp2
                      go_meet
                      case rel => exact ⟨_, (false), (by first | rfl | (simp; done) | (simp [*]; done)), H', ⟨by first | omega | exact Nat.le_refl _⟩, ⟨by repeat (first | (with_reducible first | exact HB.out | apply below_alloc | apply pw_below_drewN | apply below_drew1) | exact HB.out)⟩⟩
                  · rw [if_neg c42] at H
                    have c42b0 : decide (t260 ≤ (wrap64 (-t266))) = false := decide_eq_false c42
                    clear c42
                    by_cases c44 : (wrap64 (-t266)) ≤ t260
                    · rw [if_pos c44] at H
                      have c44b0 : decide ((wrap64 (-t266)) ≤ t260) = true := decide_eq_true c44
                      clear c44
                      have H' := Aside0.mk H
                      clear H
                      go_wp2
                      go_meet
                      case rel => exact ⟨_, (decide (t260 < 0)), (by first | rfl | (simp; done) | (simp [*]; done)), H', ⟨by first | omega | exact Nat.le_refl _⟩, ⟨by repeat (first | (with_reducible first | exact HB.out | apply below_alloc | apply pw_below_drewN | apply below_drew1) | exact HB.out)⟩⟩
                    · rw [if_neg c44] at H
                      have c44b0 : decide ((wrap64 (-t266)) ≤ t260) = false := decide_eq_false c44
                      clear c44
                      have H' := Aside0.mk H
                      clear H
                      go_wp2
                      go_meet
                      case rel => exact ⟨_, (false), (by first | rfl | (simp; done) | (simp [*]; done)), H', ⟨by first | omega | exact Nat.le_refl _⟩, ⟨by repeat (first | (with_reducible first | exact HB.out | apply below_alloc | apply pw_below_drewN | apply below_drew1) | exact HB.out)⟩⟩
            · rw [if_neg c35] at H
              have c35b0 : decide (t260 ≤ t266) = false := decide_eq_false c35
              clear c35
              by_cases c45 : t266 ≤ t260
              · rw [if_pos c45] at H
                have c45b0 : decide (t266 ≤ t260) = true := decide_eq_true c45
                clear c45
                by_cases c46 : t260 < 0
                · rw [if_pos c46] at H
                  have c46b0 : decide (t260 < 0) = true := decide_eq_true c46
                  clear c46
                  have H' := Aside0.mk H
                  clear H
                  go_wp2
                  go_meet
                  case rel => exact ⟨_, (true), (by first | rfl | (simp; done) | (simp [*]; done)), H', ⟨by first | omega | exact Nat.le_refl _⟩, ⟨by repeat (first | (with_reducible first | exact HB.out | apply below_alloc | apply pw_below_drewN | apply below_drew1) | exact HB.out)⟩⟩
                · rw [if_neg c46] at H
                  have c46b0 : decide (t260 < 0) = false := decide_eq_false c46
                  clear c46
                  by_cases c47 : (wrap64 (-t266)) ≥ t260
                  · rw [if_pos c47] at H
                    have c47b0 : decide (t260 ≤ (wrap64 (-t266))) = true := decide_eq_true c47
                    clear c47
                    by_cases c48 : t260 > 0
                    · rw [if_pos c48] at H
                      have c48b0 : decide (0 < t260) = true := decide_eq_true c48
                      clear c48
                      have H' := Aside0.mk H
                      clear H
                      go_wp2
                      go_meet
                      case rel => exact ⟨_, (true), (by first | rfl | (simp; done) | (simp [*]; done)), H', ⟨by first | omega | exact Nat.le_refl _⟩, ⟨by repeat (first | (with_reducible first | exact HB.out | apply below_alloc | apply pw_below_drewN | apply below_drew1) | exact HB.out)⟩⟩
                    · rw [if_neg c48] at H
                      have c48b0 : decide (0 < t260) = false := decide_eq_false c48
                      clear c48
                      by_cases c49 : (wrap64 (-t266)) ≤ t260
                      · rw [if_pos c49] at H
                        have c49b0 : decide ((wrap64 (-t266)) ≤ t260) = true := decide_eq_true c49
                        clear c49
                        have H' := Aside0.mk H
                        clear H
                        go_wp2
                        go_meet
                        case rel => exact ⟨_, (decide (t260 < 0)), (by first | rfl | (simp; done) | (simp [*]; done)), H', ⟨by first | omega | exact Nat.le_refl _⟩, ⟨by repeat (first | (with_reducible first | exact HB.out | apply below_alloc | apply pw_below_drewN | apply below_drew1) | exact HB.out)⟩⟩
                      · rw [if_neg c49] at H
                        have c49b0 : decide ((wrap64 (-t266)) ≤ t260) = false := decide_eq_false c49
                        clear c49
                        have H' := Aside0.mk H
                        clear H
                        go_wp2
                        go_meet
                        case rel => exact ⟨_, (false), (by first | rfl | (simp; done) | (simp [*]; done)), H', ⟨by first | omega | exact Nat.le_refl _⟩, ⟨by repeat (first | (with_reducible first | exact HB.out | apply below_alloc | apply pw_below_drewN | apply below_drew1) | exact HB.out)⟩⟩
                  · rw [if_neg c47] at H
                    have c47b0 : decide (t260 ≤ (wrap64 (-t266))) = false := decide_eq_false c47
                    clear c47
                    by_cases c50 : (wrap64 (-t266)) ≤ t260
                    · rw [if_pos c50] at H
                      have c50b0 : decide ((wrap64 (-t266)) ≤ t260) = true := decide_eq_true c50
                      clear c50
                      have H' := Aside0.mk H
                      clear H
                      go_wp2
                      go_meet
                      case rel => exact ⟨_, (decide (t260 < 0)), (by first | rfl | (simp; done) | (simp [*]; done)), H', ⟨by first | omega | exact Nat.le_refl _⟩, ⟨by repeat (first | (with_reducible first | exact HB.out | apply below_alloc | apply pw_below_drewN | apply below_drew1) | exact HB.out)⟩⟩
                    · rw [if_neg c50] at H
                      have c50b0 : decide ((wrap64 (-t266)) ≤ t260) = false := decide_eq_false c50
                      clear c50
                      have H' := Aside0.mk H
                      clear H
                      go_wp2
                      go_meet
                      case rel => exact ⟨_, (false), (by first | rfl | (simp; done) | (simp [*]; done)), H', ⟨by first | omega | exact Nat.le_refl _⟩, ⟨by repeat (first | (with_reducible first | exact HB.out | apply below_alloc | apply pw_below_drewN | apply below_drew1) | exact HB.out)⟩⟩
              · rw [if_neg c45] at H
                have c45b0 : decide (t266 ≤ t260) = false := decide_eq_false c45
                clear c45
                by_cases c51 : (wrap64 (-t266)) ≥ t260
                · rw [if_pos c51] at H
                  have c51b0 : decide (t260 ≤ (wrap64 (-t266))) = true := decide_eq_true c51
                  clear c51
                  by_cases c52 : t260 > 0
                  · rw [if_pos c52] at H
                    have c52b0 : decide (0 < t260) = true := decide_eq_true c52
                    clear c52
                    have H' := Aside0.mk H
                    clear H
                    go_wp2
                    go_meet
                    case rel => exact ⟨_, (true), (by first | rfl | (simp; done) | (simp [*]; done)), H', ⟨by first | omega | exact Nat.le_refl _⟩, ⟨by repeat (first | (with_reducible first | exact HB.out | apply below_alloc | apply pw_below_drewN | apply below_drew1) | exact HB.out)⟩⟩
                  · rw [if_neg c52] at H
                    have c52b0 : decide (0 < t260) = false := decide_eq_false c52
                    clear c52
                    by_cases c53 : (wrap64 (-t266)) ≤ t260
                    · rw [if_pos c53] at H
                      have c53b0 : decide ((wrap64 (-t266)) ≤ t260) = true := decide_eq_true c53
                      clear c53
                      have H' := Aside0.mk H
                      clear H
                      go_wp2
                      go_meet
                      case rel => exact ⟨_, (decide (t260 < 0)), (by first | rfl | (simp; done) | (simp [*]; done)), H', ⟨by first | omega | exact Nat.le_refl _⟩, ⟨by repeat (first | (with_reducible first | exact HB.out | apply below_alloc | apply pw_below_drewN | apply below_drew1) | exact HB.out)⟩⟩
                    · rw [if_neg c53] at H
                      have c53b0 : decide ((wrap64 (-t266)) ≤ t260) = false := decide_eq_false c53
                      clear c53
                      have H' := Aside0.mk H
                      clear H
                      go_wp2
                      go_meet
                      case rel => exact ⟨_, (false), (by first | rfl | (simp; done) | (simp [*]; done)), H', ⟨by first | omega | exact Nat.le_refl _⟩, ⟨by repeat (first | (with_reducible first | exact HB.out | apply below_alloc | apply pw_below_drewN | apply below_drew1) | exact HB.out)⟩⟩
                · rw [if_neg c51] at H
                  have c51b0 : decide (t260 ≤ (wrap64 (-t266))) = false := decide_eq_false c51
                  clear c51
                  by_cases c54 : (wrap64 (-t266)) ≤ t260
                  · rw [if_pos c54] at H
                    have c54b0 : decide ((wrap64 (-t266)) ≤ t260) = true := decide_eq_true c54
                    clear c54
                    have H' := Aside0.mk H
                    clear H
                    go_wp2
                    go_meet
                    case rel => exact ⟨_, (decide (t260 < 0)), (by first | rfl | (simp; done) | (simp [*]; done)), H', ⟨by first | omega | exact Nat.le_refl _⟩, ⟨by repeat (first | (with_reducible first | exact HB.out | apply below_alloc | apply pw_below_drewN | apply below_drew1) | exact HB.out)⟩⟩
                  · rw [if_neg c54] at H
                    have c54b0 : decide ((wrap64 (-t266)) ≤ t260) = false := decide_eq_false c54
                    clear c54
                    have H' := Aside0.mk H
                    clear H
                    go_wp2
                    go_meet
                    case rel => exact ⟨_, (false), (by first | rfl | (simp; done) | (simp [*]; done)), H', ⟨by first | omega | exact Nat.le_refl _⟩, ⟨by repeat (first | (with_reducible first | exact HB.out | apply below_alloc | apply pw_below_drewN | apply below_drew1) | exact HB.out)⟩⟩
      · rw [if_neg c12] at H
        have c12b0 : ((wrap64 ((wrap64 (t265 * t260)) + t266)) == (wrap64 ((wrap64 (t259 * 65536)) + (Go.bits .and .i64 a1 65535)))) = false := beq_eq_false_iff_ne.mpr c12
        have c12b1 : ((wrap64 ((wrap64 (t265 * t260)) + t266)) != (wrap64 ((wrap64 (t259 * 65536)) + (Go.bits .and .i64 a1 65535)))) = true := bne_iff_ne.mpr c12
        (first | rw [c12b0] | (simp only [i64_w, i32_w]; rw [c12b0]) | skip)
        have H' := Aside0.mk H
        clear H
        go_wp2
        go_meet
        case rel => exact ⟨_, (true), (by first | rfl | (simp; done) | (simp [*]; done)), H', ⟨by first | omega | exact Nat.le_refl _⟩, ⟨by repeat (first | (with_reducible first | exact HB.out | apply below_alloc | apply pw_below_drewN | apply below_drew1) | exact HB.out)⟩⟩
    case rest =>
      clear HC10
      try clear c1
      try clear c2
      try clear p2
      try clear c3
      try clear c4
      try clear c5
      try clear p6
      try clear c7
      try clear c8
      try clear c12
      try clear c12b0
      try clear c12b1
      try clear c13
      try clear c13b0
      try clear c13b1
      try clear c14
      try clear c14b0
      try clear c15
      try clear c15b0
      try clear c16
      try clear c16b0
      try clear c17
      try clear c17b0
      try clear c18
      try clear c18b0
      try clear c19
      try clear c19b0
      try clear c20
      try clear c20b0
      try clear c21
      try clear c21b0
      try clear c22
      try clear c22b0
      try clear c23
      try clear c23b0
      try clear c24
      try clear c24b0
      try clear c25
      try clear c25b0
      try clear c26
      try clear c26b0
      try clear c27
      try clear c27b0
      try clear c28
      try clear c28b0
      try clear c29
      try clear c29b0
      try clear c30
      try clear c30b0
      try clear c31
      try clear c31b0
      try clear c32
      try clear c32b0
      try clear c33
      try clear c33b0
      try clear c34
      try clear c34b0
      try clear c34b1
      try clear c34b2
      try clear c35
      try clear c35b0
      try clear c36
      try clear c36b0
      try clear c37
      try clear c37b0
      try clear c38
      try clear c38b0
      try clear c39
      try clear c39b0
      try clear c40
      try clear c40b0
      try clear c41
      try clear c41b0
      try clear c42
      try clear c42b0
      try clear c43
      try clear c43b0
      try clear c44
      try clear c44b0
      try clear c45
      try clear c45b0
      try clear c46
      try clear c46b0
      try clear c47
      try clear c47b0
      try clear c48
      try clear c48b0
      try clear c49
      try clear c49b0
      try clear c50
      try clear c50b0
      try clear c51
      try clear c51b0
      try clear c52
      try clear c52b0
      try clear c53
      try clear c53b0
      try clear c54
      try clear c54b0
      obtain ⟨kq, x101_9, rfl, HA, HJ9, HB⟩ := hcut
      cases kq with
      | zero => exact absurd HA.out (by simp [emulatorlaw01_WordDivides.j0])
      | succ kj9 =>
        have H := HA.out
        clear HA
        simp only [emulatorlaw01_WordDivides.j0] at H
        by_cases c55 : x101_9 = true
        · subst c55
          have H1 : (some false) = some r := by rw [if_pos rfl] at H; exact H
          clear H
          have H := H1
          clear H1
          exact absurd (H.trans (congrArg some hr_.out)) (by decide)
        · replace c55 := Bool.eq_false_iff.mpr c55
          subst c55
          have H1 : ((word_Mul.f a1 a2).bind fun bt267 => ((word_Div.f bt267.1 bt267.2.1 a2).bind fun bt270 => (if (bt270.2.2.2 == (t260 != 0)) = true then (if t260 = 0 then ((emulatorlaw01_alive.f kj9).bind fun t274 => (some t274)) else (if bt270.1 = (Go.bits .and .i64 a1 65535) then (if bt270.2.1 = 0 then ((emulatorlaw01_alive.f kj9).bind fun t275 => (some t275)) else (some false)) else (some false))) else (some false)))) = some r := by rw [if_neg (show ¬ (false = true) by decide)] at H; exact H
          clear H
          have H := H1
          clear H1
          replace H := Option.bind_eq_some_iff.mp H
          obtain ⟨⟨t267, t268, t269⟩, A560, H⟩ := H
          replace H : ((word_Div.f t267 t268 a2).bind fun bt270 => (if (bt270.2.2.2 == (t260 != 0)) = true then (if t260 = 0 then ((emulatorlaw01_alive.f kj9).bind fun t274 => (some t274)) else (if bt270.1 = (Go.bits .and .i64 a1 65535) then (if bt270.2.1 = 0 then ((emulatorlaw01_alive.f kj9).bind fun t275 => (some t275)) else (some false)) else (some false))) else (some false))) = some r := H
          have A56 := Aside0.mk A560
          clear A560
          replace H := Option.bind_eq_some_iff.mp H
          obtain ⟨⟨t270, t271, t272, t273⟩, A570, H⟩ := H
          replace H : (if (t273 == (t260 != 0)) = true then (if t260 = 0 then ((emulatorlaw01_alive.f kj9).bind fun t274 => (some t274)) else (if t270 = (Go.bits .and .i64 a1 65535) then (if t271 = 0 then ((emulatorlaw01_alive.f kj9).bind fun t275 => (some t275)) else (some false)) else (some false))) else (some false)) = some r := H
          have A57 := Aside0.mk A570
          clear A570
          by_cases c58 : (t273 == (t260 != 0)) = true
          · rw [if_pos c58] at H
            have c58b0 : (t273 == (t260 != 0)) = true := c58
            (try (have c58b1 : decide (t273 = (t260 != 0)) = true := by simpa using c58))
            (try (have c58b2 : (t273 == (t260 != 0)) = true := by simpa using c58))
            clear c58
            by_cases c59 : t260 = 0
            · rw [if_pos c59] at H
              have c59b0 : (t260 == 0) = true := beq_iff_eq.mpr c59
              have c59b1 : (t260 != 0) = false := bne_eq_false_iff_eq.mpr c59
              obtain rfl : t273 = false := by simpa [c59b1] using c58b0
              (try clear c58b0)
              (try clear c58b1)
              (try clear c58b2)
              clear c59
              replace H := Option.bind_eq_some_iff.mp H
              obtain ⟨t274, A600, H⟩ := H
              replace H : (some t274) = some r := H
              have A60 := Aside0.mk A600
              clear A600
              obtain rfl := Option.some.inj H
              go_wp2_with (first | ((with_reducible refine gate_callee (f := 16) rfl ?_); refine goesL_ (some 119) rfl rfl Tryd.func16 (by kernel_rfl) rfl #[.int .i64 a1, .int .i64 a2] rfl (by (try simp only [List.map_toArray, List.map_cons, List.map_nil]); first | done | rfl | (simp only [List.length_drop, List.length_take]; rfl)) ?_; (with_reducible refine (word_Mul.calls a1 a2 t267 t268 t269 _ A56.out).mono ?_); rintro e w' ⟨rfl, ⟨nd, rfl⟩⟩; refine ⟨_, rfl, ?_⟩) | ((with_reducible refine gate_callee (f := 18) rfl ?_); refine goesL_ (some 127) rfl rfl Tryd.func18 (by kernel_rfl) rfl #[.int .i64 t267, .int .i64 t268, .int .i64 a2] rfl (by (try simp only [List.map_toArray, List.map_cons, List.map_nil]); first | done | rfl | (simp only [List.length_drop, List.length_take]; rfl)) ?_; (with_reducible refine (word_Div.calls t267 t268 a2 t270 t271 t272 false _ (hS.go (by repeat (first | (with_reducible first | exact HB.out | apply below_alloc | apply pw_below_drewN | apply below_drew1) | exact HB.out))) A57.out).mono ?_); rintro e w61 ⟨rfl, hb⟩; refine ⟨_, rfl, ?_⟩; have n0_ := Aside0.mk (below_step (by repeat (first | (with_reducible first | exact HB.out | apply below_alloc | apply pw_below_drewN | apply below_drew1) | exact HB.out)) hb); clear HB; have HB := n0_; clear n0_; (try clear hb); (try clear hb2); (try clear hk); (try clear hi)) | (go_at_call 15; (with_reducible refine (emulatorlaw01_alive.calls kj9  t274 _ (hS.go (by repeat (first | (with_reducible first | exact HB.out | apply below_alloc | apply pw_below_drewN | apply below_drew1) | exact HB.out))) A60.out).mono ?_); rintro e w62 ⟨rfl, hb⟩; have n0_ := Aside0.mk (below_step (by repeat (first | (with_reducible first | exact HB.out | apply below_alloc | apply pw_below_drewN | apply below_drew1) | exact HB.out)) hb); clear HB; have HB := n0_; clear n0_; (try clear hb); (try clear hb2); (try clear hk); (try clear hi)))
              go_ret
              exact ⟨by first | rfl | (simp [errW_none, errW_some] <;> rfl) | (simp [*, errW_none, errW_some] <;> rfl), by repeat (first | (with_reducible first | exact HB.out | apply below_alloc | apply pw_below_drewN | apply below_drew1) | exact HB.out)⟩
            · rw [if_neg c59] at H
              have c59b0 : (t260 == 0) = false := beq_eq_false_iff_ne.mpr c59
              have c59b1 : (t260 != 0) = true := bne_iff_ne.mpr c59
              obtain rfl : t273 = true := by simpa [c59b1] using c58b0
              (try clear c58b0)
              (try clear c58b1)
              (try clear c58b2)
              by_cases c63 : t270 = (Go.bits .and .i64 a1 65535)
              · rw [if_pos c63] at H
                have c63b0 : (t270 == (Go.bits .and .i64 a1 65535)) = true := beq_iff_eq.mpr c63
                have c63b1 : (t270 != (Go.bits .and .i64 a1 65535)) = false := bne_eq_false_iff_eq.mpr c63
                clear c63
                by_cases c64 : t271 = 0
                · rw [if_pos c64] at H
                  have c64b0 : (t271 == 0) = true := beq_iff_eq.mpr c64
                  have c64b1 : (t271 != 0) = false := bne_eq_false_iff_eq.mpr c64
                  clear c64
                  replace H := Option.bind_eq_some_iff.mp H
                  obtain ⟨t275, A650, H⟩ := H
                  replace H : (some t275) = some r := H
                  have A65 := Aside0.mk A650
                  clear A650
                  obtain rfl := Option.some.inj H
                  go_wp2_with (first | ((with_reducible refine gate_callee (f := 16) rfl ?_); refine goesL_ (some 119) rfl rfl Tryd.func16 (by kernel_rfl) rfl #[.int .i64 a1, .int .i64 a2] rfl (by (try simp only [List.map_toArray, List.map_cons, List.map_nil]); first | done | rfl | (simp only [List.length_drop, List.length_take]; rfl)) ?_; (with_reducible refine (word_Mul.calls a1 a2 t267 t268 t269 _ A56.out).mono ?_); rintro e w' ⟨rfl, ⟨nd, rfl⟩⟩; refine ⟨_, rfl, ?_⟩) | ((with_reducible refine gate_callee (f := 18) rfl ?_); refine goesL_ (some 127) rfl rfl Tryd.func18 (by kernel_rfl) rfl #[.int .i64 t267, .int .i64 t268, .int .i64 a2] rfl (by (try simp only [List.map_toArray, List.map_cons, List.map_nil]); first | done | rfl | (simp only [List.length_drop, List.length_take]; rfl)) ?_; (with_reducible refine (word_Div.calls t267 t268 a2 t270 t271 t272 true _ (hS.go (by repeat (first | (with_reducible first | exact HB.out | apply below_alloc | apply pw_below_drewN | apply below_drew1) | exact HB.out))) A57.out).mono ?_); rintro e w66 ⟨rfl, hb⟩; refine ⟨_, rfl, ?_⟩; have n0_ := Aside0.mk (below_step (by repeat (first | (with_reducible first | exact HB.out | apply below_alloc | apply pw_below_drewN | apply below_drew1) | exact HB.out)) hb); clear HB; have HB := n0_; clear n0_; (try clear hb); (try clear hb2); (try clear hk); (try clear hi)) | (go_at_call 15; (with_reducible refine (emulatorlaw01_alive.calls kj9  t275 _ (hS.go (by repeat (first | (with_reducible first | exact HB.out | apply below_alloc | apply pw_below_drewN | apply below_drew1) | exact HB.out))) A65.out).mono ?_); rintro e w67 ⟨rfl, hb⟩; have n0_ := Aside0.mk (below_step (by repeat (first | (with_reducible first | exact HB.out | apply below_alloc | apply pw_below_drewN | apply below_drew1) | exact HB.out)) hb); clear HB; have HB := n0_; clear n0_; (try clear hb); (try clear hb2); (try clear hk); (try clear hi)))
                  go_ret
                  exact ⟨by first | rfl | (simp [errW_none, errW_some] <;> rfl) | (simp [*, errW_none, errW_some] <;> rfl), by repeat (first | (with_reducible first | exact HB.out | apply below_alloc | apply pw_below_drewN | apply below_drew1) | exact HB.out)⟩
                · rw [if_neg c64] at H
                  exact absurd (H.trans (congrArg some hr_.out)) (by decide)
              · rw [if_neg c63] at H
                exact absurd (H.trans (congrArg some hr_.out)) (by decide)
          · rw [if_neg c58] at H
            exact absurd (H.trans (congrArg some hr_.out)) (by decide)
  · replace c7 := Bool.eq_false_iff.mpr c7
    subst c7
    have H1 : (if t260 = 0 then (emulatorlaw01_WordDivides.j1 k a1 a2 t260 false) else (if (wrap64 (Int.tdiv (wrap64 ((wrap64 (t259 * 65536)) + (Go.bits .and .i64 a1 65535))) t260)) ≥ (-32768) then (emulatorlaw01_WordDivides.j1 k a1 a2 t260 (decide ((wrap64 (Int.tdiv (wrap64 ((wrap64 (t259 * 65536)) + (Go.bits .and .i64 a1 65535))) t260)) ≤ 32767))) else (emulatorlaw01_WordDivides.j1 k a1 a2 t260 false))) = some r := by rw [if_neg (show ¬ (false = true) by decide)] at H; exact H
    clear H
    have H := H1
    clear H1
    have HC71 := Aside0.mk H
    clear H
    go_enter Tryd.func8, Tryd.ntmps8
    go_upto_region 8 with (first | ((with_reducible refine gate_callee (f := 24) rfl ?_); refine goesL_ (some 24) rfl rfl Tryd.func24 (by kernel_rfl) rfl #[.int .i64 (Go.bits .and .i64 a0 65535), .bool false] rfl (by (try simp only [List.map_toArray, List.map_cons, List.map_nil]); first | done | rfl | (simp only [List.length_drop, List.length_take]; rfl)) ?_; (with_reducible refine (emulatorlaw01_signed.calls (Go.bits .and .i64 a0 65535) false t259 _ A4.out).mono ?_); rintro e w' ⟨rfl, ⟨nd, rfl⟩⟩; refine ⟨_, rfl, ?_⟩) | ((with_reducible refine gate_callee (f := 24) rfl ?_); refine goesL_ (some 31) rfl rfl Tryd.func24 (by kernel_rfl) rfl #[.int .i64 (Go.bits .and .i64 a2 65535), .bool false] rfl (by (try simp only [List.map_toArray, List.map_cons, List.map_nil]); first | done | rfl | (simp only [List.length_drop, List.length_take]; rfl)) ?_; (with_reducible refine (emulatorlaw01_signed.calls (Go.bits .and .i64 a2 65535) false t260 _ A5.out).mono ?_); rintro e w' ⟨rfl, ⟨nd, rfl⟩⟩; refine ⟨_, rfl, ?_⟩) | ((with_reducible refine gate_callee (f := 18) rfl ?_); refine goesL_ (some 36) rfl rfl Tryd.func18 (by kernel_rfl) rfl #[.int .i64 a0, .int .i64 a1, .int .i64 a2] rfl (by (try simp only [List.map_toArray, List.map_cons, List.map_nil]); first | done | rfl | (simp only [List.length_drop, List.length_take]; rfl)) ?_; (with_reducible refine (word_Div.calls a0 a1 a2 t261 t262 t263 false _ (hS.go (by repeat (first | (with_reducible first | exact HB.out | apply below_alloc | apply pw_below_drewN | apply below_drew1) | exact HB.out))) A6.out).mono ?_); rintro e w72 ⟨rfl, hb⟩; refine ⟨_, rfl, ?_⟩; have n0_ := Aside0.mk (below_step (by repeat (first | (with_reducible first | exact HB.out | apply below_alloc | apply pw_below_drewN | apply below_drew1) | exact HB.out)) hb); clear HB; have HB := n0_; clear n0_; (try clear hb); (try clear hb2); (try clear hk); (try clear hi)))
    (try simp only [Act.put, List.setIfInBounds_toArray, List.set_cons_zero, List.set_cons_succ])
    go_cut [115] (fun v115 wc => ∃ (kq : Nat) (x115_70 : Bool), v115 = .bool x115_70 ∧ Aside0 (emulatorlaw01_WordDivides.j1 kq a1 a2 t260 x115_70 = some r) ∧ Aside0 (kq ≤ k) ∧ Aside0 (Below w.heap.size w wc))
    case first =>
      have H := HC71.out
      clear HC71
      by_cases c73 : t260 = 0
      · rw [if_pos c73] at H
        have c73b0 : (t260 == 0) = true := beq_iff_eq.mpr c73
        have c73b1 : (t260 != 0) = false := bne_eq_false_iff_eq.mpr c73
        clear c73
        (first | rw [c73b0] | (simp only [i64_w, i32_w]; rw [c73b0]) | skip)
        have H' := Aside0.mk H
        clear H
        go_wp2
        go_meet
        case rel => exact ⟨_, (false), (by first | rfl | (simp; done) | (simp [*]; done)), H', ⟨by first | omega | exact Nat.le_refl _⟩, ⟨by repeat (first | (with_reducible first | exact HB.out | apply below_alloc | apply pw_below_drewN | apply below_drew1) | exact HB.out)⟩⟩
      · rw [if_neg c73] at H
        have c73b0 : (t260 == 0) = false := beq_eq_false_iff_ne.mpr c73
        have c73b1 : (t260 != 0) = true := bne_iff_ne.mpr c73
        (first | rw [c73b0] | (simp only [i64_w, i32_w]; rw [c73b0]) | skip)
        by_cases c74 : (wrap64 (Int.tdiv (wrap64 ((wrap64 (t259 * 65536)) + (Go.bits .and .i64 a1 65535))) t260)) ≥ (-32768)
        · rw [if_pos c74] at H
          have c74b0 : decide ((-32768) ≤ (wrap64 (Int.tdiv (wrap64 ((wrap64 (t259 * 65536)) + (Go.bits .and .i64 a1 65535))) t260))) = true := decide_eq_true c74
          clear c74
          have H' := Aside0.mk H
          clear H
          go_wp2
          go_meet
          case rel => exact ⟨_, (decide ((wrap64 (Int.tdiv (wrap64 ((wrap64 (t259 * 65536)) + (Go.bits .and .i64 a1 65535))) t260)) ≤ 32767)), (by first | rfl | (simp; done) | (simp [*]; done)), H', ⟨by first | omega | exact Nat.le_refl _⟩, ⟨by repeat (first | (with_reducible first | exact HB.out | apply below_alloc | apply pw_below_drewN | apply below_drew1) | exact HB.out)⟩⟩
        · rw [if_neg c74] at H
          have c74b0 : decide ((-32768) ≤ (wrap64 (Int.tdiv (wrap64 ((wrap64 (t259 * 65536)) + (Go.bits .and .i64 a1 65535))) t260))) = false := decide_eq_false c74
          clear c74
          have H' := Aside0.mk H
          clear H
          go_wp2
          go_meet
          case rel => exact ⟨_, (false), (by first | rfl | (simp; done) | (simp [*]; done)), H', ⟨by first | omega | exact Nat.le_refl _⟩, ⟨by repeat (first | (with_reducible first | exact HB.out | apply below_alloc | apply pw_below_drewN | apply below_drew1) | exact HB.out)⟩⟩
    case rest =>
      clear HC71
      try clear c1
      try clear c2
      try clear p2
      try clear c3
      try clear c4
      try clear c5
      try clear c6
      try clear p6
      try clear c7
      try clear c8
      try clear c12
      try clear c12b0
      try clear c12b1
      try clear c13
      try clear c13b0
      try clear c13b1
      try clear c14
      try clear c14b0
      try clear c15
      try clear c15b0
      try clear c16
      try clear c16b0
      try clear c17
      try clear c17b0
      try clear c18
      try clear c18b0
      try clear c19
      try clear c19b0
      try clear c20
      try clear c20b0
      try clear c21
      try clear c21b0
      try clear c22
      try clear c22b0
      try clear c23
      try clear c23b0
      try clear c24
      try clear c24b0
      try clear c25
      try clear c25b0
      try clear c26
      try clear c26b0
      try clear c27
      try clear c27b0
      try clear c28
      try clear c28b0
      try clear c29
      try clear c29b0
      try clear c30
      try clear c30b0
      try clear c31
      try clear c31b0
      try clear c32
      try clear c32b0
      try clear c33
      try clear c33b0
      try clear c34
      try clear c34b0
      try clear c34b1
      try clear c34b2
      try clear c35
      try clear c35b0
      try clear c36
      try clear c36b0
      try clear c37
      try clear c37b0
      try clear c38
      try clear c38b0
      try clear c39
      try clear c39b0
      try clear c40
      try clear c40b0
      try clear c41
      try clear c41b0
      try clear c42
      try clear c42b0
      try clear c43
      try clear c43b0
      try clear c44
      try clear c44b0
      try clear c45
      try clear c45b0
      try clear c46
      try clear c46b0
      try clear c47
      try clear c47b0
      try clear c48
      try clear c48b0
      try clear c49
      try clear c49b0
      try clear c50
      try clear c50b0
      try clear c51
      try clear c51b0
      try clear c52
      try clear c52b0
      try clear c53
      try clear c53b0
      try clear c54
      try clear c54b0
      try clear c55
      try clear c58
      try clear c58b0
      try clear c58b1
      try clear c58b2
      try clear c59
      try clear c59b0
      try clear c59b1
      try clear c63
      try clear c63b0
      try clear c63b1
      try clear c64
      try clear c64b0
      try clear c64b1
      try clear p64
      try clear c73
      try clear c73b0
      try clear c73b1
      try clear c74
      try clear c74b0
      try clear p2
      try clear p6
      obtain ⟨kq, x115_70, rfl, HA, HJ70, HB⟩ := hcut
      cases kq with
      | zero => exact absurd HA.out (by simp [emulatorlaw01_WordDivides.j1])
      | succ kj70 =>
        have H := HA.out
        clear HA
        simp only [emulatorlaw01_WordDivides.j1] at H
        by_cases c75 : x115_70 = true
        · subst c75
          have H1 : (some false) = some r := by rw [if_pos rfl] at H; exact H
          clear H
          have H := H1
          clear H1
          exact absurd (H.trans (congrArg some hr_.out)) (by decide)
        · replace c75 := Bool.eq_false_iff.mpr c75
          subst c75
          have H1 : ((word_Mul.f a1 a2).bind fun bt276 => ((word_Div.f bt276.1 bt276.2.1 a2).bind fun bt279 => (if (bt279.2.2.2 == (t260 != 0)) = true then (if t260 = 0 then ((emulatorlaw01_alive.f kj70).bind fun t283 => (some t283)) else (if bt279.1 = (Go.bits .and .i64 a1 65535) then (if bt279.2.1 = 0 then ((emulatorlaw01_alive.f kj70).bind fun t284 => (some t284)) else (some false)) else (some false))) else (some false)))) = some r := by rw [if_neg (show ¬ (false = true) by decide)] at H; exact H
          clear H
          have H := H1
          clear H1
          replace H := Option.bind_eq_some_iff.mp H
          obtain ⟨⟨t276, t277, t278⟩, A760, H⟩ := H
          replace H : ((word_Div.f t276 t277 a2).bind fun bt279 => (if (bt279.2.2.2 == (t260 != 0)) = true then (if t260 = 0 then ((emulatorlaw01_alive.f kj70).bind fun t283 => (some t283)) else (if bt279.1 = (Go.bits .and .i64 a1 65535) then (if bt279.2.1 = 0 then ((emulatorlaw01_alive.f kj70).bind fun t284 => (some t284)) else (some false)) else (some false))) else (some false))) = some r := H
          have A76 := Aside0.mk A760
          clear A760
          replace H := Option.bind_eq_some_iff.mp H
          obtain ⟨⟨t279, t280, t281, t282⟩, A770, H⟩ := H
          replace H : (if (t282 == (t260 != 0)) = true then (if t260 = 0 then ((emulatorlaw01_alive.f kj70).bind fun t283 => (some t283)) else (if t279 = (Go.bits .and .i64 a1 65535) then (if t280 = 0 then ((emulatorlaw01_alive.f kj70).bind fun t284 => (some t284)) else (some false)) else (some false))) else (some false)) = some r := H
          have A77 := Aside0.mk A770
          clear A770
          by_cases c78 : (t282 == (t260 != 0)) = true
          · rw [if_pos c78] at H
            have c78b0 : (t282 == (t260 != 0)) = true := c78
            (try (have c78b1 : decide (t282 = (t260 != 0)) = true := by simpa using c78))
            (try (have c78b2 : (t282 == (t260 != 0)) = true := by simpa using c78))
            clear c78
            by_cases c79 : t260 = 0
            · rw [if_pos c79] at H
              have c79b0 : (t260 == 0) = true := beq_iff_eq.mpr c79
              have c79b1 : (t260 != 0) = false := bne_eq_false_iff_eq.mpr c79
              obtain rfl : t282 = false := by simpa [c79b1] using c78b0
              (try clear c78b0)
              (try clear c78b1)
              (try clear c78b2)
              clear c79
              replace H := Option.bind_eq_some_iff.mp H
              obtain ⟨t283, A800, H⟩ := H
              replace H : (some t283) = some r := H
              have A80 := Aside0.mk A800
              clear A800
              obtain rfl := Option.some.inj H
              go_wp2_with (first | ((with_reducible refine gate_callee (f := 16) rfl ?_); refine goesL_ (some 119) rfl rfl Tryd.func16 (by kernel_rfl) rfl #[.int .i64 a1, .int .i64 a2] rfl (by (try simp only [List.map_toArray, List.map_cons, List.map_nil]); first | done | rfl | (simp only [List.length_drop, List.length_take]; rfl)) ?_; (with_reducible refine (word_Mul.calls a1 a2 t276 t277 t278 _ A76.out).mono ?_); rintro e w' ⟨rfl, ⟨nd, rfl⟩⟩; refine ⟨_, rfl, ?_⟩) | ((with_reducible refine gate_callee (f := 18) rfl ?_); refine goesL_ (some 127) rfl rfl Tryd.func18 (by kernel_rfl) rfl #[.int .i64 t276, .int .i64 t277, .int .i64 a2] rfl (by (try simp only [List.map_toArray, List.map_cons, List.map_nil]); first | done | rfl | (simp only [List.length_drop, List.length_take]; rfl)) ?_; (with_reducible refine (word_Div.calls t276 t277 a2 t279 t280 t281 false _ (hS.go (by repeat (first | (with_reducible first | exact HB.out | apply below_alloc | apply pw_below_drewN | apply below_drew1) | exact HB.out))) A77.out).mono ?_); rintro e w81 ⟨rfl, hb⟩; refine ⟨_, rfl, ?_⟩; have n0_ := Aside0.mk (below_step (by repeat (first | (with_reducible first | exact HB.out | apply below_alloc | apply pw_below_drewN | apply below_drew1) | exact HB.out)) hb); clear HB; have HB := n0_; clear n0_; (try clear hb); (try clear hb2); (try clear hk); (try clear hi)) | (go_at_call 15; (with_reducible refine (emulatorlaw01_alive.calls kj70  t283 _ (hS.go (by repeat (first | (with_reducible first | exact HB.out | apply below_alloc | apply pw_below_drewN | apply below_drew1) | exact HB.out))) A80.out).mono ?_); rintro e w82 ⟨rfl, hb⟩; have n0_ := Aside0.mk (below_step (by repeat (first | (with_reducible first | exact HB.out | apply below_alloc | apply pw_below_drewN | apply below_drew1) | exact HB.out)) hb); clear HB; have HB := n0_; clear n0_; (try clear hb); (try clear hb2); (try clear hk); (try clear hi)))
              go_ret
              exact ⟨by first | rfl | (simp [errW_none, errW_some] <;> rfl) | (simp [*, errW_none, errW_some] <;> rfl), by repeat (first | (with_reducible first | exact HB.out | apply below_alloc | apply pw_below_drewN | apply below_drew1) | exact HB.out)⟩
            · rw [if_neg c79] at H
              have c79b0 : (t260 == 0) = false := beq_eq_false_iff_ne.mpr c79
              have c79b1 : (t260 != 0) = true := bne_iff_ne.mpr c79
              obtain rfl : t282 = true := by simpa [c79b1] using c78b0
              (try clear c78b0)
              (try clear c78b1)
              (try clear c78b2)
              by_cases c83 : t279 = (Go.bits .and .i64 a1 65535)
              · rw [if_pos c83] at H
                have c83b0 : (t279 == (Go.bits .and .i64 a1 65535)) = true := beq_iff_eq.mpr c83
                have c83b1 : (t279 != (Go.bits .and .i64 a1 65535)) = false := bne_eq_false_iff_eq.mpr c83
                clear c83
                by_cases c84 : t280 = 0
                · rw [if_pos c84] at H
                  have c84b0 : (t280 == 0) = true := beq_iff_eq.mpr c84
                  have c84b1 : (t280 != 0) = false := bne_eq_false_iff_eq.mpr c84
                  clear c84
                  replace H := Option.bind_eq_some_iff.mp H
                  obtain ⟨t284, A850, H⟩ := H
                  replace H : (some t284) = some r := H
                  have A85 := Aside0.mk A850
                  clear A850
                  obtain rfl := Option.some.inj H
                  go_wp2_with (first | ((with_reducible refine gate_callee (f := 16) rfl ?_); refine goesL_ (some 119) rfl rfl Tryd.func16 (by kernel_rfl) rfl #[.int .i64 a1, .int .i64 a2] rfl (by (try simp only [List.map_toArray, List.map_cons, List.map_nil]); first | done | rfl | (simp only [List.length_drop, List.length_take]; rfl)) ?_; (with_reducible refine (word_Mul.calls a1 a2 t276 t277 t278 _ A76.out).mono ?_); rintro e w' ⟨rfl, ⟨nd, rfl⟩⟩; refine ⟨_, rfl, ?_⟩) | ((with_reducible refine gate_callee (f := 18) rfl ?_); refine goesL_ (some 127) rfl rfl Tryd.func18 (by kernel_rfl) rfl #[.int .i64 t276, .int .i64 t277, .int .i64 a2] rfl (by (try simp only [List.map_toArray, List.map_cons, List.map_nil]); first | done | rfl | (simp only [List.length_drop, List.length_take]; rfl)) ?_; (with_reducible refine (word_Div.calls t276 t277 a2 t279 t280 t281 true _ (hS.go (by repeat (first | (with_reducible first | exact HB.out | apply below_alloc | apply pw_below_drewN | apply below_drew1) | exact HB.out))) A77.out).mono ?_); rintro e w86 ⟨rfl, hb⟩; refine ⟨_, rfl, ?_⟩; have n0_ := Aside0.mk (below_step (by repeat (first | (with_reducible first | exact HB.out | apply below_alloc | apply pw_below_drewN | apply below_drew1) | exact HB.out)) hb); clear HB; have HB := n0_; clear n0_; (try clear hb); (try clear hb2); (try clear hk); (try clear hi)) | (go_at_call 15; (with_reducible refine (emulatorlaw01_alive.calls kj70  t284 _ (hS.go (by repeat (first | (with_reducible first | exact HB.out | apply below_alloc | apply pw_below_drewN | apply below_drew1) | exact HB.out))) A85.out).mono ?_); rintro e w87 ⟨rfl, hb⟩; have n0_ := Aside0.mk (below_step (by repeat (first | (with_reducible first | exact HB.out | apply below_alloc | apply pw_below_drewN | apply below_drew1) | exact HB.out)) hb); clear HB; have HB := n0_; clear n0_; (try clear hb); (try clear hb2); (try clear hk); (try clear hi)))
                  go_ret
                  exact ⟨by first | rfl | (simp [errW_none, errW_some] <;> rfl) | (simp [*, errW_none, errW_some] <;> rfl), by repeat (first | (with_reducible first | exact HB.out | apply below_alloc | apply pw_below_drewN | apply below_drew1) | exact HB.out)⟩
                · rw [if_neg c84] at H
                  exact absurd (H.trans (congrArg some hr_.out)) (by decide)
              · rw [if_neg c83] at H
                exact absurd (H.trans (congrArg some hr_.out)) (by decide)
          · rw [if_neg c78] at H
            exact absurd (H.trans (congrArg some hr_.out)) (by decide)

end Go.Proofs.YtiodpkkigjfkgaaDoor.A
