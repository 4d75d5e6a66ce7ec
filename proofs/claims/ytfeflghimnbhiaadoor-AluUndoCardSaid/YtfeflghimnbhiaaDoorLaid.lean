/- The package variable 'sizes' of package word: what 'it reads as its initialiser lays it' gives the walks (Sz); and a start that meets it (the heap that the door's own run leaves). -/
import Derived.Test.YtfeflghimnbhiaaDoorRows
import Derived.Test.YtfeflghimnbhiaaDoorAx0
import Derived.ProofKit
import Derived.LaidMore
import Derived.OpenShut
import Derived.Stop.Joined
import Derived.Deep.Strs
namespace Go.Proofs.YtfeflghimnbhiaaDoor.Laid
open Go.ChangeShapes Go.WideShapes Go.ChangeAt Go.WideMaps Go.WideElems Go.RowKit Go.Deep
noncomputable abbrev laid {H : Type} : List (String × DataW H) := [("emulator/word.sizes", Rows.laid_emulator_word_sizes)]
theorem own : ownKnob Tryd.prog.godebug = none := by kernel_rfl
theorem laidOut : laidOutB Tryd.prog = true := by kernel_rfl
theorem gS : Tryd.prog.globalNamed "emulator/word.sizes" = some 0 := by kernel_rfl
theorem tS : (Tryd.prog.globals[0]?).map (·.type) = some 54 := by kernel_rfl
theorem door_met (os : Os) (args : Array Value) : laidMetH Tryd.prog laid ((World.doorLaid Tryd.prog 400 os).forCall (fun _ _ => 0) ⟨#[], args, []⟩).memory :=
  laidMetH_of_parts3 (fuel := 8) (laidMet_of_run' 8 (by kernel_rfl) (by kernel_rfl)) (by kernel_rfl) (by kernel_rfl)
set_option maxRecDepth 100000 in
theorem of_laid {W : World} (h : laidMetH Tryd.prog laid W) : A.Sz W := by
  rw [MakeChecks.laidMetH_plain _ _ _ (by kernel_rfl)] at h
  obtain ⟨ps, ⟨g0, t0, cs0, f0, p0, q0, hg0, ht0, hv0, hd0, _, _⟩, _, _⟩ := h
  obtain rfl := Option.some.inj (gS.symm.trans hg0)
  obtain rfl := Option.some.inj (tS.symm.trans ht0)
  obtain ⟨xs, m1, rfl, hx1, hlc, hn, hel⟩ := DataW.trod_array Tryd.underlying54 hd0
  have c3 : Tryd.prog.cellsOf 3 = 1 := by kernel_rfl
  have c42 : Tryd.prog.cellsOf 49 = 3 := by kernel_rfl
  have c49 : Tryd.prog.cellsOf 54 = 6 := by kernel_rfl
  obtain ⟨l⟩ := cs0
  rw [c49] at hlc
  have h0 := hel 0 (by decide)
  have h1 := hel 1 (by decide)
  rw [c42] at h0 h1
  match l, hlc with
  | [k0, k1, k2, k3, k4, k5], _ =>
  match xs, hn with
  | [x0, x1], _ =>
  obtain ⟨y0, y1, y2, n0, e0, _, t0, t1, t2⟩ := trod_struct3 Tryd.underlying49 (show DataW.trod _ _ _ _ _ _ m1 49 [k0, k1, k2] = some x0 from h0)
  obtain ⟨y3, y4, y5, n1, e1, _, t3, t4, t5⟩ := trod_struct3 Tryd.underlying49 (show DataW.trod _ _ _ _ _ _ m1 49 [k3, k4, k5] = some x1 from h1)
  subst e0; subst e1
  simp only [List.map_cons, List.map_nil, Prod.mk.injEq, Rows.laid_emulator_word_sizes, DataW.agg.injEq, List.cons.injEq] at hx1
  obtain ⟨⟨⟨q0, q1, q2, _⟩, ⟨q3, q4, q5, _⟩, _⟩, _⟩ := hx1
  rw [c3] at t0 t1 t2 t3 t4 t5
  obtain ⟨i0, a0, b0, _⟩ := DataW.trod_int Tryd.underlying3 (show DataW.trod _ _ _ _ _ _ n0 3 [k0] = some y0 from t0)
  obtain ⟨i1, a1, b1, _⟩ := DataW.trod_int Tryd.underlying3 (show DataW.trod _ _ _ _ _ _ n0 3 [k1] = some y1 from t1)
  obtain ⟨i2, a2, b2, _⟩ := DataW.trod_int Tryd.underlying3 (show DataW.trod _ _ _ _ _ _ n0 3 [k2] = some y2 from t2)
  obtain ⟨i3, a3, b3, _⟩ := DataW.trod_int Tryd.underlying3 (show DataW.trod _ _ _ _ _ _ n1 3 [k3] = some y3 from t3)
  obtain ⟨i4, a4, b4, _⟩ := DataW.trod_int Tryd.underlying3 (show DataW.trod _ _ _ _ _ _ n1 3 [k4] = some y4 from t4)
  obtain ⟨i5, a5, b5, _⟩ := DataW.trod_int Tryd.underlying3 (show DataW.trod _ _ _ _ _ _ n1 3 [k5] = some y5 from t5)
  subst b0 b1 b2 b3 b4 b5
  simp only [DataW.lit.injEq, Lit.int.injEq, true_and] at q0 q1 q2 q3 q4 q5
  subst q0 q1 q2 q3 q4 q5
  simp only [List.cons.injEq, and_true] at a0 a1 a2 a3 a4 a5
  subst a0 a1 a2 a3 a4 a5
  exact ⟨World.var?_cell hg0 hv0 0, World.var?_cell hg0 hv0 1, World.var?_cell hg0 hv0 2, World.var?_cell hg0 hv0 3, World.var?_cell hg0 hv0 4, World.var?_cell hg0 hv0 5⟩
end Go.Proofs.YtfeflghimnbhiaaDoor.Laid
