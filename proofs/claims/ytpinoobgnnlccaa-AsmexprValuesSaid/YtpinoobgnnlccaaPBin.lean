/- Of the proofs of the laws of emulatorlaw26: PBin. Conditions: those of each theorem. -/
import Derived.Test.YtpinoobgnnlccaaKAx0
import Derived.Test.YtpinoobgnnlccaaKAx10
import Derived.Test.YtpinoobgnnlccaaKAx1
/- Add, Sub and Binary as plain functions. -/
namespace Go.Proofs.Ytpinoobgnnlccaa.A
open Go Go.RowKit Go.Proofs.YtpinoobgnnlccaaW.PrintWords
set_option linter.unusedSimpArgs false
set_option linter.unusedVariables false
theorem sIs_lit (c : UInt8) (l : List UInt8) : sIs (⟨#[c]⟩ : ByteArray) l = ([c] == l) := by
  unfold sIs; rw [ByteArray.toList_eq]
theorem bin_add (a b : VV) : binS (⟨#[43]⟩ : ByteArray) a b = if vS a = true ∧ vS b = true then addS a b else ve 1 := by
  unfold binS isOp opS
  simp only [sIs_lit]
  by_cases c : vS a = true ∧ vS b = true
  · rw [if_pos c, if_pos ⟨by decide, c.1, c.2⟩, if_pos (by decide)]
  · rw [if_neg c, if_neg (fun g => c g.2)]
theorem bin_sub (a b : VV) : binS (⟨#[45]⟩ : ByteArray) a b = if vS a = true ∧ vS b = true then subS a b else ve 1 := by
  unfold binS isOp opS
  simp only [sIs_lit]
  by_cases c : vS a = true ∧ vS b = true
  · rw [if_pos c, if_pos ⟨by decide, c.1, c.2⟩, if_neg (by decide), if_pos (by decide)]
  · rw [if_neg c, if_neg (fun g => c g.2)]
theorem add_f (a b : VV) (ha : a.2.1.size ≤ 1000) (hb : b.2.1.size ≤ 1000) : asmexpr_Add.f a.1 a.2.1 a.2.2 b.1 b.2.1 b.2.2 = outV (if vS a = true ∧ vS b = true then addS a b else ve 1) := by
  rw [← bin_add]
  unfold asmexpr_Add.f asmexpr_Binary.f
  simp [ha, hb, outV]
theorem sub_f (a b : VV) (ha : a.2.1.size ≤ 1000) (hb : b.2.1.size ≤ 1000) : asmexpr_Sub.f a.1 a.2.1 a.2.2 b.1 b.2.1 b.2.2 = outV (if vS a = true ∧ vS b = true then subS a b else ve 1) := by
  rw [← bin_sub]
  unfold asmexpr_Sub.f asmexpr_Binary.f
  simp [ha, hb, outV]
theorem bin_f (o : ByteArray) (a b : VV) (ho : o.size ≤ 1000) (ha : a.2.1.size ≤ 1000) (hb : b.2.1.size ≤ 1000) : asmexpr_Binary.f o a.1 a.2.1 a.2.2 b.1 b.2.1 b.2.2 = outV (binS o a b) := by
  unfold asmexpr_Binary.f
  simp [ho, ha, hb, outV]
end Go.Proofs.Ytpinoobgnnlccaa.A
