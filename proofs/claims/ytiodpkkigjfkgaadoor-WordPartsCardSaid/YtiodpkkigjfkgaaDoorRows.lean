/-
  NARROWER THAN 'FOR EVERY INPUT', by the rows' own cells (each row's printed sentence says how): WordSums: laid · WordProducts: laid · WordShifts: laid · WordRotates: laid · WordUndo: laid · WordDivides: laid · WordTurns: laid · WordParts: laid.
  DERIVED. THE GIVEN ROWS OF THIS SEAT. 8 by the template 'for every input the law returns true; each argument reads behind the call as it read before'; 0 by the template 'total and deterministic' (their statements: YtiodpkkigjfkgaaDoorTotals.lean).
  GIVEN WITH THE SEED: the statements are not yours to turn. If you find one false, say at which input.
  Laid BY PROGRAM, IN A SANDBOX (cutbox-rows.mjs): the forced cells as the released guide's own fill.sh prints them over the translation 4009a2d65fa1677f… (all of the seat's roots in one cut). By AI agents, Wed Nov 11 2026. No macro, syntax, notation, axiom, sorry.
-/
import Derived.Test.YtiodpkkigjfkgaaDoorChecked
import GoSem.Claim
import GoSem.ClaimJoined
import GoSem.ClaimMapViews
import Derived.JoinedTies
import Derived.KernelRfl
namespace Go.Proofs.YtiodpkkigjfkgaaDoor
/- THE CELL 'sum', in the pinned program and in every row, IS THE sha256 OF THE DUMP (.gsa) THAT YtiodpkkigjfkgaaDoorProg.lean LOADS. Nothing in Lean hashes anything: it is a label: what it is worth is what the hold of that sum in a sandbox is worth. -/
noncomputable def Tryd.pinned : Pinned := { name := "ytiodpkkigjfkgaadoor", sum := "4009a2d65fa1677f26aa56dae6b0fca20740a8f1f0e78188d88afcc86d831caa", checked := Tryd.checked }
namespace Rows
def none {H : Type} : Left H := { results := [], args := [] }

/- WHAT THE LISTED PACKAGE-LEVEL VARIABLES READ AS WHEN THE CALL BEGINS. Each datum BY PROGRAM (the guide's laid-datum.mjs) off the statement by which the dump's own 'gosem.cut.vars' lays the variable. In a bare row this is a premise. The card (YtiodpkkigjfkgaaDoorCards.lean) ties it to the program's text. -/
def laid_emulator_word_sizes {H : Type} : DataW H := .agg [.agg [.lit (.int .i64 65535), .lit (.int .i64 32768), .lit (.int .i64 65536)], .agg [.lit (.int .i64 255), .lit (.int .i64 128), .lit (.int .i64 256)]]

/-- 'emulatorlaw01.WordSums': WHATEVER THE INPUT: true; the input reads as it did. -/
def wordSumsSpec : ChangeSpec := { name := "wordSums", fn := fun _ => fun
  | [d] => { results := [.lit (.bool true)], args := [d] }
  | _ => none }
def wordSumsRow : OpenClaim := { program := "ytiodpkkigjfkgaadoor", sum := "4009a2d65fa1677f26aa56dae6b0fca20740a8f1f0e78188d88afcc86d831caa", func := "emulator/emulatorlaw01.WordSums", spec := "wordSums", named := ["emulator/word.sizes"], apart := false, laid := [("emulator/word.sizes", laid_emulator_word_sizes)] }
def WordSumsSaid : Prop := wordSumsRow.holds Tryd.pinned (OpenSpec.ofChange wordSumsSpec)

/-- ITS FALSE NEIGHBOUR: 'it returns false'. Refute it at one input. -/
def wordSumsWrong : ChangeSpec := { name := "wordSums", fn := fun _ => fun
  | [d] => { results := [.lit (.bool false)], args := [d] }
  | _ => none }
def WordSumsWrongFalsely : Prop := wordSumsRow.holds Tryd.pinned (OpenSpec.ofChange wordSumsWrong)

/-- 'emulatorlaw01.WordProducts': WHATEVER THE INPUT: true; the input reads as it did. -/
def wordProductsSpec : ChangeSpec := { name := "wordProducts", fn := fun _ => fun
  | [d1, d2, d3] => { results := [.lit (.bool true)], args := [d1, d2, d3] }
  | _ => none }
def wordProductsRow : OpenClaim := { program := "ytiodpkkigjfkgaadoor", sum := "4009a2d65fa1677f26aa56dae6b0fca20740a8f1f0e78188d88afcc86d831caa", func := "emulator/emulatorlaw01.WordProducts", spec := "wordProducts", named := ["emulator/word.sizes"], apart := false, laid := [("emulator/word.sizes", laid_emulator_word_sizes)] }
def WordProductsSaid : Prop := wordProductsRow.holds Tryd.pinned (OpenSpec.ofChange wordProductsSpec)

/-- ITS FALSE NEIGHBOUR: 'it returns false'. Refute it at one input. -/
def wordProductsWrong : ChangeSpec := { name := "wordProducts", fn := fun _ => fun
  | [d1, d2, d3] => { results := [.lit (.bool false)], args := [d1, d2, d3] }
  | _ => none }
def WordProductsWrongFalsely : Prop := wordProductsRow.holds Tryd.pinned (OpenSpec.ofChange wordProductsWrong)

/-- 'emulatorlaw01.WordShifts': WHATEVER THE INPUT: true; the input reads as it did. -/
def wordShiftsSpec : ChangeSpec := { name := "wordShifts", fn := fun _ => fun
  | [d1, d2] => { results := [.lit (.bool true)], args := [d1, d2] }
  | _ => none }
def wordShiftsRow : OpenClaim := { program := "ytiodpkkigjfkgaadoor", sum := "4009a2d65fa1677f26aa56dae6b0fca20740a8f1f0e78188d88afcc86d831caa", func := "emulator/emulatorlaw01.WordShifts", spec := "wordShifts", named := ["emulator/word.sizes"], apart := false, laid := [("emulator/word.sizes", laid_emulator_word_sizes)] }
def WordShiftsSaid : Prop := wordShiftsRow.holds Tryd.pinned (OpenSpec.ofChange wordShiftsSpec)

/-- ITS FALSE NEIGHBOUR: 'it returns false'. Refute it at one input. -/
def wordShiftsWrong : ChangeSpec := { name := "wordShifts", fn := fun _ => fun
  | [d1, d2] => { results := [.lit (.bool false)], args := [d1, d2] }
  | _ => none }
def WordShiftsWrongFalsely : Prop := wordShiftsRow.holds Tryd.pinned (OpenSpec.ofChange wordShiftsWrong)

/-- 'emulatorlaw01.WordRotates': WHATEVER THE INPUT: true; the input reads as it did. -/
def wordRotatesSpec : ChangeSpec := { name := "wordRotates", fn := fun _ => fun
  | [d1, d2] => { results := [.lit (.bool true)], args := [d1, d2] }
  | _ => none }
def wordRotatesRow : OpenClaim := { program := "ytiodpkkigjfkgaadoor", sum := "4009a2d65fa1677f26aa56dae6b0fca20740a8f1f0e78188d88afcc86d831caa", func := "emulator/emulatorlaw01.WordRotates", spec := "wordRotates", named := ["emulator/word.sizes"], apart := false, laid := [("emulator/word.sizes", laid_emulator_word_sizes)] }
def WordRotatesSaid : Prop := wordRotatesRow.holds Tryd.pinned (OpenSpec.ofChange wordRotatesSpec)

/-- ITS FALSE NEIGHBOUR: 'it returns false'. Refute it at one input. -/
def wordRotatesWrong : ChangeSpec := { name := "wordRotates", fn := fun _ => fun
  | [d1, d2] => { results := [.lit (.bool false)], args := [d1, d2] }
  | _ => none }
def WordRotatesWrongFalsely : Prop := wordRotatesRow.holds Tryd.pinned (OpenSpec.ofChange wordRotatesWrong)

/-- 'emulatorlaw01.WordUndo': WHATEVER THE INPUT: true; the input reads as it did. -/
def wordUndoSpec : ChangeSpec := { name := "wordUndo", fn := fun _ => fun
  | [d] => { results := [.lit (.bool true)], args := [d] }
  | _ => none }
def wordUndoRow : OpenClaim := { program := "ytiodpkkigjfkgaadoor", sum := "4009a2d65fa1677f26aa56dae6b0fca20740a8f1f0e78188d88afcc86d831caa", func := "emulator/emulatorlaw01.WordUndo", spec := "wordUndo", named := ["emulator/word.sizes"], apart := false, laid := [("emulator/word.sizes", laid_emulator_word_sizes)] }
def WordUndoSaid : Prop := wordUndoRow.holds Tryd.pinned (OpenSpec.ofChange wordUndoSpec)

/-- ITS FALSE NEIGHBOUR: 'it returns false'. Refute it at one input. -/
def wordUndoWrong : ChangeSpec := { name := "wordUndo", fn := fun _ => fun
  | [d] => { results := [.lit (.bool false)], args := [d] }
  | _ => none }
def WordUndoWrongFalsely : Prop := wordUndoRow.holds Tryd.pinned (OpenSpec.ofChange wordUndoWrong)

/-- 'emulatorlaw01.WordDivides': WHATEVER THE INPUT: true; the input reads as it did. -/
def wordDividesSpec : ChangeSpec := { name := "wordDivides", fn := fun _ => fun
  | [d1, d2, d3] => { results := [.lit (.bool true)], args := [d1, d2, d3] }
  | _ => none }
def wordDividesRow : OpenClaim := { program := "ytiodpkkigjfkgaadoor", sum := "4009a2d65fa1677f26aa56dae6b0fca20740a8f1f0e78188d88afcc86d831caa", func := "emulator/emulatorlaw01.WordDivides", spec := "wordDivides", named := ["emulator/word.sizes"], apart := false, laid := [("emulator/word.sizes", laid_emulator_word_sizes)] }
def WordDividesSaid : Prop := wordDividesRow.holds Tryd.pinned (OpenSpec.ofChange wordDividesSpec)

/-- ITS FALSE NEIGHBOUR: 'it returns false'. Refute it at one input. -/
def wordDividesWrong : ChangeSpec := { name := "wordDivides", fn := fun _ => fun
  | [d1, d2, d3] => { results := [.lit (.bool false)], args := [d1, d2, d3] }
  | _ => none }
def WordDividesWrongFalsely : Prop := wordDividesRow.holds Tryd.pinned (OpenSpec.ofChange wordDividesWrong)

/-- 'emulatorlaw01.WordTurns': WHATEVER THE INPUT: true; the input reads as it did. -/
def wordTurnsSpec : ChangeSpec := { name := "wordTurns", fn := fun _ => fun
  | [d1, d2] => { results := [.lit (.bool true)], args := [d1, d2] }
  | _ => none }
def wordTurnsRow : OpenClaim := { program := "ytiodpkkigjfkgaadoor", sum := "4009a2d65fa1677f26aa56dae6b0fca20740a8f1f0e78188d88afcc86d831caa", func := "emulator/emulatorlaw01.WordTurns", spec := "wordTurns", named := ["emulator/word.sizes"], apart := false, laid := [("emulator/word.sizes", laid_emulator_word_sizes)] }
def WordTurnsSaid : Prop := wordTurnsRow.holds Tryd.pinned (OpenSpec.ofChange wordTurnsSpec)

/-- ITS FALSE NEIGHBOUR: 'it returns false'. Refute it at one input. -/
def wordTurnsWrong : ChangeSpec := { name := "wordTurns", fn := fun _ => fun
  | [d1, d2] => { results := [.lit (.bool false)], args := [d1, d2] }
  | _ => none }
def WordTurnsWrongFalsely : Prop := wordTurnsRow.holds Tryd.pinned (OpenSpec.ofChange wordTurnsWrong)

/-- 'emulatorlaw01.WordParts': WHATEVER THE INPUT: true; the input reads as it did. -/
def wordPartsSpec : ChangeSpec := { name := "wordParts", fn := fun _ => fun
  | [d1, d2] => { results := [.lit (.bool true)], args := [d1, d2] }
  | _ => none }
def wordPartsRow : OpenClaim := { program := "ytiodpkkigjfkgaadoor", sum := "4009a2d65fa1677f26aa56dae6b0fca20740a8f1f0e78188d88afcc86d831caa", func := "emulator/emulatorlaw01.WordParts", spec := "wordParts", named := ["emulator/word.sizes"], apart := false, laid := [("emulator/word.sizes", laid_emulator_word_sizes)] }
def WordPartsSaid : Prop := wordPartsRow.holds Tryd.pinned (OpenSpec.ofChange wordPartsSpec)

/-- ITS FALSE NEIGHBOUR: 'it returns false'. Refute it at one input. -/
def wordPartsWrong : ChangeSpec := { name := "wordParts", fn := fun _ => fun
  | [d1, d2] => { results := [.lit (.bool false)], args := [d1, d2] }
  | _ => none }
def WordPartsWrongFalsely : Prop := wordPartsRow.holds Tryd.pinned (OpenSpec.ofChange wordPartsWrong)

/- THE SECOND FORM. 'bulk': how many values and letters a reading holds, each counted each time it is reached (what is shared counts as often as it is met; a slice's spare places count too). A statement '..UptoSaid' is the law's where the arguments, and the package variables that the reading takes, are together of bulk at most 1048576: NARROWER than '..Said'. Prove '..Said' where nothing that the law and all that it calls make is longer than what came in: it says more and counts as full. Else prove '..UptoSaid'. A law counts once. -/
mutual
def uptoBulk {H : Type} : DataW H → Nat
  | .lit (.string bytes) => bytes.length + 1
  | .lit _ => 1
  | .nil => 1
  | .ptr d => uptoBulk d + 1
  | .slice elems spare => uptoBulkAll elems + uptoBulkAll spare + 1
  | .agg parts => uptoBulkAll parts + 1
  | .iface _ d => uptoBulk d + 1
  | .map entries => uptoBulkEntries entries + 1
  | .held _ => 1
def uptoBulkAll {H : Type} : List (DataW H) → Nat
  | [] => 0
  | d :: r => uptoBulk d + uptoBulkAll r
def uptoBulkEntries {H : Type} : List (Lit × DataW H) → Nat
  | [] => 0
  | x :: r => uptoBulkEntry x + uptoBulkEntries r
def uptoBulkEntry {H : Type} : Lit × DataW H → Nat
  | (.string bytes, d) => bytes.length + uptoBulk d + 1
  | (_, d) => uptoBulk d + 1
 end
def uptoSmall : (H : Type) → List (DataW H) → Bool := fun _ ds => decide (uptoBulkAll ds ≤ 1048576)
def OpenSpec.upto (s : _root_.Go.ChangeSpec) : _root_.Go.OpenSpec := { _root_.Go.OpenSpec.ofChange s with cond := some uptoSmall }

/-- 'emulatorlaw01.WordSums', WHERE WHAT IT READS IS OF BULK AT MOST 1048576: true; the input reads as it did. -/
def wordSumsUptoRow : OpenClaim := { program := "ytiodpkkigjfkgaadoor", sum := "4009a2d65fa1677f26aa56dae6b0fca20740a8f1f0e78188d88afcc86d831caa", func := "emulator/emulatorlaw01.WordSums", spec := "wordSums", named := ["emulator/word.sizes"], apart := false, laid := [("emulator/word.sizes", laid_emulator_word_sizes)], narrowed := true }
def WordSumsUptoSaid : Prop := wordSumsUptoRow.holds Tryd.pinned (OpenSpec.upto wordSumsSpec)

/-- 'emulatorlaw01.WordProducts', WHERE WHAT IT READS IS OF BULK AT MOST 1048576: true; the input reads as it did. -/
def wordProductsUptoRow : OpenClaim := { program := "ytiodpkkigjfkgaadoor", sum := "4009a2d65fa1677f26aa56dae6b0fca20740a8f1f0e78188d88afcc86d831caa", func := "emulator/emulatorlaw01.WordProducts", spec := "wordProducts", named := ["emulator/word.sizes"], apart := false, laid := [("emulator/word.sizes", laid_emulator_word_sizes)], narrowed := true }
def WordProductsUptoSaid : Prop := wordProductsUptoRow.holds Tryd.pinned (OpenSpec.upto wordProductsSpec)

/-- 'emulatorlaw01.WordShifts', WHERE WHAT IT READS IS OF BULK AT MOST 1048576: true; the input reads as it did. -/
def wordShiftsUptoRow : OpenClaim := { program := "ytiodpkkigjfkgaadoor", sum := "4009a2d65fa1677f26aa56dae6b0fca20740a8f1f0e78188d88afcc86d831caa", func := "emulator/emulatorlaw01.WordShifts", spec := "wordShifts", named := ["emulator/word.sizes"], apart := false, laid := [("emulator/word.sizes", laid_emulator_word_sizes)], narrowed := true }
def WordShiftsUptoSaid : Prop := wordShiftsUptoRow.holds Tryd.pinned (OpenSpec.upto wordShiftsSpec)

/-- 'emulatorlaw01.WordRotates', WHERE WHAT IT READS IS OF BULK AT MOST 1048576: true; the input reads as it did. -/
def wordRotatesUptoRow : OpenClaim := { program := "ytiodpkkigjfkgaadoor", sum := "4009a2d65fa1677f26aa56dae6b0fca20740a8f1f0e78188d88afcc86d831caa", func := "emulator/emulatorlaw01.WordRotates", spec := "wordRotates", named := ["emulator/word.sizes"], apart := false, laid := [("emulator/word.sizes", laid_emulator_word_sizes)], narrowed := true }
def WordRotatesUptoSaid : Prop := wordRotatesUptoRow.holds Tryd.pinned (OpenSpec.upto wordRotatesSpec)

/-- 'emulatorlaw01.WordUndo', WHERE WHAT IT READS IS OF BULK AT MOST 1048576: true; the input reads as it did. -/
def wordUndoUptoRow : OpenClaim := { program := "ytiodpkkigjfkgaadoor", sum := "4009a2d65fa1677f26aa56dae6b0fca20740a8f1f0e78188d88afcc86d831caa", func := "emulator/emulatorlaw01.WordUndo", spec := "wordUndo", named := ["emulator/word.sizes"], apart := false, laid := [("emulator/word.sizes", laid_emulator_word_sizes)], narrowed := true }
def WordUndoUptoSaid : Prop := wordUndoUptoRow.holds Tryd.pinned (OpenSpec.upto wordUndoSpec)

/-- 'emulatorlaw01.WordDivides', WHERE WHAT IT READS IS OF BULK AT MOST 1048576: true; the input reads as it did. -/
def wordDividesUptoRow : OpenClaim := { program := "ytiodpkkigjfkgaadoor", sum := "4009a2d65fa1677f26aa56dae6b0fca20740a8f1f0e78188d88afcc86d831caa", func := "emulator/emulatorlaw01.WordDivides", spec := "wordDivides", named := ["emulator/word.sizes"], apart := false, laid := [("emulator/word.sizes", laid_emulator_word_sizes)], narrowed := true }
def WordDividesUptoSaid : Prop := wordDividesUptoRow.holds Tryd.pinned (OpenSpec.upto wordDividesSpec)

/-- 'emulatorlaw01.WordTurns', WHERE WHAT IT READS IS OF BULK AT MOST 1048576: true; the input reads as it did. -/
def wordTurnsUptoRow : OpenClaim := { program := "ytiodpkkigjfkgaadoor", sum := "4009a2d65fa1677f26aa56dae6b0fca20740a8f1f0e78188d88afcc86d831caa", func := "emulator/emulatorlaw01.WordTurns", spec := "wordTurns", named := ["emulator/word.sizes"], apart := false, laid := [("emulator/word.sizes", laid_emulator_word_sizes)], narrowed := true }
def WordTurnsUptoSaid : Prop := wordTurnsUptoRow.holds Tryd.pinned (OpenSpec.upto wordTurnsSpec)

/-- 'emulatorlaw01.WordParts', WHERE WHAT IT READS IS OF BULK AT MOST 1048576: true; the input reads as it did. -/
def wordPartsUptoRow : OpenClaim := { program := "ytiodpkkigjfkgaadoor", sum := "4009a2d65fa1677f26aa56dae6b0fca20740a8f1f0e78188d88afcc86d831caa", func := "emulator/emulatorlaw01.WordParts", spec := "wordParts", named := ["emulator/word.sizes"], apart := false, laid := [("emulator/word.sizes", laid_emulator_word_sizes)], narrowed := true }
def WordPartsUptoSaid : Prop := wordPartsUptoRow.holds Tryd.pinned (OpenSpec.upto wordPartsSpec)

end Rows
end Go.Proofs.YtiodpkkigjfkgaaDoor
