/-
  NARROWER THAN 'FOR EVERY INPUT', by the rows' own cells (each row's printed sentence says how): AluDoubles: laid · AluSingles: laid · AluBranches: laid · AluLongs: laid · AluPairs: laid · AluCompares: laid · AluUndo: laid.
  DERIVED. THE GIVEN ROWS OF THIS SEAT. 7 by the template 'for every input the law returns true; each argument reads behind the call as it read before'; 0 by the template 'total and deterministic' (their statements: YtfeflghimnbhiaaDoorTotals.lean).
  GIVEN WITH THE SEED: the statements are not yours to turn. If you find one false, say at which input.
  Laid BY PROGRAM, IN A SANDBOX (cutbox-rows.mjs): the forced cells as the released guide's own fill.sh prints them over the translation ae427ea49e649dbb… (all of the seat's roots in one cut). By AI agents, Wed Nov 11 2026. No macro, syntax, notation, axiom, sorry.
-/
import Derived.Test.YtfeflghimnbhiaaDoorChecked
import GoSem.Claim
import GoSem.ClaimJoined
import GoSem.ClaimMapViews
import Derived.JoinedTies
import Derived.KernelRfl
namespace Go.Proofs.YtfeflghimnbhiaaDoor
/- THE CELL 'sum', in the pinned program and in every row, IS THE sha256 OF THE DUMP (.gsa) THAT YtfeflghimnbhiaaDoorProg.lean LOADS. Nothing in Lean hashes anything: it is a label: what it is worth is what the hold of that sum in a sandbox is worth. -/
noncomputable def Tryd.pinned : Pinned := { name := "ytfeflghimnbhiaadoor", sum := "ae427ea49e649dbb97efab7ba468b733a8f33b98023bca8d40c484bcfcc01345", checked := Tryd.checked }
namespace Rows
def none {H : Type} : Left H := { results := [], args := [] }

/- WHAT THE LISTED PACKAGE-LEVEL VARIABLES READ AS WHEN THE CALL BEGINS. Each datum BY PROGRAM (the guide's laid-datum.mjs) off the statement by which the dump's own 'gosem.cut.vars' lays the variable. In a bare row this is a premise. The card (YtfeflghimnbhiaaDoorCards.lean) ties it to the program's text. -/
def laid_emulator_word_sizes {H : Type} : DataW H := .agg [.agg [.lit (.int .i64 65535), .lit (.int .i64 32768), .lit (.int .i64 65536)], .agg [.lit (.int .i64 255), .lit (.int .i64 128), .lit (.int .i64 256)]]

/-- 'emulatorlaw10.AluDoubles': WHATEVER THE INPUT: true; the input reads as it did. -/
def aluDoublesSpec : ChangeSpec := { name := "aluDoubles", fn := fun _ => fun
  | [d] => { results := [.lit (.bool true)], args := [d] }
  | _ => none }
def aluDoublesRow : OpenClaim := { program := "ytfeflghimnbhiaadoor", sum := "ae427ea49e649dbb97efab7ba468b733a8f33b98023bca8d40c484bcfcc01345", func := "emulator/emulatorlaw10.AluDoubles", spec := "aluDoubles", named := ["emulator/word.sizes"], apart := false, laid := [("emulator/word.sizes", laid_emulator_word_sizes)] }
def AluDoublesSaid : Prop := aluDoublesRow.holds Tryd.pinned (OpenSpec.ofChange aluDoublesSpec)

/-- ITS FALSE NEIGHBOUR: 'it returns false'. Refute it at one input. -/
def aluDoublesWrong : ChangeSpec := { name := "aluDoubles", fn := fun _ => fun
  | [d] => { results := [.lit (.bool false)], args := [d] }
  | _ => none }
def AluDoublesWrongFalsely : Prop := aluDoublesRow.holds Tryd.pinned (OpenSpec.ofChange aluDoublesWrong)

/-- 'emulatorlaw10.AluSingles': WHATEVER THE INPUT: true; the input reads as it did. -/
def aluSinglesSpec : ChangeSpec := { name := "aluSingles", fn := fun _ => fun
  | [d] => { results := [.lit (.bool true)], args := [d] }
  | _ => none }
def aluSinglesRow : OpenClaim := { program := "ytfeflghimnbhiaadoor", sum := "ae427ea49e649dbb97efab7ba468b733a8f33b98023bca8d40c484bcfcc01345", func := "emulator/emulatorlaw10.AluSingles", spec := "aluSingles", named := ["emulator/word.sizes"], apart := false, laid := [("emulator/word.sizes", laid_emulator_word_sizes)] }
def AluSinglesSaid : Prop := aluSinglesRow.holds Tryd.pinned (OpenSpec.ofChange aluSinglesSpec)

/-- ITS FALSE NEIGHBOUR: 'it returns false'. Refute it at one input. -/
def aluSinglesWrong : ChangeSpec := { name := "aluSingles", fn := fun _ => fun
  | [d] => { results := [.lit (.bool false)], args := [d] }
  | _ => none }
def AluSinglesWrongFalsely : Prop := aluSinglesRow.holds Tryd.pinned (OpenSpec.ofChange aluSinglesWrong)

/-- 'emulatorlaw10.AluBranches': WHATEVER THE INPUT: true; the input reads as it did. -/
def aluBranchesSpec : ChangeSpec := { name := "aluBranches", fn := fun _ => fun
  | [d1, d2] => { results := [.lit (.bool true)], args := [d1, d2] }
  | _ => none }
def aluBranchesRow : OpenClaim := { program := "ytfeflghimnbhiaadoor", sum := "ae427ea49e649dbb97efab7ba468b733a8f33b98023bca8d40c484bcfcc01345", func := "emulator/emulatorlaw10.AluBranches", spec := "aluBranches", named := ["emulator/word.sizes"], apart := false, laid := [("emulator/word.sizes", laid_emulator_word_sizes)] }
def AluBranchesSaid : Prop := aluBranchesRow.holds Tryd.pinned (OpenSpec.ofChange aluBranchesSpec)

/-- ITS FALSE NEIGHBOUR: 'it returns false'. Refute it at one input. -/
def aluBranchesWrong : ChangeSpec := { name := "aluBranches", fn := fun _ => fun
  | [d1, d2] => { results := [.lit (.bool false)], args := [d1, d2] }
  | _ => none }
def AluBranchesWrongFalsely : Prop := aluBranchesRow.holds Tryd.pinned (OpenSpec.ofChange aluBranchesWrong)

/-- 'emulatorlaw10.AluLongs': WHATEVER THE INPUT: true; the input reads as it did. -/
def aluLongsSpec : ChangeSpec := { name := "aluLongs", fn := fun _ => fun
  | [d] => { results := [.lit (.bool true)], args := [d] }
  | _ => none }
def aluLongsRow : OpenClaim := { program := "ytfeflghimnbhiaadoor", sum := "ae427ea49e649dbb97efab7ba468b733a8f33b98023bca8d40c484bcfcc01345", func := "emulator/emulatorlaw10.AluLongs", spec := "aluLongs", named := ["emulator/word.sizes"], apart := false, laid := [("emulator/word.sizes", laid_emulator_word_sizes)] }
def AluLongsSaid : Prop := aluLongsRow.holds Tryd.pinned (OpenSpec.ofChange aluLongsSpec)

/-- ITS FALSE NEIGHBOUR: 'it returns false'. Refute it at one input. -/
def aluLongsWrong : ChangeSpec := { name := "aluLongs", fn := fun _ => fun
  | [d] => { results := [.lit (.bool false)], args := [d] }
  | _ => none }
def AluLongsWrongFalsely : Prop := aluLongsRow.holds Tryd.pinned (OpenSpec.ofChange aluLongsWrong)

/-- 'emulatorlaw10.AluPairs': WHATEVER THE INPUT: true; the input reads as it did. -/
def aluPairsSpec : ChangeSpec := { name := "aluPairs", fn := fun _ => fun
  | [d] => { results := [.lit (.bool true)], args := [d] }
  | _ => none }
def aluPairsRow : OpenClaim := { program := "ytfeflghimnbhiaadoor", sum := "ae427ea49e649dbb97efab7ba468b733a8f33b98023bca8d40c484bcfcc01345", func := "emulator/emulatorlaw10.AluPairs", spec := "aluPairs", named := ["emulator/word.sizes"], apart := false, laid := [("emulator/word.sizes", laid_emulator_word_sizes)] }
def AluPairsSaid : Prop := aluPairsRow.holds Tryd.pinned (OpenSpec.ofChange aluPairsSpec)

/-- ITS FALSE NEIGHBOUR: 'it returns false'. Refute it at one input. -/
def aluPairsWrong : ChangeSpec := { name := "aluPairs", fn := fun _ => fun
  | [d] => { results := [.lit (.bool false)], args := [d] }
  | _ => none }
def AluPairsWrongFalsely : Prop := aluPairsRow.holds Tryd.pinned (OpenSpec.ofChange aluPairsWrong)

/-- 'emulatorlaw10.AluCompares': WHATEVER THE INPUT: true; the input reads as it did. -/
def aluComparesSpec : ChangeSpec := { name := "aluCompares", fn := fun _ => fun
  | [d1, d2, d3, d4] => { results := [.lit (.bool true)], args := [d1, d2, d3, d4] }
  | _ => none }
def aluComparesRow : OpenClaim := { program := "ytfeflghimnbhiaadoor", sum := "ae427ea49e649dbb97efab7ba468b733a8f33b98023bca8d40c484bcfcc01345", func := "emulator/emulatorlaw10.AluCompares", spec := "aluCompares", named := ["emulator/word.sizes"], apart := false, laid := [("emulator/word.sizes", laid_emulator_word_sizes)] }
def AluComparesSaid : Prop := aluComparesRow.holds Tryd.pinned (OpenSpec.ofChange aluComparesSpec)

/-- ITS FALSE NEIGHBOUR: 'it returns false'. Refute it at one input. -/
def aluComparesWrong : ChangeSpec := { name := "aluCompares", fn := fun _ => fun
  | [d1, d2, d3, d4] => { results := [.lit (.bool false)], args := [d1, d2, d3, d4] }
  | _ => none }
def AluComparesWrongFalsely : Prop := aluComparesRow.holds Tryd.pinned (OpenSpec.ofChange aluComparesWrong)

/-- 'emulatorlaw10.AluUndo': WHATEVER THE INPUT: true; the input reads as it did. -/
def aluUndoSpec : ChangeSpec := { name := "aluUndo", fn := fun _ => fun
  | [d1, d2, d3, d4] => { results := [.lit (.bool true)], args := [d1, d2, d3, d4] }
  | _ => none }
def aluUndoRow : OpenClaim := { program := "ytfeflghimnbhiaadoor", sum := "ae427ea49e649dbb97efab7ba468b733a8f33b98023bca8d40c484bcfcc01345", func := "emulator/emulatorlaw10.AluUndo", spec := "aluUndo", named := ["emulator/word.sizes"], apart := false, laid := [("emulator/word.sizes", laid_emulator_word_sizes)] }
def AluUndoSaid : Prop := aluUndoRow.holds Tryd.pinned (OpenSpec.ofChange aluUndoSpec)

/-- ITS FALSE NEIGHBOUR: 'it returns false'. Refute it at one input. -/
def aluUndoWrong : ChangeSpec := { name := "aluUndo", fn := fun _ => fun
  | [d1, d2, d3, d4] => { results := [.lit (.bool false)], args := [d1, d2, d3, d4] }
  | _ => none }
def AluUndoWrongFalsely : Prop := aluUndoRow.holds Tryd.pinned (OpenSpec.ofChange aluUndoWrong)

/- THE SECOND FORM. 'bulk': how many values and letters a reading holds, each counted each time it is reached (what is shared counts as often as it is met; a slice's spare places count too). A statement '..UptoSaid' is the law's where the arguments, and the package variables that the reading takes, are together of bulk at most 1048576: NARROWER than '..Said'. Prove '..Said' where nothing that the law and all that it calls make is longer than what came in: it says more and counts as full. Else prove '..UptoSaid'. A law counts once. -/
mutual
def uptoBulk {H : Type} : DataW H → Nat
  | .lit (.string bytes) => bytes.length + 1
  | .lit _ => 1
  | .nil => 1
  | .ptr d => uptoBulk d + 1
  | .slice elems spare => uptoBulkAll elems + uptoBulkAll spare + 1
  | .agg parts => uptoBulkAll parts + 1
  | .iface _ d => uptoBulk d + 1
  | .map entries => uptoBulkEntries entries + 1
  | .held _ => 1
def uptoBulkAll {H : Type} : List (DataW H) → Nat
  | [] => 0
  | d :: r => uptoBulk d + uptoBulkAll r
def uptoBulkEntries {H : Type} : List (Lit × DataW H) → Nat
  | [] => 0
  | x :: r => uptoBulkEntry x + uptoBulkEntries r
def uptoBulkEntry {H : Type} : Lit × DataW H → Nat
  | (.string bytes, d) => bytes.length + uptoBulk d + 1
  | (_, d) => uptoBulk d + 1
 end
def uptoSmall : (H : Type) → List (DataW H) → Bool := fun _ ds => decide (uptoBulkAll ds ≤ 1048576)
def OpenSpec.upto (s : _root_.Go.ChangeSpec) : _root_.Go.OpenSpec := { _root_.Go.OpenSpec.ofChange s with cond := some uptoSmall }

/-- 'emulatorlaw10.AluDoubles', WHERE WHAT IT READS IS OF BULK AT MOST 1048576: true; the input reads as it did. -/
def aluDoublesUptoRow : OpenClaim := { program := "ytfeflghimnbhiaadoor", sum := "ae427ea49e649dbb97efab7ba468b733a8f33b98023bca8d40c484bcfcc01345", func := "emulator/emulatorlaw10.AluDoubles", spec := "aluDoubles", named := ["emulator/word.sizes"], apart := false, laid := [("emulator/word.sizes", laid_emulator_word_sizes)], narrowed := true }
def AluDoublesUptoSaid : Prop := aluDoublesUptoRow.holds Tryd.pinned (OpenSpec.upto aluDoublesSpec)

/-- 'emulatorlaw10.AluSingles', WHERE WHAT IT READS IS OF BULK AT MOST 1048576: true; the input reads as it did. -/
def aluSinglesUptoRow : OpenClaim := { program := "ytfeflghimnbhiaadoor", sum := "ae427ea49e649dbb97efab7ba468b733a8f33b98023bca8d40c484bcfcc01345", func := "emulator/emulatorlaw10.AluSingles", spec := "aluSingles", named := ["emulator/word.sizes"], apart := false, laid := [("emulator/word.sizes", laid_emulator_word_sizes)], narrowed := true }
def AluSinglesUptoSaid : Prop := aluSinglesUptoRow.holds Tryd.pinned (OpenSpec.upto aluSinglesSpec)

/-- 'emulatorlaw10.AluBranches', WHERE WHAT IT READS IS OF BULK AT MOST 1048576: true; the input reads as it did. -/
def aluBranchesUptoRow : OpenClaim := { program := "ytfeflghimnbhiaadoor", sum := "ae427ea49e649dbb97efab7ba468b733a8f33b98023bca8d40c484bcfcc01345", func := "emulator/emulatorlaw10.AluBranches", spec := "aluBranches", named := ["emulator/word.sizes"], apart := false, laid := [("emulator/word.sizes", laid_emulator_word_sizes)], narrowed := true }
def AluBranchesUptoSaid : Prop := aluBranchesUptoRow.holds Tryd.pinned (OpenSpec.upto aluBranchesSpec)

/-- 'emulatorlaw10.AluLongs', WHERE WHAT IT READS IS OF BULK AT MOST 1048576: true; the input reads as it did. -/
def aluLongsUptoRow : OpenClaim := { program := "ytfeflghimnbhiaadoor", sum := "ae427ea49e649dbb97efab7ba468b733a8f33b98023bca8d40c484bcfcc01345", func := "emulator/emulatorlaw10.AluLongs", spec := "aluLongs", named := ["emulator/word.sizes"], apart := false, laid := [("emulator/word.sizes", laid_emulator_word_sizes)], narrowed := true }
def AluLongsUptoSaid : Prop := aluLongsUptoRow.holds Tryd.pinned (OpenSpec.upto aluLongsSpec)

/-- 'emulatorlaw10.AluPairs', WHERE WHAT IT READS IS OF BULK AT MOST 1048576: true; the input reads as it did. -/
def aluPairsUptoRow : OpenClaim := { program := "ytfeflghimnbhiaadoor", sum := "ae427ea49e649dbb97efab7ba468b733a8f33b98023bca8d40c484bcfcc01345", func := "emulator/emulatorlaw10.AluPairs", spec := "aluPairs", named := ["emulator/word.sizes"], apart := false, laid := [("emulator/word.sizes", laid_emulator_word_sizes)], narrowed := true }
def AluPairsUptoSaid : Prop := aluPairsUptoRow.holds Tryd.pinned (OpenSpec.upto aluPairsSpec)

/-- 'emulatorlaw10.AluCompares', WHERE WHAT IT READS IS OF BULK AT MOST 1048576: true; the input reads as it did. -/
def aluComparesUptoRow : OpenClaim := { program := "ytfeflghimnbhiaadoor", sum := "ae427ea49e649dbb97efab7ba468b733a8f33b98023bca8d40c484bcfcc01345", func := "emulator/emulatorlaw10.AluCompares", spec := "aluCompares", named := ["emulator/word.sizes"], apart := false, laid := [("emulator/word.sizes", laid_emulator_word_sizes)], narrowed := true }
def AluComparesUptoSaid : Prop := aluComparesUptoRow.holds Tryd.pinned (OpenSpec.upto aluComparesSpec)

/-- 'emulatorlaw10.AluUndo', WHERE WHAT IT READS IS OF BULK AT MOST 1048576: true; the input reads as it did. -/
def aluUndoUptoRow : OpenClaim := { program := "ytfeflghimnbhiaadoor", sum := "ae427ea49e649dbb97efab7ba468b733a8f33b98023bca8d40c484bcfcc01345", func := "emulator/emulatorlaw10.AluUndo", spec := "aluUndo", named := ["emulator/word.sizes"], apart := false, laid := [("emulator/word.sizes", laid_emulator_word_sizes)], narrowed := true }
def AluUndoUptoSaid : Prop := aluUndoUptoRow.holds Tryd.pinned (OpenSpec.upto aluUndoSpec)

end Rows
end Go.Proofs.YtfeflghimnbhiaaDoor
