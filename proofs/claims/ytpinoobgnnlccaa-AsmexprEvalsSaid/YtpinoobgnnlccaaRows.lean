/-
  No cell of these rows narrows 'for every input' (looked for: loops, veiled, ifaces, maps, wideKeys, modest, calm, conditions, laid).
  DERIVED. THE GIVEN ROWS OF THIS SEAT. 6 by the template 'for every input the law returns true; each argument reads behind the call as it read before'; 0 by the template 'total and deterministic' (their statements: YtpinoobgnnlccaaTotals.lean).
  GIVEN WITH THE SEED: the statements are not yours to turn. If you find one false, say at which input.
  Laid BY PROGRAM, IN A SANDBOX (cutbox-rows.mjs): the forced cells as the released guide's own fill.sh prints them over the translation ef5a6a6044a50082… (all of the seat's roots in one cut). By AI agents, Wed Nov 11 2026. No macro, syntax, notation, axiom, sorry.
-/
import Derived.Test.YtpinoobgnnlccaaChecked
import GoSem.Claim
import GoSem.ClaimJoined
import GoSem.ClaimMapViews
import Derived.JoinedTies
import Derived.KernelRfl
namespace Go.Proofs.Ytpinoobgnnlccaa
/- THE CELL 'sum', in the pinned program and in every row, IS THE sha256 OF THE DUMP (.gsa) THAT YtpinoobgnnlccaaProg.lean LOADS. Nothing in Lean hashes anything: it is a label: what it is worth is what the hold of that sum in a sandbox is worth. -/
noncomputable def Try.pinned : Pinned := { name := "ytpinoobgnnlccaa", sum := "ef5a6a6044a500827cf285de908ba9a64a411ec366204f789ce852579b66325a", checked := Try.checked }
namespace Rows
def none {H : Type} : Left H := { results := [], args := [] }

/-- 'emulatorlaw26.AsmexprEvals': WHATEVER THE INPUT: true; the input reads as it did. -/
def asmexprEvalsSpec : ChangeSpec := { name := "asmexprEvals", fn := fun _ => fun
  | [d1, d2] => { results := [.lit (.bool true)], args := [d1, d2] }
  | _ => none }
def asmexprEvalsRow : OpenClaim := { program := "ytpinoobgnnlccaa", sum := "ef5a6a6044a500827cf285de908ba9a64a411ec366204f789ce852579b66325a", func := "emulator/emulatorlaw26.AsmexprEvals", spec := "asmexprEvals", unfollowed := true, recurses := true, apart := false }
def AsmexprEvalsSaid : Prop := asmexprEvalsRow.holds Try.pinned (OpenSpec.ofChange asmexprEvalsSpec)

/-- ITS FALSE NEIGHBOUR: 'it returns false'. Refute it at one input. -/
def asmexprEvalsWrong : ChangeSpec := { name := "asmexprEvals", fn := fun _ => fun
  | [d1, d2] => { results := [.lit (.bool false)], args := [d1, d2] }
  | _ => none }
def AsmexprEvalsWrongFalsely : Prop := asmexprEvalsRow.holds Try.pinned (OpenSpec.ofChange asmexprEvalsWrong)

/-- 'emulatorlaw26.AsmexprFinds': WHATEVER THE INPUT: true; the input reads as it did. -/
def asmexprFindsSpec : ChangeSpec := { name := "asmexprFinds", fn := fun _ => fun
  | [d1, d2] => { results := [.lit (.bool true)], args := [d1, d2] }
  | _ => none }
def asmexprFindsRow : OpenClaim := { program := "ytpinoobgnnlccaa", sum := "ef5a6a6044a500827cf285de908ba9a64a411ec366204f789ce852579b66325a", func := "emulator/emulatorlaw26.AsmexprFinds", spec := "asmexprFinds", unfollowed := true, recurses := true, apart := false }
def AsmexprFindsSaid : Prop := asmexprFindsRow.holds Try.pinned (OpenSpec.ofChange asmexprFindsSpec)

/-- ITS FALSE NEIGHBOUR: 'it returns false'. Refute it at one input. -/
def asmexprFindsWrong : ChangeSpec := { name := "asmexprFinds", fn := fun _ => fun
  | [d1, d2] => { results := [.lit (.bool false)], args := [d1, d2] }
  | _ => none }
def AsmexprFindsWrongFalsely : Prop := asmexprFindsRow.holds Try.pinned (OpenSpec.ofChange asmexprFindsWrong)

/-- 'emulatorlaw26.AsmexprBrackets': WHATEVER THE INPUT: true; the input reads as it did. -/
def asmexprBracketsSpec : ChangeSpec := { name := "asmexprBrackets", fn := fun _ => fun
  | [d1, d2] => { results := [.lit (.bool true)], args := [d1, d2] }
  | _ => none }
def asmexprBracketsRow : OpenClaim := { program := "ytpinoobgnnlccaa", sum := "ef5a6a6044a500827cf285de908ba9a64a411ec366204f789ce852579b66325a", func := "emulator/emulatorlaw26.AsmexprBrackets", spec := "asmexprBrackets", unfollowed := true, recurses := true, apart := false }
def AsmexprBracketsSaid : Prop := asmexprBracketsRow.holds Try.pinned (OpenSpec.ofChange asmexprBracketsSpec)

/-- ITS FALSE NEIGHBOUR: 'it returns false'. Refute it at one input. -/
def asmexprBracketsWrong : ChangeSpec := { name := "asmexprBrackets", fn := fun _ => fun
  | [d1, d2] => { results := [.lit (.bool false)], args := [d1, d2] }
  | _ => none }
def AsmexprBracketsWrongFalsely : Prop := asmexprBracketsRow.holds Try.pinned (OpenSpec.ofChange asmexprBracketsWrong)

/-- 'emulatorlaw26.AsmexprMoves': WHATEVER THE INPUT: true; the input reads as it did. -/
def asmexprMovesSpec : ChangeSpec := { name := "asmexprMoves", fn := fun _ => fun
  | [d1, d2, d3] => { results := [.lit (.bool true)], args := [d1, d2, d3] }
  | _ => none }
def asmexprMovesRow : OpenClaim := { program := "ytpinoobgnnlccaa", sum := "ef5a6a6044a500827cf285de908ba9a64a411ec366204f789ce852579b66325a", func := "emulator/emulatorlaw26.AsmexprMoves", spec := "asmexprMoves", unfollowed := true, recurses := true, apart := false }
def AsmexprMovesSaid : Prop := asmexprMovesRow.holds Try.pinned (OpenSpec.ofChange asmexprMovesSpec)

/-- ITS FALSE NEIGHBOUR: 'it returns false'. Refute it at one input. -/
def asmexprMovesWrong : ChangeSpec := { name := "asmexprMoves", fn := fun _ => fun
  | [d1, d2, d3] => { results := [.lit (.bool false)], args := [d1, d2, d3] }
  | _ => none }
def AsmexprMovesWrongFalsely : Prop := asmexprMovesRow.holds Try.pinned (OpenSpec.ofChange asmexprMovesWrong)

/-- 'emulatorlaw26.AsmexprValues': WHATEVER THE INPUT: true; the input reads as it did. -/
def asmexprValuesSpec : ChangeSpec := { name := "asmexprValues", fn := fun _ => fun
  | [d1, d2, d3] => { results := [.lit (.bool true)], args := [d1, d2, d3] }
  | _ => none }
def asmexprValuesRow : OpenClaim := { program := "ytpinoobgnnlccaa", sum := "ef5a6a6044a500827cf285de908ba9a64a411ec366204f789ce852579b66325a", func := "emulator/emulatorlaw26.AsmexprValues", spec := "asmexprValues", unfollowed := true, recurses := true, apart := false }
def AsmexprValuesSaid : Prop := asmexprValuesRow.holds Try.pinned (OpenSpec.ofChange asmexprValuesSpec)

/-- ITS FALSE NEIGHBOUR: 'it returns false'. Refute it at one input. -/
def asmexprValuesWrong : ChangeSpec := { name := "asmexprValues", fn := fun _ => fun
  | [d1, d2, d3] => { results := [.lit (.bool false)], args := [d1, d2, d3] }
  | _ => none }
def AsmexprValuesWrongFalsely : Prop := asmexprValuesRow.holds Try.pinned (OpenSpec.ofChange asmexprValuesWrong)

/-- 'emulatorlaw26.AsmexprAdds': WHATEVER THE INPUT: true; the input reads as it did. -/
def asmexprAddsSpec : ChangeSpec := { name := "asmexprAdds", fn := fun _ => fun
  | [d1, d2] => { results := [.lit (.bool true)], args := [d1, d2] }
  | _ => none }
def asmexprAddsRow : OpenClaim := { program := "ytpinoobgnnlccaa", sum := "ef5a6a6044a500827cf285de908ba9a64a411ec366204f789ce852579b66325a", func := "emulator/emulatorlaw26.AsmexprAdds", spec := "asmexprAdds", unfollowed := true, recurses := true, apart := false }
def AsmexprAddsSaid : Prop := asmexprAddsRow.holds Try.pinned (OpenSpec.ofChange asmexprAddsSpec)

/-- ITS FALSE NEIGHBOUR: 'it returns false'. Refute it at one input. -/
def asmexprAddsWrong : ChangeSpec := { name := "asmexprAdds", fn := fun _ => fun
  | [d1, d2] => { results := [.lit (.bool false)], args := [d1, d2] }
  | _ => none }
def AsmexprAddsWrongFalsely : Prop := asmexprAddsRow.holds Try.pinned (OpenSpec.ofChange asmexprAddsWrong)

/- THE SECOND FORM. 'bulk': how many values and letters a reading holds, each counted each time it is reached (what is shared counts as often as it is met; a slice's spare places count too). A statement '..UptoSaid' is the law's where the arguments, and the package variables that the reading takes, are together of bulk at most 1048576: NARROWER than '..Said'. Prove '..Said' where nothing that the law and all that it calls make is longer than what came in: it says more and counts as full. Else prove '..UptoSaid'. A law counts once. -/
mutual
def uptoBulk {H : Type} : DataW H → Nat
  | .lit (.string bytes) => bytes.length + 1
  | .lit _ => 1
  | .nil => 1
  | .ptr d => uptoBulk d + 1
  | .slice elems spare => uptoBulkAll elems + uptoBulkAll spare + 1
  | .agg parts => uptoBulkAll parts + 1
  | .iface _ d => uptoBulk d + 1
  | .map entries => uptoBulkEntries entries + 1
  | .held _ => 1
def uptoBulkAll {H : Type} : List (DataW H) → Nat
  | [] => 0
  | d :: r => uptoBulk d + uptoBulkAll r
def uptoBulkEntries {H : Type} : List (Lit × DataW H) → Nat
  | [] => 0
  | x :: r => uptoBulkEntry x + uptoBulkEntries r
def uptoBulkEntry {H : Type} : Lit × DataW H → Nat
  | (.string bytes, d) => bytes.length + uptoBulk d + 1
  | (_, d) => uptoBulk d + 1
 end
def uptoSmall : (H : Type) → List (DataW H) → Bool := fun _ ds => decide (uptoBulkAll ds ≤ 1048576)
def OpenSpec.upto (s : _root_.Go.ChangeSpec) : _root_.Go.OpenSpec := { _root_.Go.OpenSpec.ofChange s with cond := some uptoSmall }

/-- 'emulatorlaw26.AsmexprEvals', WHERE WHAT IT READS IS OF BULK AT MOST 1048576: true; the input reads as it did. -/
def asmexprEvalsUptoRow : OpenClaim := { program := "ytpinoobgnnlccaa", sum := "ef5a6a6044a500827cf285de908ba9a64a411ec366204f789ce852579b66325a", func := "emulator/emulatorlaw26.AsmexprEvals", spec := "asmexprEvals", unfollowed := true, recurses := true, apart := false, narrowed := true }
def AsmexprEvalsUptoSaid : Prop := asmexprEvalsUptoRow.holds Try.pinned (OpenSpec.upto asmexprEvalsSpec)

/-- 'emulatorlaw26.AsmexprFinds', WHERE WHAT IT READS IS OF BULK AT MOST 1048576: true; the input reads as it did. -/
def asmexprFindsUptoRow : OpenClaim := { program := "ytpinoobgnnlccaa", sum := "ef5a6a6044a500827cf285de908ba9a64a411ec366204f789ce852579b66325a", func := "emulator/emulatorlaw26.AsmexprFinds", spec := "asmexprFinds", unfollowed := true, recurses := true, apart := false, narrowed := true }
def AsmexprFindsUptoSaid : Prop := asmexprFindsUptoRow.holds Try.pinned (OpenSpec.upto asmexprFindsSpec)

/-- 'emulatorlaw26.AsmexprBrackets', WHERE WHAT IT READS IS OF BULK AT MOST 1048576: true; the input reads as it did. -/
def asmexprBracketsUptoRow : OpenClaim := { program := "ytpinoobgnnlccaa", sum := "ef5a6a6044a500827cf285de908ba9a64a411ec366204f789ce852579b66325a", func := "emulator/emulatorlaw26.AsmexprBrackets", spec := "asmexprBrackets", unfollowed := true, recurses := true, apart := false, narrowed := true }
def AsmexprBracketsUptoSaid : Prop := asmexprBracketsUptoRow.holds Try.pinned (OpenSpec.upto asmexprBracketsSpec)

/-- 'emulatorlaw26.AsmexprMoves', WHERE WHAT IT READS IS OF BULK AT MOST 1048576: true; the input reads as it did. -/
def asmexprMovesUptoRow : OpenClaim := { program := "ytpinoobgnnlccaa", sum := "ef5a6a6044a500827cf285de908ba9a64a411ec366204f789ce852579b66325a", func := "emulator/emulatorlaw26.AsmexprMoves", spec := "asmexprMoves", unfollowed := true, recurses := true, apart := false, narrowed := true }
def AsmexprMovesUptoSaid : Prop := asmexprMovesUptoRow.holds Try.pinned (OpenSpec.upto asmexprMovesSpec)

/-- 'emulatorlaw26.AsmexprValues', WHERE WHAT IT READS IS OF BULK AT MOST 1048576: true; the input reads as it did. -/
def asmexprValuesUptoRow : OpenClaim := { program := "ytpinoobgnnlccaa", sum := "ef5a6a6044a500827cf285de908ba9a64a411ec366204f789ce852579b66325a", func := "emulator/emulatorlaw26.AsmexprValues", spec := "asmexprValues", unfollowed := true, recurses := true, apart := false, narrowed := true }
def AsmexprValuesUptoSaid : Prop := asmexprValuesUptoRow.holds Try.pinned (OpenSpec.upto asmexprValuesSpec)

/-- 'emulatorlaw26.AsmexprAdds', WHERE WHAT IT READS IS OF BULK AT MOST 1048576: true; the input reads as it did. -/
def asmexprAddsUptoRow : OpenClaim := { program := "ytpinoobgnnlccaa", sum := "ef5a6a6044a500827cf285de908ba9a64a411ec366204f789ce852579b66325a", func := "emulator/emulatorlaw26.AsmexprAdds", spec := "asmexprAdds", unfollowed := true, recurses := true, apart := false, narrowed := true }
def AsmexprAddsUptoSaid : Prop := asmexprAddsUptoRow.holds Try.pinned (OpenSpec.upto asmexprAddsSpec)

end Rows
end Go.Proofs.Ytpinoobgnnlccaa
