/-
  No cell of these rows narrows 'for every input' (looked for: loops, veiled, ifaces, maps, wideKeys, modest, calm, conditions, laid).
  DERIVED. THE GIVEN ROWS OF THIS SEAT. 5 by the template 'for every input the law returns true; each argument reads behind the call as it read before'; 0 by the template 'total and deterministic' (their statements: YtfoimkbpdijmkaaTotals.lean).
  GIVEN WITH THE SEED: the statements are not yours to turn. If you find one false, say at which input.
  Laid BY PROGRAM, IN A SANDBOX (cutbox-rows.mjs): the forced cells as the released guide's own fill.sh prints them over the translation bbbd7873fff6b7a4… (all of the seat's roots in one cut). By AI agents, Wed Nov 11 2026. No macro, syntax, notation, axiom, sorry.
-/
import Derived.Test.YtfoimkbpdijmkaaChecked
import GoSem.Claim
import GoSem.ClaimJoined
import GoSem.ClaimMapViews
import Derived.JoinedTies
import Derived.KernelRfl
namespace Go.Proofs.Ytfoimkbpdijmkaa
/- THE CELL 'sum', in the pinned program and in every row, IS THE sha256 OF THE DUMP (.gsa) THAT YtfoimkbpdijmkaaProg.lean LOADS. Nothing in Lean hashes anything: it is a label: what it is worth is what the hold of that sum in a sandbox is worth. -/
noncomputable def Try.pinned : Pinned := { name := "ytfoimkbpdijmkaa", sum := "bbbd7873fff6b7a4df2d2a4824aad8606b25310826b1bba7ca288fe592db6613", checked := Try.checked }
namespace Rows
def none {H : Type} : Left H := { results := [], args := [] }

/-- 'emulatorlaw05.OperandValid': WHATEVER THE INPUT: true; the input reads as it did. -/
def operandValidSpec : ChangeSpec := { name := "operandValid", fn := fun _ => fun
  | [d] => { results := [.lit (.bool true)], args := [d] }
  | _ => none }
def operandValidRow : OpenClaim := { program := "ytfoimkbpdijmkaa", sum := "bbbd7873fff6b7a4df2d2a4824aad8606b25310826b1bba7ca288fe592db6613", func := "emulator/emulatorlaw05.OperandValid", spec := "operandValid", apart := false }
def OperandValidSaid : Prop := operandValidRow.holds Try.pinned (OpenSpec.ofChange operandValidSpec)

/-- ITS FALSE NEIGHBOUR: 'it returns false'. Refute it at one input. -/
def operandValidWrong : ChangeSpec := { name := "operandValid", fn := fun _ => fun
  | [d] => { results := [.lit (.bool false)], args := [d] }
  | _ => none }
def OperandValidWrongFalsely : Prop := operandValidRow.holds Try.pinned (OpenSpec.ofChange operandValidWrong)

/-- 'emulatorlaw05.OperandFields': WHATEVER THE INPUT: true; the input reads as it did. -/
def operandFieldsSpec : ChangeSpec := { name := "operandFields", fn := fun _ => fun
  | [d1, d2] => { results := [.lit (.bool true)], args := [d1, d2] }
  | _ => none }
def operandFieldsRow : OpenClaim := { program := "ytfoimkbpdijmkaa", sum := "bbbd7873fff6b7a4df2d2a4824aad8606b25310826b1bba7ca288fe592db6613", func := "emulator/emulatorlaw05.OperandFields", spec := "operandFields", apart := false }
def OperandFieldsSaid : Prop := operandFieldsRow.holds Try.pinned (OpenSpec.ofChange operandFieldsSpec)

/-- ITS FALSE NEIGHBOUR: 'it returns false'. Refute it at one input. -/
def operandFieldsWrong : ChangeSpec := { name := "operandFields", fn := fun _ => fun
  | [d1, d2] => { results := [.lit (.bool false)], args := [d1, d2] }
  | _ => none }
def OperandFieldsWrongFalsely : Prop := operandFieldsRow.holds Try.pinned (OpenSpec.ofChange operandFieldsWrong)

/-- 'emulatorlaw05.OperandSteps': WHATEVER THE INPUT: true; the input reads as it did. -/
def operandStepsSpec : ChangeSpec := { name := "operandSteps", fn := fun _ => fun
  | [d1, d2] => { results := [.lit (.bool true)], args := [d1, d2] }
  | _ => none }
def operandStepsRow : OpenClaim := { program := "ytfoimkbpdijmkaa", sum := "bbbd7873fff6b7a4df2d2a4824aad8606b25310826b1bba7ca288fe592db6613", func := "emulator/emulatorlaw05.OperandSteps", spec := "operandSteps", apart := false }
def OperandStepsSaid : Prop := operandStepsRow.holds Try.pinned (OpenSpec.ofChange operandStepsSpec)

/-- ITS FALSE NEIGHBOUR: 'it returns false'. Refute it at one input. -/
def operandStepsWrong : ChangeSpec := { name := "operandSteps", fn := fun _ => fun
  | [d1, d2] => { results := [.lit (.bool false)], args := [d1, d2] }
  | _ => none }
def OperandStepsWrongFalsely : Prop := operandStepsRow.holds Try.pinned (OpenSpec.ofChange operandStepsWrong)

/-- 'emulatorlaw05.OperandReturns': WHATEVER THE INPUT: true; the input reads as it did. -/
def operandReturnsSpec : ChangeSpec := { name := "operandReturns", fn := fun _ => fun
  | [d1, d2] => { results := [.lit (.bool true)], args := [d1, d2] }
  | _ => none }
def operandReturnsRow : OpenClaim := { program := "ytfoimkbpdijmkaa", sum := "bbbd7873fff6b7a4df2d2a4824aad8606b25310826b1bba7ca288fe592db6613", func := "emulator/emulatorlaw05.OperandReturns", spec := "operandReturns", apart := false }
def OperandReturnsSaid : Prop := operandReturnsRow.holds Try.pinned (OpenSpec.ofChange operandReturnsSpec)

/-- ITS FALSE NEIGHBOUR: 'it returns false'. Refute it at one input. -/
def operandReturnsWrong : ChangeSpec := { name := "operandReturns", fn := fun _ => fun
  | [d1, d2] => { results := [.lit (.bool false)], args := [d1, d2] }
  | _ => none }
def OperandReturnsWrongFalsely : Prop := operandReturnsRow.holds Try.pinned (OpenSpec.ofChange operandReturnsWrong)

/-- 'emulatorlaw05.OperandStacks': WHATEVER THE INPUT: true; the input reads as it did. -/
def operandStacksSpec : ChangeSpec := { name := "operandStacks", fn := fun _ => fun
  | [d1, d2] => { results := [.lit (.bool true)], args := [d1, d2] }
  | _ => none }
def operandStacksRow : OpenClaim := { program := "ytfoimkbpdijmkaa", sum := "bbbd7873fff6b7a4df2d2a4824aad8606b25310826b1bba7ca288fe592db6613", func := "emulator/emulatorlaw05.OperandStacks", spec := "operandStacks", apart := false }
def OperandStacksSaid : Prop := operandStacksRow.holds Try.pinned (OpenSpec.ofChange operandStacksSpec)

/-- ITS FALSE NEIGHBOUR: 'it returns false'. Refute it at one input. -/
def operandStacksWrong : ChangeSpec := { name := "operandStacks", fn := fun _ => fun
  | [d1, d2] => { results := [.lit (.bool false)], args := [d1, d2] }
  | _ => none }
def OperandStacksWrongFalsely : Prop := operandStacksRow.holds Try.pinned (OpenSpec.ofChange operandStacksWrong)

/- THE SECOND FORM. 'bulk': how many values and letters a reading holds, each counted each time it is reached (what is shared counts as often as it is met; a slice's spare places count too). A statement '..UptoSaid' is the law's where the arguments, and the package variables that the reading takes, are together of bulk at most 1048576: NARROWER than '..Said'. Prove '..Said' where nothing that the law and all that it calls make is longer than what came in: it says more and counts as full. Else prove '..UptoSaid'. A law counts once. -/
mutual
def uptoBulk {H : Type} : DataW H → Nat
  | .lit (.string bytes) => bytes.length + 1
  | .lit _ => 1
  | .nil => 1
  | .ptr d => uptoBulk d + 1
  | .slice elems spare => uptoBulkAll elems + uptoBulkAll spare + 1
  | .agg parts => uptoBulkAll parts + 1
  | .iface _ d => uptoBulk d + 1
  | .map entries => uptoBulkEntries entries + 1
  | .held _ => 1
def uptoBulkAll {H : Type} : List (DataW H) → Nat
  | [] => 0
  | d :: r => uptoBulk d + uptoBulkAll r
def uptoBulkEntries {H : Type} : List (Lit × DataW H) → Nat
  | [] => 0
  | x :: r => uptoBulkEntry x + uptoBulkEntries r
def uptoBulkEntry {H : Type} : Lit × DataW H → Nat
  | (.string bytes, d) => bytes.length + uptoBulk d + 1
  | (_, d) => uptoBulk d + 1
 end
def uptoSmall : (H : Type) → List (DataW H) → Bool := fun _ ds => decide (uptoBulkAll ds ≤ 1048576)
def OpenSpec.upto (s : _root_.Go.ChangeSpec) : _root_.Go.OpenSpec := { _root_.Go.OpenSpec.ofChange s with cond := some uptoSmall }

/-- 'emulatorlaw05.OperandValid', WHERE WHAT IT READS IS OF BULK AT MOST 1048576: true; the input reads as it did. -/
def operandValidUptoRow : OpenClaim := { program := "ytfoimkbpdijmkaa", sum := "bbbd7873fff6b7a4df2d2a4824aad8606b25310826b1bba7ca288fe592db6613", func := "emulator/emulatorlaw05.OperandValid", spec := "operandValid", apart := false, narrowed := true }
def OperandValidUptoSaid : Prop := operandValidUptoRow.holds Try.pinned (OpenSpec.upto operandValidSpec)

/-- 'emulatorlaw05.OperandFields', WHERE WHAT IT READS IS OF BULK AT MOST 1048576: true; the input reads as it did. -/
def operandFieldsUptoRow : OpenClaim := { program := "ytfoimkbpdijmkaa", sum := "bbbd7873fff6b7a4df2d2a4824aad8606b25310826b1bba7ca288fe592db6613", func := "emulator/emulatorlaw05.OperandFields", spec := "operandFields", apart := false, narrowed := true }
def OperandFieldsUptoSaid : Prop := operandFieldsUptoRow.holds Try.pinned (OpenSpec.upto operandFieldsSpec)

/-- 'emulatorlaw05.OperandSteps', WHERE WHAT IT READS IS OF BULK AT MOST 1048576: true; the input reads as it did. -/
def operandStepsUptoRow : OpenClaim := { program := "ytfoimkbpdijmkaa", sum := "bbbd7873fff6b7a4df2d2a4824aad8606b25310826b1bba7ca288fe592db6613", func := "emulator/emulatorlaw05.OperandSteps", spec := "operandSteps", apart := false, narrowed := true }
def OperandStepsUptoSaid : Prop := operandStepsUptoRow.holds Try.pinned (OpenSpec.upto operandStepsSpec)

/-- 'emulatorlaw05.OperandReturns', WHERE WHAT IT READS IS OF BULK AT MOST 1048576: true; the input reads as it did. -/
def operandReturnsUptoRow : OpenClaim := { program := "ytfoimkbpdijmkaa", sum := "bbbd7873fff6b7a4df2d2a4824aad8606b25310826b1bba7ca288fe592db6613", func := "emulator/emulatorlaw05.OperandReturns", spec := "operandReturns", apart := false, narrowed := true }
def OperandReturnsUptoSaid : Prop := operandReturnsUptoRow.holds Try.pinned (OpenSpec.upto operandReturnsSpec)

/-- 'emulatorlaw05.OperandStacks', WHERE WHAT IT READS IS OF BULK AT MOST 1048576: true; the input reads as it did. -/
def operandStacksUptoRow : OpenClaim := { program := "ytfoimkbpdijmkaa", sum := "bbbd7873fff6b7a4df2d2a4824aad8606b25310826b1bba7ca288fe592db6613", func := "emulator/emulatorlaw05.OperandStacks", spec := "operandStacks", apart := false, narrowed := true }
def OperandStacksUptoSaid : Prop := operandStacksUptoRow.holds Try.pinned (OpenSpec.upto operandStacksSpec)

end Rows
end Go.Proofs.Ytfoimkbpdijmkaa
