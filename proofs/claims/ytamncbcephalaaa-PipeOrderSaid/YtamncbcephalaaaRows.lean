/-
  No cell of these rows narrows 'for every input' (looked for: loops, veiled, ifaces, maps, wideKeys, modest, calm, conditions, laid).
  DERIVED. THE GIVEN ROWS OF THIS SEAT. 6 by the template 'for every input the law returns true; each argument reads behind the call as it read before'; 0 by the template 'total and deterministic' (their statements: YtamncbcephalaaaTotals.lean).
  GIVEN WITH THE SEED: the statements are not yours to turn. If you find one false, say at which input.
  Laid BY PROGRAM, IN A SANDBOX (cutbox-rows.mjs): the forced cells as the released guide's own fill.sh prints them over the translation 5134ed200ce68de9… (all of the seat's roots in one cut). By AI agents, Wed Nov 11 2026. No macro, syntax, notation, axiom, sorry.
-/
import Derived.Test.YtamncbcephalaaaChecked
import GoSem.Claim
import GoSem.ClaimJoined
import GoSem.ClaimMapViews
import Derived.JoinedTies
import Derived.KernelRfl
namespace Go.Proofs.Ytamncbcephalaaa
/- THE CELL 'sum', in the pinned program and in every row, IS THE sha256 OF THE DUMP (.gsa) THAT YtamncbcephalaaaProg.lean LOADS. Nothing in Lean hashes anything: it is a label: what it is worth is what the hold of that sum in a sandbox is worth. -/
noncomputable def Try.pinned : Pinned := { name := "ytamncbcephalaaa", sum := "5134ed200ce68de9c426b109801a7d4668fb91cc3d4d24e3f37ecb331dd77346", checked := Try.checked }
namespace Rows
def none {H : Type} : Left H := { results := [], args := [] }

/-- 'emulatorlaw42.PipeRight': WHATEVER THE INPUT: true; the input reads as it did. -/
def pipeRightSpec : ChangeSpec := { name := "pipeRight", fn := fun _ => fun
  | [d] => { results := [.lit (.bool true)], args := [d] }
  | _ => none }
def pipeRightRow : OpenClaim := { program := "ytamncbcephalaaa", sum := "5134ed200ce68de9c426b109801a7d4668fb91cc3d4d24e3f37ecb331dd77346", func := "emulator/emulatorlaw42.PipeRight", spec := "pipeRight", apart := false }
def PipeRightSaid : Prop := pipeRightRow.holds Try.pinned (OpenSpec.ofChange pipeRightSpec)

/-- ITS FALSE NEIGHBOUR: 'it returns false'. Refute it at one input. -/
def pipeRightWrong : ChangeSpec := { name := "pipeRight", fn := fun _ => fun
  | [d] => { results := [.lit (.bool false)], args := [d] }
  | _ => none }
def PipeRightWrongFalsely : Prop := pipeRightRow.holds Try.pinned (OpenSpec.ofChange pipeRightWrong)

/-- 'emulatorlaw42.PipeMoves': WHATEVER THE INPUT: true; the input reads as it did. -/
def pipeMovesSpec : ChangeSpec := { name := "pipeMoves", fn := fun _ => fun
  | [d1, d2, d3] => { results := [.lit (.bool true)], args := [d1, d2, d3] }
  | _ => none }
def pipeMovesRow : OpenClaim := { program := "ytamncbcephalaaa", sum := "5134ed200ce68de9c426b109801a7d4668fb91cc3d4d24e3f37ecb331dd77346", func := "emulator/emulatorlaw42.PipeMoves", spec := "pipeMoves", apart := false }
def PipeMovesSaid : Prop := pipeMovesRow.holds Try.pinned (OpenSpec.ofChange pipeMovesSpec)

/-- ITS FALSE NEIGHBOUR: 'it returns false'. Refute it at one input. -/
def pipeMovesWrong : ChangeSpec := { name := "pipeMoves", fn := fun _ => fun
  | [d1, d2, d3] => { results := [.lit (.bool false)], args := [d1, d2, d3] }
  | _ => none }
def PipeMovesWrongFalsely : Prop := pipeMovesRow.holds Try.pinned (OpenSpec.ofChange pipeMovesWrong)

/-- 'emulatorlaw42.PipeWaits': WHATEVER THE INPUT: true; the input reads as it did. -/
def pipeWaitsSpec : ChangeSpec := { name := "pipeWaits", fn := fun _ => fun
  | [d1, d2, d3] => { results := [.lit (.bool true)], args := [d1, d2, d3] }
  | _ => none }
def pipeWaitsRow : OpenClaim := { program := "ytamncbcephalaaa", sum := "5134ed200ce68de9c426b109801a7d4668fb91cc3d4d24e3f37ecb331dd77346", func := "emulator/emulatorlaw42.PipeWaits", spec := "pipeWaits", apart := false }
def PipeWaitsSaid : Prop := pipeWaitsRow.holds Try.pinned (OpenSpec.ofChange pipeWaitsSpec)

/-- ITS FALSE NEIGHBOUR: 'it returns false'. Refute it at one input. -/
def pipeWaitsWrong : ChangeSpec := { name := "pipeWaits", fn := fun _ => fun
  | [d1, d2, d3] => { results := [.lit (.bool false)], args := [d1, d2, d3] }
  | _ => none }
def PipeWaitsWrongFalsely : Prop := pipeWaitsRow.holds Try.pinned (OpenSpec.ofChange pipeWaitsWrong)

/-- 'emulatorlaw42.PipeEnds': WHATEVER THE INPUT: true; the input reads as it did. -/
def pipeEndsSpec : ChangeSpec := { name := "pipeEnds", fn := fun _ => fun
  | [d1, d2] => { results := [.lit (.bool true)], args := [d1, d2] }
  | _ => none }
def pipeEndsRow : OpenClaim := { program := "ytamncbcephalaaa", sum := "5134ed200ce68de9c426b109801a7d4668fb91cc3d4d24e3f37ecb331dd77346", func := "emulator/emulatorlaw42.PipeEnds", spec := "pipeEnds", apart := false }
def PipeEndsSaid : Prop := pipeEndsRow.holds Try.pinned (OpenSpec.ofChange pipeEndsSpec)

/-- ITS FALSE NEIGHBOUR: 'it returns false'. Refute it at one input. -/
def pipeEndsWrong : ChangeSpec := { name := "pipeEnds", fn := fun _ => fun
  | [d1, d2] => { results := [.lit (.bool false)], args := [d1, d2] }
  | _ => none }
def PipeEndsWrongFalsely : Prop := pipeEndsRow.holds Try.pinned (OpenSpec.ofChange pipeEndsWrong)

/-- 'emulatorlaw42.PipeOrder': WHATEVER THE INPUT: true; the input reads as it did. -/
def pipeOrderSpec : ChangeSpec := { name := "pipeOrder", fn := fun _ => fun
  | [d1, d2] => { results := [.lit (.bool true)], args := [d1, d2] }
  | _ => none }
def pipeOrderRow : OpenClaim := { program := "ytamncbcephalaaa", sum := "5134ed200ce68de9c426b109801a7d4668fb91cc3d4d24e3f37ecb331dd77346", func := "emulator/emulatorlaw42.PipeOrder", spec := "pipeOrder", apart := false }
def PipeOrderSaid : Prop := pipeOrderRow.holds Try.pinned (OpenSpec.ofChange pipeOrderSpec)

/-- ITS FALSE NEIGHBOUR: 'it returns false'. Refute it at one input. -/
def pipeOrderWrong : ChangeSpec := { name := "pipeOrder", fn := fun _ => fun
  | [d1, d2] => { results := [.lit (.bool false)], args := [d1, d2] }
  | _ => none }
def PipeOrderWrongFalsely : Prop := pipeOrderRow.holds Try.pinned (OpenSpec.ofChange pipeOrderWrong)

/-- 'emulatorlaw42.PipeReopens': WHATEVER THE INPUT: true; the input reads as it did. -/
def pipeReopensSpec : ChangeSpec := { name := "pipeReopens", fn := fun _ => fun
  | [d1, d2] => { results := [.lit (.bool true)], args := [d1, d2] }
  | _ => none }
def pipeReopensRow : OpenClaim := { program := "ytamncbcephalaaa", sum := "5134ed200ce68de9c426b109801a7d4668fb91cc3d4d24e3f37ecb331dd77346", func := "emulator/emulatorlaw42.PipeReopens", spec := "pipeReopens", apart := false }
def PipeReopensSaid : Prop := pipeReopensRow.holds Try.pinned (OpenSpec.ofChange pipeReopensSpec)

/-- ITS FALSE NEIGHBOUR: 'it returns false'. Refute it at one input. -/
def pipeReopensWrong : ChangeSpec := { name := "pipeReopens", fn := fun _ => fun
  | [d1, d2] => { results := [.lit (.bool false)], args := [d1, d2] }
  | _ => none }
def PipeReopensWrongFalsely : Prop := pipeReopensRow.holds Try.pinned (OpenSpec.ofChange pipeReopensWrong)

/- THE SECOND FORM. 'bulk': how many values and letters a reading holds, each counted each time it is reached (what is shared counts as often as it is met; a slice's spare places count too). A statement '..UptoSaid' is the law's where the arguments, and the package variables that the reading takes, are together of bulk at most 1048576: NARROWER than '..Said'. Prove '..Said' where nothing that the law and all that it calls make is longer than what came in: it says more and counts as full. Else prove '..UptoSaid'. A law counts once. -/
mutual
def uptoBulk {H : Type} : DataW H → Nat
  | .lit (.string bytes) => bytes.length + 1
  | .lit _ => 1
  | .nil => 1
  | .ptr d => uptoBulk d + 1
  | .slice elems spare => uptoBulkAll elems + uptoBulkAll spare + 1
  | .agg parts => uptoBulkAll parts + 1
  | .iface _ d => uptoBulk d + 1
  | .map entries => uptoBulkEntries entries + 1
  | .held _ => 1
def uptoBulkAll {H : Type} : List (DataW H) → Nat
  | [] => 0
  | d :: r => uptoBulk d + uptoBulkAll r
def uptoBulkEntries {H : Type} : List (Lit × DataW H) → Nat
  | [] => 0
  | x :: r => uptoBulkEntry x + uptoBulkEntries r
def uptoBulkEntry {H : Type} : Lit × DataW H → Nat
  | (.string bytes, d) => bytes.length + uptoBulk d + 1
  | (_, d) => uptoBulk d + 1
 end
def uptoSmall : (H : Type) → List (DataW H) → Bool := fun _ ds => decide (uptoBulkAll ds ≤ 1048576)
def OpenSpec.upto (s : _root_.Go.ChangeSpec) : _root_.Go.OpenSpec := { _root_.Go.OpenSpec.ofChange s with cond := some uptoSmall }

/-- 'emulatorlaw42.PipeRight', WHERE WHAT IT READS IS OF BULK AT MOST 1048576: true; the input reads as it did. -/
def pipeRightUptoRow : OpenClaim := { program := "ytamncbcephalaaa", sum := "5134ed200ce68de9c426b109801a7d4668fb91cc3d4d24e3f37ecb331dd77346", func := "emulator/emulatorlaw42.PipeRight", spec := "pipeRight", apart := false, narrowed := true }
def PipeRightUptoSaid : Prop := pipeRightUptoRow.holds Try.pinned (OpenSpec.upto pipeRightSpec)

/-- 'emulatorlaw42.PipeMoves', WHERE WHAT IT READS IS OF BULK AT MOST 1048576: true; the input reads as it did. -/
def pipeMovesUptoRow : OpenClaim := { program := "ytamncbcephalaaa", sum := "5134ed200ce68de9c426b109801a7d4668fb91cc3d4d24e3f37ecb331dd77346", func := "emulator/emulatorlaw42.PipeMoves", spec := "pipeMoves", apart := false, narrowed := true }
def PipeMovesUptoSaid : Prop := pipeMovesUptoRow.holds Try.pinned (OpenSpec.upto pipeMovesSpec)

/-- 'emulatorlaw42.PipeWaits', WHERE WHAT IT READS IS OF BULK AT MOST 1048576: true; the input reads as it did. -/
def pipeWaitsUptoRow : OpenClaim := { program := "ytamncbcephalaaa", sum := "5134ed200ce68de9c426b109801a7d4668fb91cc3d4d24e3f37ecb331dd77346", func := "emulator/emulatorlaw42.PipeWaits", spec := "pipeWaits", apart := false, narrowed := true }
def PipeWaitsUptoSaid : Prop := pipeWaitsUptoRow.holds Try.pinned (OpenSpec.upto pipeWaitsSpec)

/-- 'emulatorlaw42.PipeEnds', WHERE WHAT IT READS IS OF BULK AT MOST 1048576: true; the input reads as it did. -/
def pipeEndsUptoRow : OpenClaim := { program := "ytamncbcephalaaa", sum := "5134ed200ce68de9c426b109801a7d4668fb91cc3d4d24e3f37ecb331dd77346", func := "emulator/emulatorlaw42.PipeEnds", spec := "pipeEnds", apart := false, narrowed := true }
def PipeEndsUptoSaid : Prop := pipeEndsUptoRow.holds Try.pinned (OpenSpec.upto pipeEndsSpec)

/-- 'emulatorlaw42.PipeOrder', WHERE WHAT IT READS IS OF BULK AT MOST 1048576: true; the input reads as it did. -/
def pipeOrderUptoRow : OpenClaim := { program := "ytamncbcephalaaa", sum := "5134ed200ce68de9c426b109801a7d4668fb91cc3d4d24e3f37ecb331dd77346", func := "emulator/emulatorlaw42.PipeOrder", spec := "pipeOrder", apart := false, narrowed := true }
def PipeOrderUptoSaid : Prop := pipeOrderUptoRow.holds Try.pinned (OpenSpec.upto pipeOrderSpec)

/-- 'emulatorlaw42.PipeReopens', WHERE WHAT IT READS IS OF BULK AT MOST 1048576: true; the input reads as it did. -/
def pipeReopensUptoRow : OpenClaim := { program := "ytamncbcephalaaa", sum := "5134ed200ce68de9c426b109801a7d4668fb91cc3d4d24e3f37ecb331dd77346", func := "emulator/emulatorlaw42.PipeReopens", spec := "pipeReopens", apart := false, narrowed := true }
def PipeReopensUptoSaid : Prop := pipeReopensUptoRow.holds Try.pinned (OpenSpec.upto pipeReopensSpec)

end Rows
end Go.Proofs.Ytamncbcephalaaa
