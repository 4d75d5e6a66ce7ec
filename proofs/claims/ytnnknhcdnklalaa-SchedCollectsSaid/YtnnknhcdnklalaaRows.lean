/-
  No cell of these rows narrows 'for every input' (looked for: loops, veiled, ifaces, maps, wideKeys, modest, calm, conditions, laid).
  DERIVED. THE GIVEN ROWS OF THIS SEAT. 8 by the template 'for every input the law returns true; each argument reads behind the call as it read before'; 0 by the template 'total and deterministic' (their statements: YtnnknhcdnklalaaTotals.lean).
  GIVEN WITH THE SEED: the statements are not yours to turn. If you find one false, say at which input.
  Laid BY PROGRAM, IN A SANDBOX (cutbox-rows.mjs): the forced cells as the released guide's own fill.sh prints them over the translation 777fd068ddfe199f… (all of the seat's roots in one cut). By AI agents, Wed Nov 11 2026. No macro, syntax, notation, axiom, sorry.
-/
import Derived.Test.YtnnknhcdnklalaaChecked
import GoSem.Claim
import GoSem.ClaimJoined
import GoSem.ClaimMapViews
import Derived.JoinedTies
import Derived.KernelRfl
namespace Go.Proofs.Ytnnknhcdnklalaa
/- THE CELL 'sum', in the pinned program and in every row, IS THE sha256 OF THE DUMP (.gsa) THAT YtnnknhcdnklalaaProg.lean LOADS. Nothing in Lean hashes anything: it is a label: what it is worth is what the hold of that sum in a sandbox is worth. -/
noncomputable def Try.pinned : Pinned := { name := "ytnnknhcdnklalaa", sum := "777fd068ddfe199f5995e9b8e7a8fac237c0616cb71181ccba4e4f6d1357ae7c", checked := Try.checked }
namespace Rows
def none {H : Type} : Left H := { results := [], args := [] }

/-- 'emulatorlaw44.SchedRights': WHATEVER THE INPUT: true; the input reads as it did. -/
def schedRightsSpec : ChangeSpec := { name := "schedRights", fn := fun _ => fun
  | [d] => { results := [.lit (.bool true)], args := [d] }
  | _ => none }
def schedRightsRow : OpenClaim := { program := "ytnnknhcdnklalaa", sum := "777fd068ddfe199f5995e9b8e7a8fac237c0616cb71181ccba4e4f6d1357ae7c", func := "emulator/emulatorlaw44.SchedRights", spec := "schedRights", unfollowed := true, recurses := true, apart := false }
def SchedRightsSaid : Prop := schedRightsRow.holds Try.pinned (OpenSpec.ofChange schedRightsSpec)

/-- ITS FALSE NEIGHBOUR: 'it returns false'. Refute it at one input. -/
def schedRightsWrong : ChangeSpec := { name := "schedRights", fn := fun _ => fun
  | [d] => { results := [.lit (.bool false)], args := [d] }
  | _ => none }
def SchedRightsWrongFalsely : Prop := schedRightsRow.holds Try.pinned (OpenSpec.ofChange schedRightsWrong)

/-- 'emulatorlaw44.SchedEnds': WHATEVER THE INPUT: true; the input reads as it did. -/
def schedEndsSpec : ChangeSpec := { name := "schedEnds", fn := fun _ => fun
  | [d1, d2, d3] => { results := [.lit (.bool true)], args := [d1, d2, d3] }
  | _ => none }
def schedEndsRow : OpenClaim := { program := "ytnnknhcdnklalaa", sum := "777fd068ddfe199f5995e9b8e7a8fac237c0616cb71181ccba4e4f6d1357ae7c", func := "emulator/emulatorlaw44.SchedEnds", spec := "schedEnds", unfollowed := true, recurses := true, apart := false }
def SchedEndsSaid : Prop := schedEndsRow.holds Try.pinned (OpenSpec.ofChange schedEndsSpec)

/-- ITS FALSE NEIGHBOUR: 'it returns false'. Refute it at one input. -/
def schedEndsWrong : ChangeSpec := { name := "schedEnds", fn := fun _ => fun
  | [d1, d2, d3] => { results := [.lit (.bool false)], args := [d1, d2, d3] }
  | _ => none }
def SchedEndsWrongFalsely : Prop := schedEndsRow.holds Try.pinned (OpenSpec.ofChange schedEndsWrong)

/-- 'emulatorlaw44.SchedReaps': WHATEVER THE INPUT: true; the input reads as it did. -/
def schedReapsSpec : ChangeSpec := { name := "schedReaps", fn := fun _ => fun
  | [d1, d2] => { results := [.lit (.bool true)], args := [d1, d2] }
  | _ => none }
def schedReapsRow : OpenClaim := { program := "ytnnknhcdnklalaa", sum := "777fd068ddfe199f5995e9b8e7a8fac237c0616cb71181ccba4e4f6d1357ae7c", func := "emulator/emulatorlaw44.SchedReaps", spec := "schedReaps", unfollowed := true, recurses := true, apart := false }
def SchedReapsSaid : Prop := schedReapsRow.holds Try.pinned (OpenSpec.ofChange schedReapsSpec)

/-- ITS FALSE NEIGHBOUR: 'it returns false'. Refute it at one input. -/
def schedReapsWrong : ChangeSpec := { name := "schedReaps", fn := fun _ => fun
  | [d1, d2] => { results := [.lit (.bool false)], args := [d1, d2] }
  | _ => none }
def SchedReapsWrongFalsely : Prop := schedReapsRow.holds Try.pinned (OpenSpec.ofChange schedReapsWrong)

/-- 'emulatorlaw44.SchedFair': WHATEVER THE INPUT: true; the input reads as it did. -/
def schedFairSpec : ChangeSpec := { name := "schedFair", fn := fun _ => fun
  | [d1, d2] => { results := [.lit (.bool true)], args := [d1, d2] }
  | _ => none }
def schedFairRow : OpenClaim := { program := "ytnnknhcdnklalaa", sum := "777fd068ddfe199f5995e9b8e7a8fac237c0616cb71181ccba4e4f6d1357ae7c", func := "emulator/emulatorlaw44.SchedFair", spec := "schedFair", unfollowed := true, recurses := true, apart := false }
def SchedFairSaid : Prop := schedFairRow.holds Try.pinned (OpenSpec.ofChange schedFairSpec)

/-- ITS FALSE NEIGHBOUR: 'it returns false'. Refute it at one input. -/
def schedFairWrong : ChangeSpec := { name := "schedFair", fn := fun _ => fun
  | [d1, d2] => { results := [.lit (.bool false)], args := [d1, d2] }
  | _ => none }
def SchedFairWrongFalsely : Prop := schedFairRow.holds Try.pinned (OpenSpec.ofChange schedFairWrong)

/-- 'emulatorlaw44.SchedCollects': WHATEVER THE INPUT: true; the input reads as it did. -/
def schedCollectsSpec : ChangeSpec := { name := "schedCollects", fn := fun _ => fun
  | [d1, d2, d3] => { results := [.lit (.bool true)], args := [d1, d2, d3] }
  | _ => none }
def schedCollectsRow : OpenClaim := { program := "ytnnknhcdnklalaa", sum := "777fd068ddfe199f5995e9b8e7a8fac237c0616cb71181ccba4e4f6d1357ae7c", func := "emulator/emulatorlaw44.SchedCollects", spec := "schedCollects", unfollowed := true, recurses := true, apart := false }
def SchedCollectsSaid : Prop := schedCollectsRow.holds Try.pinned (OpenSpec.ofChange schedCollectsSpec)

/-- ITS FALSE NEIGHBOUR: 'it returns false'. Refute it at one input. -/
def schedCollectsWrong : ChangeSpec := { name := "schedCollects", fn := fun _ => fun
  | [d1, d2, d3] => { results := [.lit (.bool false)], args := [d1, d2, d3] }
  | _ => none }
def SchedCollectsWrongFalsely : Prop := schedCollectsRow.holds Try.pinned (OpenSpec.ofChange schedCollectsWrong)

/-- 'emulatorlaw44.SchedFinds': WHATEVER THE INPUT: true; the input reads as it did. -/
def schedFindsSpec : ChangeSpec := { name := "schedFinds", fn := fun _ => fun
  | [d1, d2] => { results := [.lit (.bool true)], args := [d1, d2] }
  | _ => none }
def schedFindsRow : OpenClaim := { program := "ytnnknhcdnklalaa", sum := "777fd068ddfe199f5995e9b8e7a8fac237c0616cb71181ccba4e4f6d1357ae7c", func := "emulator/emulatorlaw44.SchedFinds", spec := "schedFinds", unfollowed := true, recurses := true, apart := false }
def SchedFindsSaid : Prop := schedFindsRow.holds Try.pinned (OpenSpec.ofChange schedFindsSpec)

/-- ITS FALSE NEIGHBOUR: 'it returns false'. Refute it at one input. -/
def schedFindsWrong : ChangeSpec := { name := "schedFinds", fn := fun _ => fun
  | [d1, d2] => { results := [.lit (.bool false)], args := [d1, d2] }
  | _ => none }
def SchedFindsWrongFalsely : Prop := schedFindsRow.holds Try.pinned (OpenSpec.ofChange schedFindsWrong)

/-- 'emulatorlaw44.SchedWakes': WHATEVER THE INPUT: true; the input reads as it did. -/
def schedWakesSpec : ChangeSpec := { name := "schedWakes", fn := fun _ => fun
  | [d1, d2, d3] => { results := [.lit (.bool true)], args := [d1, d2, d3] }
  | _ => none }
def schedWakesRow : OpenClaim := { program := "ytnnknhcdnklalaa", sum := "777fd068ddfe199f5995e9b8e7a8fac237c0616cb71181ccba4e4f6d1357ae7c", func := "emulator/emulatorlaw44.SchedWakes", spec := "schedWakes", unfollowed := true, recurses := true, apart := false }
def SchedWakesSaid : Prop := schedWakesRow.holds Try.pinned (OpenSpec.ofChange schedWakesSpec)

/-- ITS FALSE NEIGHBOUR: 'it returns false'. Refute it at one input. -/
def schedWakesWrong : ChangeSpec := { name := "schedWakes", fn := fun _ => fun
  | [d1, d2, d3] => { results := [.lit (.bool false)], args := [d1, d2, d3] }
  | _ => none }
def SchedWakesWrongFalsely : Prop := schedWakesRow.holds Try.pinned (OpenSpec.ofChange schedWakesWrong)

/-- 'emulatorlaw44.SchedKeeps': WHATEVER THE INPUT: true; the input reads as it did. -/
def schedKeepsSpec : ChangeSpec := { name := "schedKeeps", fn := fun _ => fun
  | [d1, d2, d3] => { results := [.lit (.bool true)], args := [d1, d2, d3] }
  | _ => none }
def schedKeepsRow : OpenClaim := { program := "ytnnknhcdnklalaa", sum := "777fd068ddfe199f5995e9b8e7a8fac237c0616cb71181ccba4e4f6d1357ae7c", func := "emulator/emulatorlaw44.SchedKeeps", spec := "schedKeeps", unfollowed := true, recurses := true, apart := false }
def SchedKeepsSaid : Prop := schedKeepsRow.holds Try.pinned (OpenSpec.ofChange schedKeepsSpec)

/-- ITS FALSE NEIGHBOUR: 'it returns false'. Refute it at one input. -/
def schedKeepsWrong : ChangeSpec := { name := "schedKeeps", fn := fun _ => fun
  | [d1, d2, d3] => { results := [.lit (.bool false)], args := [d1, d2, d3] }
  | _ => none }
def SchedKeepsWrongFalsely : Prop := schedKeepsRow.holds Try.pinned (OpenSpec.ofChange schedKeepsWrong)

/- THE SECOND FORM. 'bulk': how many values and letters a reading holds, each counted each time it is reached (what is shared counts as often as it is met; a slice's spare places count too). A statement '..UptoSaid' is the law's where the arguments, and the package variables that the reading takes, are together of bulk at most 1048576: NARROWER than '..Said'. Prove '..Said' where nothing that the law and all that it calls make is longer than what came in: it says more and counts as full. Else prove '..UptoSaid'. A law counts once. -/
mutual
def uptoBulk {H : Type} : DataW H → Nat
  | .lit (.string bytes) => bytes.length + 1
  | .lit _ => 1
  | .nil => 1
  | .ptr d => uptoBulk d + 1
  | .slice elems spare => uptoBulkAll elems + uptoBulkAll spare + 1
  | .agg parts => uptoBulkAll parts + 1
  | .iface _ d => uptoBulk d + 1
  | .map entries => uptoBulkEntries entries + 1
  | .held _ => 1
def uptoBulkAll {H : Type} : List (DataW H) → Nat
  | [] => 0
  | d :: r => uptoBulk d + uptoBulkAll r
def uptoBulkEntries {H : Type} : List (Lit × DataW H) → Nat
  | [] => 0
  | x :: r => uptoBulkEntry x + uptoBulkEntries r
def uptoBulkEntry {H : Type} : Lit × DataW H → Nat
  | (.string bytes, d) => bytes.length + uptoBulk d + 1
  | (_, d) => uptoBulk d + 1
 end
def uptoSmall : (H : Type) → List (DataW H) → Bool := fun _ ds => decide (uptoBulkAll ds ≤ 1048576)
def OpenSpec.upto (s : _root_.Go.ChangeSpec) : _root_.Go.OpenSpec := { _root_.Go.OpenSpec.ofChange s with cond := some uptoSmall }

/-- 'emulatorlaw44.SchedRights', WHERE WHAT IT READS IS OF BULK AT MOST 1048576: true; the input reads as it did. -/
def schedRightsUptoRow : OpenClaim := { program := "ytnnknhcdnklalaa", sum := "777fd068ddfe199f5995e9b8e7a8fac237c0616cb71181ccba4e4f6d1357ae7c", func := "emulator/emulatorlaw44.SchedRights", spec := "schedRights", unfollowed := true, recurses := true, apart := false, narrowed := true }
def SchedRightsUptoSaid : Prop := schedRightsUptoRow.holds Try.pinned (OpenSpec.upto schedRightsSpec)

/-- 'emulatorlaw44.SchedEnds', WHERE WHAT IT READS IS OF BULK AT MOST 1048576: true; the input reads as it did. -/
def schedEndsUptoRow : OpenClaim := { program := "ytnnknhcdnklalaa", sum := "777fd068ddfe199f5995e9b8e7a8fac237c0616cb71181ccba4e4f6d1357ae7c", func := "emulator/emulatorlaw44.SchedEnds", spec := "schedEnds", unfollowed := true, recurses := true, apart := false, narrowed := true }
def SchedEndsUptoSaid : Prop := schedEndsUptoRow.holds Try.pinned (OpenSpec.upto schedEndsSpec)

/-- 'emulatorlaw44.SchedReaps', WHERE WHAT IT READS IS OF BULK AT MOST 1048576: true; the input reads as it did. -/
def schedReapsUptoRow : OpenClaim := { program := "ytnnknhcdnklalaa", sum := "777fd068ddfe199f5995e9b8e7a8fac237c0616cb71181ccba4e4f6d1357ae7c", func := "emulator/emulatorlaw44.SchedReaps", spec := "schedReaps", unfollowed := true, recurses := true, apart := false, narrowed := true }
def SchedReapsUptoSaid : Prop := schedReapsUptoRow.holds Try.pinned (OpenSpec.upto schedReapsSpec)

/-- 'emulatorlaw44.SchedFair', WHERE WHAT IT READS IS OF BULK AT MOST 1048576: true; the input reads as it did. -/
def schedFairUptoRow : OpenClaim := { program := "ytnnknhcdnklalaa", sum := "777fd068ddfe199f5995e9b8e7a8fac237c0616cb71181ccba4e4f6d1357ae7c", func := "emulator/emulatorlaw44.SchedFair", spec := "schedFair", unfollowed := true, recurses := true, apart := false, narrowed := true }
def SchedFairUptoSaid : Prop := schedFairUptoRow.holds Try.pinned (OpenSpec.upto schedFairSpec)

/-- 'emulatorlaw44.SchedCollects', WHERE WHAT IT READS IS OF BULK AT MOST 1048576: true; the input reads as it did. -/
def schedCollectsUptoRow : OpenClaim := { program := "ytnnknhcdnklalaa", sum := "777fd068ddfe199f5995e9b8e7a8fac237c0616cb71181ccba4e4f6d1357ae7c", func := "emulator/emulatorlaw44.SchedCollects", spec := "schedCollects", unfollowed := true, recurses := true, apart := false, narrowed := true }
def SchedCollectsUptoSaid : Prop := schedCollectsUptoRow.holds Try.pinned (OpenSpec.upto schedCollectsSpec)

/-- 'emulatorlaw44.SchedFinds', WHERE WHAT IT READS IS OF BULK AT MOST 1048576: true; the input reads as it did. -/
def schedFindsUptoRow : OpenClaim := { program := "ytnnknhcdnklalaa", sum := "777fd068ddfe199f5995e9b8e7a8fac237c0616cb71181ccba4e4f6d1357ae7c", func := "emulator/emulatorlaw44.SchedFinds", spec := "schedFinds", unfollowed := true, recurses := true, apart := false, narrowed := true }
def SchedFindsUptoSaid : Prop := schedFindsUptoRow.holds Try.pinned (OpenSpec.upto schedFindsSpec)

/-- 'emulatorlaw44.SchedWakes', WHERE WHAT IT READS IS OF BULK AT MOST 1048576: true; the input reads as it did. -/
def schedWakesUptoRow : OpenClaim := { program := "ytnnknhcdnklalaa", sum := "777fd068ddfe199f5995e9b8e7a8fac237c0616cb71181ccba4e4f6d1357ae7c", func := "emulator/emulatorlaw44.SchedWakes", spec := "schedWakes", unfollowed := true, recurses := true, apart := false, narrowed := true }
def SchedWakesUptoSaid : Prop := schedWakesUptoRow.holds Try.pinned (OpenSpec.upto schedWakesSpec)

/-- 'emulatorlaw44.SchedKeeps', WHERE WHAT IT READS IS OF BULK AT MOST 1048576: true; the input reads as it did. -/
def schedKeepsUptoRow : OpenClaim := { program := "ytnnknhcdnklalaa", sum := "777fd068ddfe199f5995e9b8e7a8fac237c0616cb71181ccba4e4f6d1357ae7c", func := "emulator/emulatorlaw44.SchedKeeps", spec := "schedKeeps", unfollowed := true, recurses := true, apart := false, narrowed := true }
def SchedKeepsUptoSaid : Prop := schedKeepsUptoRow.holds Try.pinned (OpenSpec.upto schedKeepsSpec)

end Rows
end Go.Proofs.Ytnnknhcdnklalaa
