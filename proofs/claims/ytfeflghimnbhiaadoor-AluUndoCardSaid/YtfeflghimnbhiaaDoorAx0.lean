-- Written by a program of this session (mp.py) over the kit's print.py, with proofs by hand for what the print does not take.
import Derived.Test.YtfeflghimnbhiaaDoorProg
import Derived.Below
import Derived.Deep.Draws
import Derived.Deep.AppendLies
import Derived.Maps.AppendAt
import Derived.OwnWalk
import Derived.Laws.BytesArg
import Derived.Laws.MakeOwn
import Derived.Laws.OwnMore
import Derived.Deep.OwnRows
import Derived.Tactics
import Derived.Lib.ConvBytes
import Derived.Laws.Slices
import Derived.WalkKit
import Derived.KernelRfl
import Derived.RowKit3
import Derived.Deep.LoopGhost
import Derived.Deep.QuietTactic
import Derived.BigQuiet
import Derived.WideLaws
import Derived.Deep.DeepCutAuto
import Derived.Deep.CutBlock
import Derived.Deep.RegionHeld3
import Derived.Laws.Rows
import Derived.Lib.AppendStr
import Derived.ArgAppend
import Derived.Laws.IdiomCopy
import Derived.OrdersHeld
import Derived.Laws.BitsLemmas
import Derived.RowKit
import Derived.Test.YtfeflghimnbhiaaDoorWWords
import Derived.Test.YtfeflghimnbhiaaDoorWLast
import Derived.Test.YtfeflghimnbhiaaDoorWTab
import Derived.Test.YtfeflghimnbhiaaDoorWFour
import Derived.Test.YtfeflghimnbhiaaDoorWQPut
import Derived.Test.YtfeflghimnbhiaaDoorWApart
import Derived.Test.YtfeflghimnbhiaaDoorWArr
import Derived.Test.YtfeflghimnbhiaaDoorWZeros
import Derived.Test.YtfeflghimnbhiaaDoorWFoot
import Derived.Test.YtfeflghimnbhiaaDoorWKept
import Derived.Test.YtfeflghimnbhiaaDoorWShare
import Derived.Test.YtfeflghimnbhiaaDoorWN
import Derived.Test.YtfeflghimnbhiaaDoorWFootNe
import Derived.Test.YtfeflghimnbhiaaDoorWAt
import Derived.Test.YtfeflghimnbhiaaDoorWEqStruct
import Derived.Test.YtfeflghimnbhiaaDoorWRepsOne
import Derived.Test.YtfeflghimnbhiaaDoorWInv
import Derived.Test.YtfeflghimnbhiaaDoorWInvWords
import Derived.Test.YtfeflghimnbhiaaDoorWGuard
import Derived.Test.YtfeflghimnbhiaaDoorWNEv
import Derived.Test.YtfeflghimnbhiaaDoorWMore
namespace Go.Proofs.YtfeflghimnbhiaaDoor.A
open Go.RowKit Go.Proofs.YtfeflghimnbhiaaDoorW.PrintWords Go.Proofs.YtfeflghimnbhiaaDoorW.PrintLast Go.Proofs.YtfeflghimnbhiaaDoorW.PrintMore
attribute [local go_sem] max2_int min2_int max_two min_two max_three min_three max_four min_four   -- for this text's walks alone
set_option linter.unusedVariables false
set_option linter.unusedSimpArgs false



def errW : Option Int → Value
  | none => .nilIface
  | some c => .iface 0 (.int .i64 c)
theorem errW_none : errW none = .nilIface := rfl
theorem errW_some (c : Int) : errW (some c) = .iface 0 (.int .i64 c) := rfl

/-- The package variable 'sizes' of package word (block 0) holds what its initialiser lays. -/
structure Sz (w : World) : Prop where mk ::
  (c0 : w.cell? ⟨0, 0, none⟩ = some (.int .i64 65535)) (c1 : w.cell? ⟨0, 1, none⟩ = some (.int .i64 32768)) (c2 : w.cell? ⟨0, 2, none⟩ = some (.int .i64 65536))
  (c3 : w.cell? ⟨0, 3, none⟩ = some (.int .i64 255)) (c4 : w.cell? ⟨0, 4, none⟩ = some (.int .i64 128)) (c5 : w.cell? ⟨0, 5, none⟩ = some (.int .i64 256))
theorem Sz.go {w W : World} (h : Sz w) (b : Below w.heap.size w W) : Sz W :=
  ⟨pw_cell_below b h.c0, pw_cell_below b h.c1, pw_cell_below b h.c2, pw_cell_below b h.c3, pw_cell_below b h.c4, pw_cell_below b h.c5⟩

-- the values' own types

end Go.Proofs.YtfeflghimnbhiaaDoor.A
