-- Written by a program of this session (mp.py) over the kit's print.py, with proofs by hand for what the print does not take.
import Derived.Test.YtflblckegjobnaaDoorShelf
import Derived.Lib.SmallJoins
import Derived.Test.YtflblckegjobnaaDoorProg
import Derived.Below
import Derived.Deep.Draws
import Derived.Deep.AppendLies
import Derived.Maps.AppendAt
import Derived.OwnWalk
import Derived.Laws.BytesArg
import Derived.Laws.MakeOwn
import Derived.Laws.OwnMore
import Derived.Deep.OwnRows
import Derived.Tactics
import Derived.Lib.ConvBytes
import Derived.Laws.Slices
import Derived.WalkKit
import Derived.KernelRfl
import Derived.RowKit3
import Derived.Deep.LoopGhost
import Derived.Deep.QuietTactic
import Derived.BigQuiet
import Derived.WideLaws
import Derived.Deep.DeepCutAuto
import Derived.Deep.CutBlock
import Derived.Deep.RegionHeld3
import Derived.Laws.Rows
import Derived.Lib.AppendStr
import Derived.ArgAppend
import Derived.Laws.IdiomCopy
import Derived.OrdersHeld
import Derived.Laws.BitsLemmas
import Derived.RowKit
import Derived.Test.YtflblckegjobnaaDoorWWords
import Derived.Test.YtflblckegjobnaaDoorWLast
import Derived.Test.YtflblckegjobnaaDoorWTab
import Derived.Test.YtflblckegjobnaaDoorWFour
import Derived.Test.YtflblckegjobnaaDoorWQPut
import Derived.Test.YtflblckegjobnaaDoorWApart
import Derived.Test.YtflblckegjobnaaDoorWArr
import Derived.Test.YtflblckegjobnaaDoorWZeros
import Derived.Test.YtflblckegjobnaaDoorWFoot
import Derived.Test.YtflblckegjobnaaDoorWKept
import Derived.Test.YtflblckegjobnaaDoorWShare
import Derived.Test.YtflblckegjobnaaDoorWN
import Derived.Test.YtflblckegjobnaaDoorWFootNe
import Derived.Test.YtflblckegjobnaaDoorWAt
import Derived.Test.YtflblckegjobnaaDoorWEqStruct
import Derived.Test.YtflblckegjobnaaDoorWRepsOne
import Derived.Test.YtflblckegjobnaaDoorWInv
import Derived.Test.YtflblckegjobnaaDoorWInvWords
import Derived.Test.YtflblckegjobnaaDoorWGuard
import Derived.Test.YtflblckegjobnaaDoorWNEv
import Derived.Test.YtflblckegjobnaaDoorWMore
namespace Go.Proofs.YtflblckegjobnaaDoor.A
open Go.RowKit Go.Proofs.YtflblckegjobnaaDoorW.PrintWords Go.Proofs.YtflblckegjobnaaDoorW.PrintLast Go.Proofs.YtflblckegjobnaaDoorW.PrintMore
attribute [local go_sem] max2_int min2_int max_two min_two max_three min_three max_four min_four   -- for this text's walks alone
set_option linter.unusedVariables false
set_option linter.unusedSimpArgs false



def errW : Option Int → Value
  | none => .nilIface
  | some c => .iface 0 (.int .i64 c)
theorem errW_none : errW none = .nilIface := rfl
theorem errW_some (c : Int) : errW (some c) = .iface 0 (.int .i64 c) := rfl

theorem info3 : (Tryd.prog.info? 3).map (fun i => (i.zero, i.size, i.bytes)) = some (some (.int .i64 0), 1, 8) := by kernel_rfl
theorem info9 : (Tryd.prog.info? 9).map (fun i => (i.zero, i.size, i.bytes)) = some (some (.string ⟨#[]⟩), 1, 16) := by kernel_rfl
theorem ne_nil_ (l : List UInt8) : (l != []) = !l.isEmpty := by cases l <;> rfl
/-- The library's table of ASCII spaces reads as the library's own initialiser lays it. -/
structure Sz (w : World) : Prop where mk ::
  (tab : Lib.TabIs Tryd.prog w "strings.asciiSpace" .u8 Lib.asciiSpaceTab)
theorem Sz.go {w W : World} (h : Sz w) (b : Below w.heap.size w W) : Sz W := ⟨Go.Joins.tab_stays (g := 0) (by kernel_rfl) h.tab b (Nat.le_refl _)⟩

-- the values' own types

end Go.Proofs.YtflblckegjobnaaDoor.A
