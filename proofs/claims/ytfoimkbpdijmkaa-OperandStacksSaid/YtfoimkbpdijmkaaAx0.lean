-- Written by a program of this session (mp.py) over the kit's print.py, with proofs by hand for what the print does not take.
import Derived.Test.YtfoimkbpdijmkaaProg
import Derived.Test.YtfoimkbpdijmkaaBits
import Derived.Below
import Derived.Deep.Draws
import Derived.Deep.AppendLies
import Derived.Maps.AppendAt
import Derived.OwnWalk
import Derived.Laws.BytesArg
import Derived.Laws.MakeOwn
import Derived.Laws.OwnMore
import Derived.Deep.OwnRows
import Derived.Tactics
import Derived.Lib.ConvBytes
import Derived.Laws.Slices
import Derived.WalkKit
import Derived.KernelRfl
import Derived.RowKit3
import Derived.Deep.LoopGhost
import Derived.Deep.QuietTactic
import Derived.BigQuiet
import Derived.WideLaws
import Derived.Deep.DeepCutAuto
import Derived.Deep.CutBlock
import Derived.Deep.RegionHeld3
import Derived.Laws.Rows
import Derived.Lib.AppendStr
import Derived.ArgAppend
import Derived.Laws.IdiomCopy
import Derived.OrdersHeld
import Derived.Laws.BitsLemmas
import Derived.RowKit
import Derived.Test.YtfoimkbpdijmkaaWWords
import Derived.Test.YtfoimkbpdijmkaaWLast
import Derived.Test.YtfoimkbpdijmkaaWTab
import Derived.Test.YtfoimkbpdijmkaaWFour
import Derived.Test.YtfoimkbpdijmkaaWQPut
import Derived.Test.YtfoimkbpdijmkaaWApart
import Derived.Test.YtfoimkbpdijmkaaWArr
import Derived.Test.YtfoimkbpdijmkaaWZeros
import Derived.Test.YtfoimkbpdijmkaaWFoot
import Derived.Test.YtfoimkbpdijmkaaWKept
import Derived.Test.YtfoimkbpdijmkaaWShare
import Derived.Test.YtfoimkbpdijmkaaWN
import Derived.Test.YtfoimkbpdijmkaaWFootNe
import Derived.Test.YtfoimkbpdijmkaaWAt
import Derived.Test.YtfoimkbpdijmkaaWEqStruct
import Derived.Test.YtfoimkbpdijmkaaWRepsOne
import Derived.Test.YtfoimkbpdijmkaaWInv
import Derived.Test.YtfoimkbpdijmkaaWInvWords
import Derived.Test.YtfoimkbpdijmkaaWGuard
import Derived.Test.YtfoimkbpdijmkaaWNEv
import Derived.Test.YtfoimkbpdijmkaaWMore
namespace Go.Proofs.Ytfoimkbpdijmkaa.A
open Go.RowKit Go.Proofs.YtfoimkbpdijmkaaW.PrintWords Go.Proofs.YtfoimkbpdijmkaaW.PrintLast Go.Proofs.YtfoimkbpdijmkaaW.PrintMore
attribute [local go_sem] max2_int min2_int max_two min_two max_three min_three max_four min_four   -- for this text's walks alone
set_option linter.unusedVariables false
set_option linter.unusedSimpArgs false



def errW : Option Int → Value
  | none => .nilIface
  | some c => .iface 0 (.int .i64 c)
theorem errW_none : errW none = .nilIface := rfl
theorem errW_some (c : Int) : errW (some c) = .iface 0 (.int .i64 c) := rfl

-- the values' own types

end Go.Proofs.Ytfoimkbpdijmkaa.A
