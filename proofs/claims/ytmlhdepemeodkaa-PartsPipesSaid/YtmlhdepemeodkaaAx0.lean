-- Written by a program of this session (mp.py) over the kit's print.py, with proofs by hand for what the print does not take.
import Derived.Test.YtmlhdepemeodkaaProg
import Derived.Below
import Derived.Deep.Draws
import Derived.Deep.AppendLies
import Derived.Maps.AppendAt
import Derived.OwnWalk
import Derived.Laws.BytesArg
import Derived.Laws.MakeOwn
import Derived.Laws.OwnMore
import Derived.Deep.OwnRows
import Derived.Tactics
import Derived.Lib.ConvBytes
import Derived.Laws.Slices
import Derived.WalkKit
import Derived.KernelRfl
import Derived.RowKit3
import Derived.Deep.LoopGhost
import Derived.Deep.QuietTactic
import Derived.BigQuiet
import Derived.WideLaws
import Derived.Deep.DeepCutAuto
import Derived.Deep.CutBlock
import Derived.Deep.RegionHeld3
import Derived.Laws.Rows
import Derived.Lib.AppendStr
import Derived.ArgAppend
import Derived.Laws.IdiomCopy
import Derived.OrdersHeld
import Derived.RegionTactic
import Derived.BigRegion
import Derived.Laws.BitsLemmas
import Derived.RowKit
import Derived.Test.YtmlhdepemeodkaaWWords
import Derived.Test.YtmlhdepemeodkaaWLast
import Derived.Test.YtmlhdepemeodkaaWTab
import Derived.Test.YtmlhdepemeodkaaWFour
import Derived.Test.YtmlhdepemeodkaaWQPut
import Derived.Test.YtmlhdepemeodkaaWApart
import Derived.Test.YtmlhdepemeodkaaWArr
import Derived.Test.YtmlhdepemeodkaaWZeros
import Derived.Test.YtmlhdepemeodkaaWFoot
import Derived.Test.YtmlhdepemeodkaaWKept
import Derived.Test.YtmlhdepemeodkaaWShare
import Derived.Test.YtmlhdepemeodkaaWN
import Derived.Test.YtmlhdepemeodkaaWFootNe
import Derived.Test.YtmlhdepemeodkaaWAt
import Derived.Test.YtmlhdepemeodkaaWEqStruct
import Derived.Test.YtmlhdepemeodkaaWRepsOne
import Derived.Test.YtmlhdepemeodkaaWInv
import Derived.Test.YtmlhdepemeodkaaWInvWords
import Derived.Test.YtmlhdepemeodkaaWGuard
import Derived.Test.YtmlhdepemeodkaaWNEv
import Derived.Test.YtmlhdepemeodkaaWMore
namespace Go.Proofs.Ytmlhdepemeodkaa.A
open Go.RowKit Go.Proofs.YtmlhdepemeodkaaW.PrintWords Go.Proofs.YtmlhdepemeodkaaW.PrintLast Go.Proofs.YtmlhdepemeodkaaW.PrintMore
attribute [local go_sem] max2_int min2_int max_two min_two max_three min_three max_four min_four   -- for this text's walks alone
set_option linter.unusedVariables false
set_option linter.unusedSimpArgs false



def errW : Option Int → Value
  | none => .nilIface
  | some c => .iface 0 (.int .i64 c)
theorem errW_none : errW none = .nilIface := rfl
theorem errW_some (c : Int) : errW (some c) = .iface 0 (.int .i64 c) := rfl

-- the values' own types

end Go.Proofs.Ytmlhdepemeodkaa.A
