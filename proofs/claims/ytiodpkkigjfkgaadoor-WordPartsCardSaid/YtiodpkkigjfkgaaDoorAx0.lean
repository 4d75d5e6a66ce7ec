-- Written by a program of this session (mp.py) over the kit's print.py, with proofs by hand for what the print does not take.
import Derived.Test.YtiodpkkigjfkgaaDoorProg
import Derived.Below
import Derived.Deep.Draws
import Derived.Deep.AppendLies
import Derived.Maps.AppendAt
import Derived.OwnWalk
import Derived.Laws.BytesArg
import Derived.Laws.MakeOwn
import Derived.Laws.OwnMore
import Derived.Deep.OwnRows
import Derived.Tactics
import Derived.Lib.ConvBytes
import Derived.Laws.Slices
import Derived.WalkKit
import Derived.KernelRfl
import Derived.RowKit3
import Derived.Deep.LoopGhost
import Derived.Deep.QuietTactic
import Derived.BigQuiet
import Derived.WideLaws
import Derived.Deep.DeepCutAuto
import Derived.Deep.CutBlock
import Derived.Deep.RegionHeld3
import Derived.Laws.Rows
import Derived.Lib.AppendStr
import Derived.ArgAppend
import Derived.Laws.IdiomCopy
import Derived.OrdersHeld
import Derived.Laws.BitsLemmas
import Derived.RowKit
import Derived.Test.YtiodpkkigjfkgaaDoorWWords
import Derived.Test.YtiodpkkigjfkgaaDoorWLast
import Derived.Test.YtiodpkkigjfkgaaDoorWTab
import Derived.Test.YtiodpkkigjfkgaaDoorWFour
import Derived.Test.YtiodpkkigjfkgaaDoorWQPut
import Derived.Test.YtiodpkkigjfkgaaDoorWApart
import Derived.Test.YtiodpkkigjfkgaaDoorWArr
import Derived.Test.YtiodpkkigjfkgaaDoorWZeros
import Derived.Test.YtiodpkkigjfkgaaDoorWFoot
import Derived.Test.YtiodpkkigjfkgaaDoorWKept
import Derived.Test.YtiodpkkigjfkgaaDoorWShare
import Derived.Test.YtiodpkkigjfkgaaDoorWN
import Derived.Test.YtiodpkkigjfkgaaDoorWFootNe
import Derived.Test.YtiodpkkigjfkgaaDoorWAt
import Derived.Test.YtiodpkkigjfkgaaDoorWEqStruct
import Derived.Test.YtiodpkkigjfkgaaDoorWRepsOne
import Derived.Test.YtiodpkkigjfkgaaDoorWInv
import Derived.Test.YtiodpkkigjfkgaaDoorWInvWords
import Derived.Test.YtiodpkkigjfkgaaDoorWGuard
import Derived.Test.YtiodpkkigjfkgaaDoorWNEv
import Derived.Test.YtiodpkkigjfkgaaDoorWMore
namespace Go.Proofs.YtiodpkkigjfkgaaDoor.A
open Go.RowKit Go.Proofs.YtiodpkkigjfkgaaDoorW.PrintWords Go.Proofs.YtiodpkkigjfkgaaDoorW.PrintLast Go.Proofs.YtiodpkkigjfkgaaDoorW.PrintMore
attribute [local go_sem] max2_int min2_int max_two min_two max_three min_three max_four min_four   -- for this text's walks alone
set_option linter.unusedVariables false
set_option linter.unusedSimpArgs false



def errW : Option Int → Value
  | none => .nilIface
  | some c => .iface 0 (.int .i64 c)
theorem errW_none : errW none = .nilIface := rfl
theorem errW_some (c : Int) : errW (some c) = .iface 0 (.int .i64 c) := rfl

/-- The package variable 'sizes' of package word (block 0) holds what its initialiser lays. -/
structure Sz (w : World) : Prop where mk ::
  (c0 : w.cell? ⟨0, 0, none⟩ = some (.int .i64 65535)) (c1 : w.cell? ⟨0, 1, none⟩ = some (.int .i64 32768)) (c2 : w.cell? ⟨0, 2, none⟩ = some (.int .i64 65536))
  (c3 : w.cell? ⟨0, 3, none⟩ = some (.int .i64 255)) (c4 : w.cell? ⟨0, 4, none⟩ = some (.int .i64 128)) (c5 : w.cell? ⟨0, 5, none⟩ = some (.int .i64 256))
theorem Sz.go {w W : World} (h : Sz w) (b : Below w.heap.size w W) : Sz W :=
  ⟨pw_cell_below b h.c0, pw_cell_below b h.c1, pw_cell_below b h.c2, pw_cell_below b h.c3, pw_cell_below b h.c4, pw_cell_below b h.c5⟩

-- the values' own types

end Go.Proofs.YtiodpkkigjfkgaaDoor.A
