-- Out of the kit's printer, driven by this repo's wip/gp.py with hand-written contracts beside it. Lean checks it.
import Derived.Test.YtnaeekahmbilnaaProg
import Derived.Below
import Derived.Deep.Draws
import Derived.Deep.AppendLies
import Derived.Maps.AppendAt
import Derived.OwnWalk
import Derived.Laws.BytesArg
import Derived.Laws.MakeOwn
import Derived.Laws.OwnMore
import Derived.Deep.OwnRows
import Derived.Tactics
import Derived.Lib.ConvBytes
import Derived.Laws.Slices
import Derived.WalkKit
import Derived.KernelRfl
import Derived.RowKit3
import Derived.Deep.LoopGhost
import Derived.Deep.QuietTactic
import Derived.BigQuiet
import Derived.WideLaws
import Derived.Deep.DeepCutAuto
import Derived.Deep.CutBlock
import Derived.Deep.RegionHeld3
import Derived.Laws.Rows
import Derived.Lib.AppendStr
import Derived.ArgAppend
import Derived.Laws.IdiomCopy
import Derived.OrdersHeld
import Derived.Laws.BitsLemmas
import Derived.RowKit
import Derived.Test.YtnaeekahmbilnaaShelf
import Derived.Test.YtnaeekahmbilnaaWWords
import Derived.Test.YtnaeekahmbilnaaWLast
import Derived.Test.YtnaeekahmbilnaaWTab
import Derived.Test.YtnaeekahmbilnaaWFour
import Derived.Test.YtnaeekahmbilnaaWQPut
import Derived.Test.YtnaeekahmbilnaaWApart
import Derived.Test.YtnaeekahmbilnaaWArr
import Derived.Test.YtnaeekahmbilnaaWZeros
import Derived.Test.YtnaeekahmbilnaaWFoot
import Derived.Test.YtnaeekahmbilnaaWKept
import Derived.Test.YtnaeekahmbilnaaWShare
import Derived.Test.YtnaeekahmbilnaaWN
import Derived.Test.YtnaeekahmbilnaaWFootNe
import Derived.Test.YtnaeekahmbilnaaWAt
import Derived.Test.YtnaeekahmbilnaaWEqStruct
import Derived.Test.YtnaeekahmbilnaaWRepsOne
import Derived.Test.YtnaeekahmbilnaaWInv
import Derived.Test.YtnaeekahmbilnaaWInvWords
import Derived.Test.YtnaeekahmbilnaaWGuard
import Derived.Test.YtnaeekahmbilnaaWNEv
import Derived.Test.YtnaeekahmbilnaaWMore
namespace Go.Proofs.Ytnaeekahmbilnaa.Fix
open Go.RowKit Go.Proofs.YtnaeekahmbilnaaW.PrintWords Go.Proofs.YtnaeekahmbilnaaW.PrintLast Go.Proofs.YtnaeekahmbilnaaW.PrintMore
attribute [local go_sem] max2_int min2_int max_two min_two max_three min_three max_four min_four   -- for this text's walks alone
set_option linter.unusedVariables false
set_option linter.unusedSimpArgs false



def errW : Option Int → Value
  | none => .nilIface
  | some c => .iface 0 (.int .i64 c)
theorem errW_none : errW none = .nilIface := rfl
theorem errW_some (c : Int) : errW (some c) = .iface 0 (.int .i64 c) := rfl

-- the values' own types

end Go.Proofs.Ytnaeekahmbilnaa.Fix
