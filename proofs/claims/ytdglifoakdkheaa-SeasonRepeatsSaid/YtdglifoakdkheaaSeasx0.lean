-- Out of the kit's printer, driven by this repo's wip/gp.py with hand-written contracts beside it. Lean checks it.
import Derived.Test.YtdglifoakdkheaaProg
import Derived.Below
import Derived.Deep.Draws
import Derived.Deep.AppendLies
import Derived.Maps.AppendAt
import Derived.OwnWalk
import Derived.Laws.BytesArg
import Derived.Laws.MakeOwn
import Derived.Laws.OwnMore
import Derived.Deep.OwnRows
import Derived.Tactics
import Derived.Lib.ConvBytes
import Derived.Laws.Slices
import Derived.WalkKit
import Derived.KernelRfl
import Derived.RowKit3
import Derived.Deep.LoopGhost
import Derived.Deep.QuietTactic
import Derived.BigQuiet
import Derived.WideLaws
import Derived.Deep.DeepCutAuto
import Derived.Deep.CutBlock
import Derived.Deep.RegionHeld3
import Derived.Laws.Rows
import Derived.Lib.AppendStr
import Derived.ArgAppend
import Derived.Laws.IdiomCopy
import Derived.OrdersHeld
import Derived.Laws.BitsLemmas
import Derived.RowKit
import Derived.Test.YtdglifoakdkheaaWWords
import Derived.Test.YtdglifoakdkheaaWLast
import Derived.Test.YtdglifoakdkheaaWTab
import Derived.Test.YtdglifoakdkheaaWFour
import Derived.Test.YtdglifoakdkheaaWQPut
import Derived.Test.YtdglifoakdkheaaWApart
import Derived.Test.YtdglifoakdkheaaWArr
import Derived.Test.YtdglifoakdkheaaWZeros
import Derived.Test.YtdglifoakdkheaaWFoot
import Derived.Test.YtdglifoakdkheaaWKept
import Derived.Test.YtdglifoakdkheaaWShare
import Derived.Test.YtdglifoakdkheaaWN
import Derived.Test.YtdglifoakdkheaaWFootNe
import Derived.Test.YtdglifoakdkheaaWAt
import Derived.Test.YtdglifoakdkheaaWEqStruct
import Derived.Test.YtdglifoakdkheaaWRepsOne
import Derived.Test.YtdglifoakdkheaaWInv
import Derived.Test.YtdglifoakdkheaaWInvWords
import Derived.Test.YtdglifoakdkheaaWGuard
import Derived.Test.YtdglifoakdkheaaWNEv
import Derived.Test.YtdglifoakdkheaaWMore
namespace Go.Proofs.Ytdglifoakdkheaa.Seas
open Go.RowKit Go.Proofs.YtdglifoakdkheaaW.PrintWords Go.Proofs.YtdglifoakdkheaaW.PrintLast Go.Proofs.YtdglifoakdkheaaW.PrintMore
attribute [local go_sem] max2_int min2_int max_two min_two max_three min_three max_four min_four   -- for this text's walks alone
set_option linter.unusedVariables false
set_option linter.unusedSimpArgs false



def errW : Option Int → Value
  | none => .nilIface
  | some c => .iface 0 (.int .i64 c)
theorem errW_none : errW none = .nilIface := rfl
theorem errW_some (c : Int) : errW (some c) = .iface 0 (.int .i64 c) := rfl

theorem info3 : (Try.prog.info? 3).map (fun i => (i.zero, i.size, i.bytes)) = some (some (.int .i64 0), 1, 8) := by kernel_rfl
-- the values' own types

end Go.Proofs.Ytdglifoakdkheaa.Seas
