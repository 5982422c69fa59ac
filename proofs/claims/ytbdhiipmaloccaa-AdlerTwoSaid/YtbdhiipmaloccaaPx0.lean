/- Each Go function named below comes to what the Lean function of its name says (written by this session's program mkprint.py over the kit's print). -/
import Derived.Test.YtbdhiipmaloccaaProg
import Derived.Below
import Derived.Deep.Draws
import Derived.Deep.AppendLies
import Derived.Maps.AppendAt
import Derived.OwnWalk
import Derived.Laws.BytesArg
import Derived.Laws.MakeOwn
import Derived.Laws.OwnMore
import Derived.Deep.OwnRows
import Derived.Tactics
import Derived.Lib.ConvBytes
import Derived.Laws.Slices
import Derived.WalkKit
import Derived.KernelRfl
import Derived.RowKit3
import Derived.Deep.LoopGhost
import Derived.Deep.QuietTactic
import Derived.BigQuiet
import Derived.WideLaws
import Derived.Deep.DeepCutAuto
import Derived.Deep.CutBlock
import Derived.Deep.RegionHeld3
import Derived.Laws.Rows
import Derived.Lib.AppendStr
import Derived.ArgAppend
import Derived.Laws.IdiomCopy
import Derived.OrdersHeld
import Derived.Laws.BitsLemmas
import Derived.RowKit
import Derived.Test.YtbdhiipmaloccaaWWords
import Derived.Test.YtbdhiipmaloccaaWLast
import Derived.Test.YtbdhiipmaloccaaWTab
import Derived.Test.YtbdhiipmaloccaaWFour
import Derived.Test.YtbdhiipmaloccaaWQPut
import Derived.Test.YtbdhiipmaloccaaWApart
import Derived.Test.YtbdhiipmaloccaaWArr
import Derived.Test.YtbdhiipmaloccaaWZeros
import Derived.Test.YtbdhiipmaloccaaWFoot
import Derived.Test.YtbdhiipmaloccaaWKept
import Derived.Test.YtbdhiipmaloccaaWShare
import Derived.Test.YtbdhiipmaloccaaWN
import Derived.Test.YtbdhiipmaloccaaWFootNe
import Derived.Test.YtbdhiipmaloccaaWAt
import Derived.Test.YtbdhiipmaloccaaWEqStruct
import Derived.Test.YtbdhiipmaloccaaWRepsOne
import Derived.Test.YtbdhiipmaloccaaWInv
import Derived.Test.YtbdhiipmaloccaaWInvWords
import Derived.Test.YtbdhiipmaloccaaWGuard
import Derived.Test.YtbdhiipmaloccaaWNEv
import Derived.Test.YtbdhiipmaloccaaWMore
namespace Go.Proofs.Ytbdhiipmaloccaa.P
open Go.RowKit Go.Proofs.YtbdhiipmaloccaaW.PrintWords Go.Proofs.YtbdhiipmaloccaaW.PrintLast Go.Proofs.YtbdhiipmaloccaaW.PrintMore
attribute [local go_sem] max2_int min2_int max_two min_two max_three min_three max_four min_four   -- for this text's walks alone
set_option linter.unusedVariables false
set_option linter.unusedSimpArgs false



def errW : Option Int → Value
  | none => .nilIface
  | some c => .iface 0 (.int .i64 c)
theorem errW_none : errW none = .nilIface := rfl
theorem errW_some (c : Int) : errW (some c) = .iface 0 (.int .i64 c) := rfl

theorem info5 : (Try.prog.info? 5).map (fun i => (i.zero, i.size, i.bytes)) = some (some (.int .u8 0), 1, 1) := by kernel_rfl
-- the values' own types

end Go.Proofs.Ytbdhiipmaloccaa.P
