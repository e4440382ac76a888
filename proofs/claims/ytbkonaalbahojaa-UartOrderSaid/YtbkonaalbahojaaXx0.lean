-- Printed by wip/tools/xprint.py (the kit's print, with contracts typed by hand for what it does not take).
import Derived.Test.YtbkonaalbahojaaProg
import Derived.Below
import Derived.Deep.Draws
import Derived.Deep.AppendLies
import Derived.Maps.AppendAt
import Derived.OwnWalk
import Derived.Laws.BytesArg
import Derived.Laws.MakeOwn
import Derived.Laws.OwnMore
import Derived.Deep.OwnRows
import Derived.Tactics
import Derived.Lib.ConvBytes
import Derived.Laws.Slices
import Derived.WalkKit
import Derived.KernelRfl
import Derived.RowKit3
import Derived.Deep.LoopGhost
import Derived.Deep.QuietTactic
import Derived.BigQuiet
import Derived.WideLaws
import Derived.Deep.DeepCutAuto
import Derived.Deep.CutBlock
import Derived.Deep.RegionHeld3
import Derived.Laws.Rows
import Derived.Lib.AppendStr
import Derived.ArgAppend
import Derived.Laws.IdiomCopy
import Derived.OrdersHeld
import Derived.Laws.BitsLemmas
import Derived.RowKit
import Derived.Test.YtbkonaalbahojaaWWords
import Derived.Test.YtbkonaalbahojaaWLast
import Derived.Test.YtbkonaalbahojaaWTab
import Derived.Test.YtbkonaalbahojaaWFour
import Derived.Test.YtbkonaalbahojaaWQPut
import Derived.Test.YtbkonaalbahojaaWApart
import Derived.Test.YtbkonaalbahojaaWArr
import Derived.Test.YtbkonaalbahojaaWZeros
import Derived.Test.YtbkonaalbahojaaWFoot
import Derived.Test.YtbkonaalbahojaaWKept
import Derived.Test.YtbkonaalbahojaaWShare
import Derived.Test.YtbkonaalbahojaaWN
import Derived.Test.YtbkonaalbahojaaWFootNe
import Derived.Test.YtbkonaalbahojaaWAt
import Derived.Test.YtbkonaalbahojaaWEqStruct
import Derived.Test.YtbkonaalbahojaaWRepsOne
import Derived.Test.YtbkonaalbahojaaWInv
import Derived.Test.YtbkonaalbahojaaWInvWords
import Derived.Test.YtbkonaalbahojaaWGuard
import Derived.Test.YtbkonaalbahojaaWNEv
import Derived.Test.YtbkonaalbahojaaWMore
namespace Go.Proofs.Ytbkonaalbahojaa.X
open Go.RowKit Go.Proofs.YtbkonaalbahojaaW.PrintWords Go.Proofs.YtbkonaalbahojaaW.PrintLast Go.Proofs.YtbkonaalbahojaaW.PrintMore
attribute [local go_sem] max2_int min2_int max_two min_two max_three min_three max_four min_four   -- for this text's walks alone
set_option linter.unusedVariables false
set_option linter.unusedSimpArgs false



def errW : Option Int → Value
  | none => .nilIface
  | some c => .iface 0 (.int .i64 c)
theorem errW_none : errW none = .nilIface := rfl
theorem errW_some (c : Int) : errW (some c) = .iface 0 (.int .i64 c) := rfl

theorem info5 : (Try.prog.info? 5).map (fun i => (i.zero, i.size, i.bytes)) = some (some (.int .u8 0), 1, 1) := by kernel_rfl
theorem info24 : (Try.prog.info? 24).map (fun i => (i.zero, i.size, i.bytes)) = some (some (.int .u32 0), 1, 4) := by kernel_rfl
-- the values' own types

end Go.Proofs.Ytbkonaalbahojaa.X
