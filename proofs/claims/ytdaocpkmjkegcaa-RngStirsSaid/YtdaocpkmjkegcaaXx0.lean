-- Printed by wip/tools/xprint.py (the kit's print, with contracts typed by hand for what it does not take).
import Derived.Test.YtdaocpkmjkegcaaProg
import Derived.Below
import Derived.Deep.Draws
import Derived.Deep.AppendLies
import Derived.Maps.AppendAt
import Derived.OwnWalk
import Derived.Laws.BytesArg
import Derived.Laws.MakeOwn
import Derived.Laws.OwnMore
import Derived.Deep.OwnRows
import Derived.Tactics
import Derived.Lib.ConvBytes
import Derived.Laws.Slices
import Derived.WalkKit
import Derived.KernelRfl
import Derived.RowKit3
import Derived.Deep.LoopGhost
import Derived.Deep.QuietTactic
import Derived.BigQuiet
import Derived.WideLaws
import Derived.Deep.DeepCutAuto
import Derived.Deep.CutBlock
import Derived.Deep.RegionHeld3
import Derived.Laws.Rows
import Derived.Lib.AppendStr
import Derived.ArgAppend
import Derived.Laws.IdiomCopy
import Derived.OrdersHeld
import Derived.Laws.BitsLemmas
import Derived.RowKit
import Derived.Test.YtdaocpkmjkegcaaWWords
import Derived.Test.YtdaocpkmjkegcaaWLast
import Derived.Test.YtdaocpkmjkegcaaWTab
import Derived.Test.YtdaocpkmjkegcaaWFour
import Derived.Test.YtdaocpkmjkegcaaWQPut
import Derived.Test.YtdaocpkmjkegcaaWApart
import Derived.Test.YtdaocpkmjkegcaaWArr
import Derived.Test.YtdaocpkmjkegcaaWZeros
import Derived.Test.YtdaocpkmjkegcaaWFoot
import Derived.Test.YtdaocpkmjkegcaaWKept
import Derived.Test.YtdaocpkmjkegcaaWShare
import Derived.Test.YtdaocpkmjkegcaaWN
import Derived.Test.YtdaocpkmjkegcaaWFootNe
import Derived.Test.YtdaocpkmjkegcaaWAt
import Derived.Test.YtdaocpkmjkegcaaWEqStruct
import Derived.Test.YtdaocpkmjkegcaaWRepsOne
import Derived.Test.YtdaocpkmjkegcaaWInv
import Derived.Test.YtdaocpkmjkegcaaWInvWords
import Derived.Test.YtdaocpkmjkegcaaWGuard
import Derived.Test.YtdaocpkmjkegcaaWNEv
import Derived.Test.YtdaocpkmjkegcaaWMore
namespace Go.Proofs.Ytdaocpkmjkegcaa.X
open Go.RowKit Go.Proofs.YtdaocpkmjkegcaaW.PrintWords Go.Proofs.YtdaocpkmjkegcaaW.PrintLast Go.Proofs.YtdaocpkmjkegcaaW.PrintMore
attribute [local go_sem] max2_int min2_int max_two min_two max_three min_three max_four min_four   -- for this text's walks alone
set_option linter.unusedVariables false
set_option linter.unusedSimpArgs false



def errW : Option Int → Value
  | none => .nilIface
  | some c => .iface 0 (.int .i64 c)
theorem errW_none : errW none = .nilIface := rfl
theorem errW_some (c : Int) : errW (some c) = .iface 0 (.int .i64 c) := rfl

-- the values' own types

end Go.Proofs.Ytdaocpkmjkegcaa.X
