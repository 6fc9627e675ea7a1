-- Laid by extprint.py (the session's own driver): functions told by the kit's printer and by hand.
import Derived.Test.YteidlffajcogcaaProg
import Derived.Below
import Derived.Deep.Draws
import Derived.Deep.AppendLies
import Derived.Maps.AppendAt
import Derived.OwnWalk
import Derived.Laws.BytesArg
import Derived.Laws.MakeOwn
import Derived.Laws.OwnMore
import Derived.Deep.OwnRows
import Derived.Tactics
import Derived.Lib.ConvBytes
import Derived.Laws.Slices
import Derived.WalkKit
import Derived.KernelRfl
import Derived.RowKit3
import Derived.Deep.LoopGhost
import Derived.Deep.QuietTactic
import Derived.BigQuiet
import Derived.WideLaws
import Derived.Deep.DeepCutAuto
import Derived.Deep.CutBlock
import Derived.Deep.RegionHeld3
import Derived.Laws.Rows
import Derived.Lib.AppendStr
import Derived.ArgAppend
import Derived.Laws.IdiomCopy
import Derived.OrdersHeld
import Derived.Laws.BitsLemmas
import Derived.RowKit
import Derived.Test.YteidlffajcogcaaGPre
import Derived.Test.YteidlffajcogcaaGMem
import Derived.Test.YteidlffajcogcaaShelf
import Derived.Test.YteidlffajcogcaaGOpen
import Derived.Test.YteidlffajcogcaaGlobMem
import Derived.Test.YteidlffajcogcaaGlobWalk
import Derived.Test.YteidlffajcogcaaWWords
import Derived.Test.YteidlffajcogcaaWLast
import Derived.Test.YteidlffajcogcaaWTab
import Derived.Test.YteidlffajcogcaaWFour
import Derived.Test.YteidlffajcogcaaWQPut
import Derived.Test.YteidlffajcogcaaWApart
import Derived.Test.YteidlffajcogcaaWArr
import Derived.Test.YteidlffajcogcaaWZeros
import Derived.Test.YteidlffajcogcaaWFoot
import Derived.Test.YteidlffajcogcaaWKept
import Derived.Test.YteidlffajcogcaaWShare
import Derived.Test.YteidlffajcogcaaWN
import Derived.Test.YteidlffajcogcaaWFootNe
import Derived.Test.YteidlffajcogcaaWAt
import Derived.Test.YteidlffajcogcaaWEqStruct
import Derived.Test.YteidlffajcogcaaWRepsOne
import Derived.Test.YteidlffajcogcaaWInv
import Derived.Test.YteidlffajcogcaaWInvWords
import Derived.Test.YteidlffajcogcaaWGuard
import Derived.Test.YteidlffajcogcaaWNEv
import Derived.Test.YteidlffajcogcaaWMore
namespace Go.Proofs.Yteidlffajcogcaa.XGlS
open Go.RowKit Gong Go.Proofs.YteidlffajcogcaaW.PrintWords Go.Proofs.YteidlffajcogcaaW.PrintLast Go.Proofs.YteidlffajcogcaaW.PrintMore
attribute [local go_sem] max2_int min2_int max_two min_two max_three min_three max_four min_four   -- for this text's walks alone
set_option linter.unusedVariables false
set_option linter.unusedSimpArgs false



def errW : Option Int → Value
  | none => .nilIface
  | some c => .iface 0 (.int .i64 c)
theorem errW_none : errW none = .nilIface := rfl
theorem errW_some (c : Int) : errW (some c) = .iface 0 (.int .i64 c) := rfl

-- the values' own types

end Go.Proofs.Yteidlffajcogcaa.XGlS
