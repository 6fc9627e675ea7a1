-- Laid by extprint.py (the session's own driver): functions told by the kit's printer and by hand.
import Derived.Test.YthacblokhhhlmaaDoorProg
import Derived.Below
import Derived.Deep.Draws
import Derived.Deep.AppendLies
import Derived.Maps.AppendAt
import Derived.OwnWalk
import Derived.Laws.BytesArg
import Derived.Laws.MakeOwn
import Derived.Laws.OwnMore
import Derived.Deep.OwnRows
import Derived.Tactics
import Derived.Lib.ConvBytes
import Derived.Laws.Slices
import Derived.WalkKit
import Derived.KernelRfl
import Derived.RowKit3
import Derived.Deep.LoopGhost
import Derived.Deep.QuietTactic
import Derived.BigQuiet
import Derived.WideLaws
import Derived.Deep.DeepCutAuto
import Derived.Deep.CutBlock
import Derived.Deep.RegionHeld3
import Derived.Laws.Rows
import Derived.Lib.AppendStr
import Derived.ArgAppend
import Derived.Laws.IdiomCopy
import Derived.OrdersHeld
import Derived.Laws.BitsLemmas
import Derived.RowKit
import Derived.Test.YthacblokhhhlmaaDoorGPre
import Derived.Test.YthacblokhhhlmaaDoorGMem
import Derived.Test.YthacblokhhhlmaaDoorShelf
import Derived.Test.YthacblokhhhlmaaDoorGGlob
import Derived.Test.YthacblokhhhlmaaDoorGOpen
import Derived.WalkMore
import Derived.Great.BuildSlice
import Derived.Test.YthacblokhhhlmaaDoorWWords
import Derived.Test.YthacblokhhhlmaaDoorWLast
import Derived.Test.YthacblokhhhlmaaDoorWTab
import Derived.Test.YthacblokhhhlmaaDoorWFour
import Derived.Test.YthacblokhhhlmaaDoorWQPut
import Derived.Test.YthacblokhhhlmaaDoorWApart
import Derived.Test.YthacblokhhhlmaaDoorWArr
import Derived.Test.YthacblokhhhlmaaDoorWZeros
import Derived.Test.YthacblokhhhlmaaDoorWFoot
import Derived.Test.YthacblokhhhlmaaDoorWKept
import Derived.Test.YthacblokhhhlmaaDoorWShare
import Derived.Test.YthacblokhhhlmaaDoorWN
import Derived.Test.YthacblokhhhlmaaDoorWFootNe
import Derived.Test.YthacblokhhhlmaaDoorWAt
import Derived.Test.YthacblokhhhlmaaDoorWEqStruct
import Derived.Test.YthacblokhhhlmaaDoorWRepsOne
import Derived.Test.YthacblokhhhlmaaDoorWInv
import Derived.Test.YthacblokhhhlmaaDoorWInvWords
import Derived.Test.YthacblokhhhlmaaDoorWGuard
import Derived.Test.YthacblokhhhlmaaDoorWNEv
import Derived.Test.YthacblokhhhlmaaDoorWMore
namespace Go.Proofs.YthacblokhhhlmaaDoor.XFf
open Go.RowKit Gong Go.Proofs.YthacblokhhhlmaaDoorW.PrintWords Go.Proofs.YthacblokhhhlmaaDoorW.PrintLast Go.Proofs.YthacblokhhhlmaaDoorW.PrintMore
attribute [local go_sem] max2_int min2_int max_two min_two max_three min_three max_four min_four   -- for this text's walks alone
set_option linter.unusedVariables false
set_option linter.unusedSimpArgs false



def errW : Option Int → Value
  | none => .nilIface
  | some c => .iface 0 (.int .i64 c)
theorem errW_none : errW none = .nilIface := rfl
theorem errW_some (c : Int) : errW (some c) = .iface 0 (.int .i64 c) := rfl

theorem info5 : (Tryd.prog.info? 5).map (fun i => (i.zero, i.size, i.bytes)) = some (some (.int .u8 0), 1, 1) := by kernel_rfl
theorem info9 : (Tryd.prog.info? 9).map (fun i => (i.zero, i.size, i.bytes)) = some (some (.string ⟨#[]⟩), 1, 16) := by kernel_rfl
-- the values' own types

end Go.Proofs.YthacblokhhhlmaaDoor.XFf
