/- For the law FnMatchPairs: walks of the functions that it reaches: each call returns what the plain function beside it tells. The conditions stand in each statement. -/
import Derived.Test.YtnajepeajjbhcaaProg
import Derived.Below
import Derived.Deep.Draws
import Derived.Deep.AppendLies
import Derived.Maps.AppendAt
import Derived.OwnWalk
import Derived.Laws.BytesArg
import Derived.Laws.MakeOwn
import Derived.Laws.OwnMore
import Derived.Deep.OwnRows
import Derived.Tactics
import Derived.Lib.ConvBytes
import Derived.Laws.Slices
import Derived.WalkKit
import Derived.KernelRfl
import Derived.RowKit3
import Derived.Deep.LoopGhost
import Derived.Deep.QuietTactic
import Derived.BigQuiet
import Derived.WideLaws
import Derived.Deep.DeepCutAuto
import Derived.Deep.CutBlock
import Derived.Deep.RegionHeld3
import Derived.Laws.Rows
import Derived.Lib.AppendStr
import Derived.ArgAppend
import Derived.Laws.IdiomCopy
import Derived.OrdersHeld
import Derived.Laws.BitsLemmas
import Derived.RowKit
import Derived.Test.YtnajepeajjbhcaaWWords
import Derived.Test.YtnajepeajjbhcaaWLast
import Derived.Test.YtnajepeajjbhcaaWTab
import Derived.Test.YtnajepeajjbhcaaWFour
import Derived.Test.YtnajepeajjbhcaaWQPut
import Derived.Test.YtnajepeajjbhcaaWApart
import Derived.Test.YtnajepeajjbhcaaWArr
import Derived.Test.YtnajepeajjbhcaaWZeros
import Derived.Test.YtnajepeajjbhcaaWFoot
import Derived.Test.YtnajepeajjbhcaaWKept
import Derived.Test.YtnajepeajjbhcaaWShare
import Derived.Test.YtnajepeajjbhcaaWN
import Derived.Test.YtnajepeajjbhcaaWFootNe
import Derived.Test.YtnajepeajjbhcaaWAt
import Derived.Test.YtnajepeajjbhcaaWEqStruct
import Derived.Test.YtnajepeajjbhcaaWRepsOne
import Derived.Test.YtnajepeajjbhcaaWInv
import Derived.Test.YtnajepeajjbhcaaWInvWords
import Derived.Test.YtnajepeajjbhcaaWGuard
import Derived.Test.YtnajepeajjbhcaaWNEv
import Derived.Test.YtnajepeajjbhcaaWMore
namespace Go.Proofs.Ytnajepeajjbhcaa.MFnMatchPairs
open Go.RowKit Go.Proofs.YtnajepeajjbhcaaW.PrintWords Go.Proofs.YtnajepeajjbhcaaW.PrintLast Go.Proofs.YtnajepeajjbhcaaW.PrintMore
attribute [local go_sem] max2_int min2_int max_two min_two max_three min_three max_four min_four   -- for this text's walks alone
set_option linter.unusedVariables false
set_option linter.unusedSimpArgs false



def errW : Option Int → Value
  | none => .nilIface
  | some c => .iface 0 (.int .i64 c)
theorem errW_none : errW none = .nilIface := rfl
theorem errW_some (c : Int) : errW (some c) = .iface 0 (.int .i64 c) := rfl

theorem info3 : (Try.prog.info? 3).map (fun i => (i.zero, i.size, i.bytes)) = some (some (.int .i64 0), 1, 8) := by kernel_rfl
theorem info5 : (Try.prog.info? 5).map (fun i => (i.zero, i.size, i.bytes)) = some (some (.int .u8 0), 1, 1) := by kernel_rfl
-- the values' own types

end Go.Proofs.Ytnajepeajjbhcaa.MFnMatchPairs
