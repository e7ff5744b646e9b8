/- For the law FnExactDeedText: walks of the functions that it reaches: each call returns what the plain function beside it tells. The conditions stand in each statement. -/
import Derived.Test.YtlnbobpmjbcejaaDoorProg
import Derived.Below
import Derived.Deep.Draws
import Derived.Deep.AppendLies
import Derived.Maps.AppendAt
import Derived.OwnWalk
import Derived.Laws.BytesArg
import Derived.Laws.MakeOwn
import Derived.Laws.OwnMore
import Derived.Deep.OwnRows
import Derived.Tactics
import Derived.Lib.ConvBytes
import Derived.Laws.Slices
import Derived.WalkKit
import Derived.KernelRfl
import Derived.RowKit3
import Derived.Deep.LoopGhost
import Derived.Deep.QuietTactic
import Derived.BigQuiet
import Derived.WideLaws
import Derived.Deep.DeepCutAuto
import Derived.Deep.CutBlock
import Derived.Deep.RegionHeld3
import Derived.Laws.Rows
import Derived.Lib.AppendStr
import Derived.ArgAppend
import Derived.Laws.IdiomCopy
import Derived.OrdersHeld
import Derived.Laws.BitsLemmas
import Derived.RowKit
import Derived.Test.YtlnbobpmjbcejaaDoorShelf
import Derived.Test.YtlnbobpmjbcejaaDoorExt
import Derived.Test.YtlnbobpmjbcejaaDoorWWords
import Derived.Test.YtlnbobpmjbcejaaDoorWLast
import Derived.Test.YtlnbobpmjbcejaaDoorWTab
import Derived.Test.YtlnbobpmjbcejaaDoorWFour
import Derived.Test.YtlnbobpmjbcejaaDoorWQPut
import Derived.Test.YtlnbobpmjbcejaaDoorWApart
import Derived.Test.YtlnbobpmjbcejaaDoorWArr
import Derived.Test.YtlnbobpmjbcejaaDoorWZeros
import Derived.Test.YtlnbobpmjbcejaaDoorWFoot
import Derived.Test.YtlnbobpmjbcejaaDoorWKept
import Derived.Test.YtlnbobpmjbcejaaDoorWShare
import Derived.Test.YtlnbobpmjbcejaaDoorWN
import Derived.Test.YtlnbobpmjbcejaaDoorWFootNe
import Derived.Test.YtlnbobpmjbcejaaDoorWAt
import Derived.Test.YtlnbobpmjbcejaaDoorWEqStruct
import Derived.Test.YtlnbobpmjbcejaaDoorWRepsOne
import Derived.Test.YtlnbobpmjbcejaaDoorWInv
import Derived.Test.YtlnbobpmjbcejaaDoorWInvWords
import Derived.Test.YtlnbobpmjbcejaaDoorWGuard
import Derived.Test.YtlnbobpmjbcejaaDoorWNEv
import Derived.Test.YtlnbobpmjbcejaaDoorWMore
namespace Go.Proofs.YtlnbobpmjbcejaaDoor.MFnExactDeedText
open Go.RowKit Go.Proofs.YtlnbobpmjbcejaaDoorW.PrintWords Go.Proofs.YtlnbobpmjbcejaaDoorW.PrintLast Go.Proofs.YtlnbobpmjbcejaaDoorW.PrintMore
attribute [local go_sem] max2_int min2_int max_two min_two max_three min_three max_four min_four   -- for this text's walks alone
set_option linter.unusedVariables false
set_option linter.unusedSimpArgs false



def errW : Option Int → Value
  | none => .nilIface
  | some c => .iface 0 (.int .i64 c)
theorem errW_none : errW none = .nilIface := rfl
theorem errW_some (c : Int) : errW (some c) = .iface 0 (.int .i64 c) := rfl

theorem info5 : (Tryd.prog.info? 5).map (fun i => (i.zero, i.size, i.bytes)) = some (some (.int .u8 0), 1, 1) := by kernel_rfl
-- the values' own types

end Go.Proofs.YtlnbobpmjbcejaaDoor.MFnExactDeedText
