/- One closed fact on the program as a whole, in a text of its own: the kernel wants much memory for it. -/
import Derived.Test.YtfibbdefcppfcaaDoorRows
namespace Go.Proofs.YtfibbdefcppfcaaDoor
set_option maxRecDepth 100000
theorem liftsF : Tryd.prog.liftsFinal = Rows.fnExactStoreOkRow.lifted := by kernel_rfl
end Go.Proofs.YtfibbdefcppfcaaDoor
