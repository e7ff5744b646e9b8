/- One closed fact on the program as a whole, in a text of its own: the kernel wants much memory for it. -/
import Derived.Test.YtlhiienanbpdlaaDoorRows
namespace Go.Proofs.YtlhiienanbpdlaaDoor
set_option maxRecDepth 100000
theorem liftsF : Tryd.prog.liftsFinal = Rows.fnDeskDoRow.lifted := by kernel_rfl
end Go.Proofs.YtlhiienanbpdlaaDoor
