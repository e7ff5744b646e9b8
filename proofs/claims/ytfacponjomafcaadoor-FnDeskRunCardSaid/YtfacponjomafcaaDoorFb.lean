/- One closed fact on the program as a whole, in a text of its own: the kernel wants much memory for it. -/
import Derived.Test.YtfacponjomafcaaDoorRows
namespace Go.Proofs.YtfacponjomafcaaDoor
set_option maxRecDepth 100000
theorem liftsF : Tryd.prog.liftsFinal = Rows.fnDeskDoRow.lifted := by kernel_rfl
end Go.Proofs.YtfacponjomafcaaDoor
