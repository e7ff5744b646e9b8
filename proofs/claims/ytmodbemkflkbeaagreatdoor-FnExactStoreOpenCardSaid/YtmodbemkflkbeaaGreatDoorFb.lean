/- One closed fact on the program as a whole, in a text of its own: the kernel wants much memory for it. -/
import Derived.Test.YtmodbemkflkbeaaGreatDoorRows
namespace Go.Proofs.YtmodbemkflkbeaaGreatDoor
set_option maxRecDepth 100000
theorem liftsF : Tryz.prog.liftsFinal = Rows.fnExactStoreOpenRow.lifted := by kernel_rfl
end Go.Proofs.YtmodbemkflkbeaaGreatDoor
