/- One closed fact on the program as a whole, in a text of its own: the kernel wants much memory for it. -/
import Derived.Test.YtmodbemkflkbeaaGreatDoorRows
namespace Go.Proofs.YtmodbemkflkbeaaGreatDoor
set_option maxRecDepth 100000
theorem makeF : Tryz.prog.make = some Rows.fnExactStoreOpenRow.make := by kernel_rfl
end Go.Proofs.YtmodbemkflkbeaaGreatDoor
