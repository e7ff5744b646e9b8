/- One closed fact on the program as a whole, in a text of its own: the kernel wants much memory for it. -/
import Derived.Test.YtmodbemkflkbeaaDoorRows
namespace Go.Proofs.YtmodbemkflkbeaaDoor
set_option maxRecDepth 100000
theorem enterF : Tryd.prog.mayEnter = true := by kernel_rfl
end Go.Proofs.YtmodbemkflkbeaaDoor
