/- One closed fact on the program as a whole, in a text of its own: the kernel wants much memory for it. -/
import Derived.Test.YtlnbobpmjbcejaaDoorRows
namespace Go.Proofs.YtlnbobpmjbcejaaDoor
set_option maxRecDepth 100000
theorem makeF : Tryd.prog.make = some Rows.fnExactDeedTextRow.make := by kernel_rfl
end Go.Proofs.YtlnbobpmjbcejaaDoor
