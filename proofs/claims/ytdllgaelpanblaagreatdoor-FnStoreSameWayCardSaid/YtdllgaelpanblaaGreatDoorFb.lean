/- One closed fact on the program as a whole, in a text of its own: the kernel wants much memory for it. -/
import Derived.Test.YtdllgaelpanblaaGreatDoorRows
namespace Go.Proofs.YtdllgaelpanblaaGreatDoor
set_option maxRecDepth 100000
theorem liftsF:Tryz.prog.liftsFinal=Rows.fnStoreSameWayRow.lifted:=by kernel_rfl
end Go.Proofs.YtdllgaelpanblaaGreatDoor
