/- One closed fact on the program as a whole, in a text of its own: the kernel wants much memory for it. -/
import Derived.Test.YtabknkhhlbanoaaGreatDoorRows
namespace Go.Proofs.YtabknkhhlbanoaaGreatDoor
set_option maxRecDepth 100000
theorem liftsF:Tryz.prog.liftsFinal=Rows.fnReadJournalRow.lifted:=by kernel_rfl
end Go.Proofs.YtabknkhhlbanoaaGreatDoor
