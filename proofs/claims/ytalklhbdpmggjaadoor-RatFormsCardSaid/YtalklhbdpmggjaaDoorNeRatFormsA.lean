/- The row's closed cells, one at a time (together they fill the kernel's memory). -/
import Derived.Test.YtalklhbdpmggjaaDoorRows
import Derived.JoinedOf
namespace Go.Proofs.YtalklhbdpmggjaaDoor.ratForms
open Go
set_option maxRecDepth 100000
theorem j1 : (Rows.ratFormsRow.inPlace == Tryd.prog.inPlace 19) = true := by kernel_rfl
theorem j2 : (Rows.ratFormsRow.unfollowed == Tryd.prog.unfollowed 19) = true := by kernel_rfl
end Go.Proofs.YtalklhbdpmggjaaDoor.ratForms
