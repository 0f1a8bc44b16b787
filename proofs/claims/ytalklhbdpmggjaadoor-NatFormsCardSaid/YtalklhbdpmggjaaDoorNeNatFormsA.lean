/- The row's closed cells, one at a time (together they fill the kernel's memory). -/
import Derived.Test.YtalklhbdpmggjaaDoorRows
import Derived.JoinedOf
namespace Go.Proofs.YtalklhbdpmggjaaDoor.natForms
open Go
set_option maxRecDepth 100000
theorem j1 : (Rows.natFormsRow.inPlace == Tryd.prog.inPlace 8) = true := by kernel_rfl
theorem j2 : (Rows.natFormsRow.unfollowed == Tryd.prog.unfollowed 8) = true := by kernel_rfl
end Go.Proofs.YtalklhbdpmggjaaDoor.natForms
