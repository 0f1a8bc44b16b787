/- The row's closed cells, one at a time (together they fill the kernel's memory). -/
import Derived.Test.YtalklhbdpmggjaaDoorRows
import Derived.JoinedOf
namespace Go.Proofs.YtalklhbdpmggjaaDoor.ratOrder
open Go
set_option maxRecDepth 100000
theorem j1 : (Rows.ratOrderRow.inPlace == Tryd.prog.inPlace 15) = true := by kernel_rfl
theorem j2 : (Rows.ratOrderRow.unfollowed == Tryd.prog.unfollowed 15) = true := by kernel_rfl
end Go.Proofs.YtalklhbdpmggjaaDoor.ratOrder
