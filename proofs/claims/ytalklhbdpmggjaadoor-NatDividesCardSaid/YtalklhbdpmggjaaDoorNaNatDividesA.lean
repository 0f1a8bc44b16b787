/- The row's closed cells, one at a time (together they fill the kernel's memory). -/
import Derived.Test.YtalklhbdpmggjaaDoorRows
import Derived.JoinedOf
namespace Go.Proofs.YtalklhbdpmggjaaDoor.natDivides
open Go
set_option maxRecDepth 100000
theorem j1 : (Rows.natDividesRow.inPlace == Tryd.prog.inPlace 11) = true := by kernel_rfl
theorem j2 : (Rows.natDividesRow.unfollowed == Tryd.prog.unfollowed 11) = true := by kernel_rfl
end Go.Proofs.YtalklhbdpmggjaaDoor.natDivides
