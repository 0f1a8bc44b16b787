/- The row's closed cells, one at a time (together they fill the kernel's memory). -/
import Derived.Test.YtalklhbdpmggjaaDoorRows
import Derived.JoinedOf
namespace Go.Proofs.YtalklhbdpmggjaaDoor.natSums
open Go
set_option maxRecDepth 100000
theorem j1 : (Rows.natSumsRow.inPlace == Tryd.prog.inPlace 10) = true := by kernel_rfl
theorem j2 : (Rows.natSumsRow.unfollowed == Tryd.prog.unfollowed 10) = true := by kernel_rfl
end Go.Proofs.YtalklhbdpmggjaaDoor.natSums
