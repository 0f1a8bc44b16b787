/- The row's closed cells, one at a time (together they fill the kernel's memory). -/
import Derived.Test.YtalklhbdpmggjaaDoorRows
import Derived.JoinedOf
namespace Go.Proofs.YtalklhbdpmggjaaDoor.ratSums
open Go
set_option maxRecDepth 100000
theorem j1 : (Rows.ratSumsRow.inPlace == Tryd.prog.inPlace 14) = true := by kernel_rfl
theorem j2 : (Rows.ratSumsRow.unfollowed == Tryd.prog.unfollowed 14) = true := by kernel_rfl
end Go.Proofs.YtalklhbdpmggjaaDoor.ratSums
