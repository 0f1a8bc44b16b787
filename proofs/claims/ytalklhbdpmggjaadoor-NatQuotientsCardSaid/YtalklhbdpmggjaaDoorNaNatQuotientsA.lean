/- The row's closed cells, one at a time (together they fill the kernel's memory). -/
import Derived.Test.YtalklhbdpmggjaaDoorRows
import Derived.JoinedOf
namespace Go.Proofs.YtalklhbdpmggjaaDoor.natQuotients
open Go
set_option maxRecDepth 100000
theorem j1 : (Rows.natQuotientsRow.inPlace == Tryd.prog.inPlace 4) = true := by kernel_rfl
theorem j2 : (Rows.natQuotientsRow.unfollowed == Tryd.prog.unfollowed 4) = true := by kernel_rfl
end Go.Proofs.YtalklhbdpmggjaaDoor.natQuotients
