/- The row's closed cells, one at a time (together they fill the kernel's memory). -/
import Derived.Test.YtalklhbdpmggjaaDoorRows
import Derived.JoinedOf
namespace Go.Proofs.YtalklhbdpmggjaaDoor.ratTotals
open Go
set_option maxRecDepth 100000
theorem j1 : (Rows.ratTotalsRow.inPlace == Tryd.prog.inPlace 16) = true := by kernel_rfl
theorem j2 : (Rows.ratTotalsRow.unfollowed == Tryd.prog.unfollowed 16) = true := by kernel_rfl
end Go.Proofs.YtalklhbdpmggjaaDoor.ratTotals
