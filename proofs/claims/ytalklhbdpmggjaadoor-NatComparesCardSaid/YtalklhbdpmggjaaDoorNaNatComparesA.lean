/- The row's closed cells, one at a time (together they fill the kernel's memory). -/
import Derived.Test.YtalklhbdpmggjaaDoorRows
import Derived.JoinedOf
namespace Go.Proofs.YtalklhbdpmggjaaDoor.natCompares
open Go
set_option maxRecDepth 100000
theorem j1 : (Rows.natComparesRow.inPlace == Tryd.prog.inPlace 7) = true := by kernel_rfl
theorem j2 : (Rows.natComparesRow.unfollowed == Tryd.prog.unfollowed 7) = true := by kernel_rfl
end Go.Proofs.YtalklhbdpmggjaaDoor.natCompares
