/- The row's closed cells, one at a time (together they fill the kernel's memory). -/
import Derived.Test.YtalklhbdpmggjaaDoorRows
import Derived.JoinedOf
namespace Go.Proofs.YtalklhbdpmggjaaDoor.natDivisors
open Go
set_option maxRecDepth 100000
theorem j1 : (Rows.natDivisorsRow.inPlace == Tryd.prog.inPlace 5) = true := by kernel_rfl
theorem j2 : (Rows.natDivisorsRow.unfollowed == Tryd.prog.unfollowed 5) = true := by kernel_rfl
end Go.Proofs.YtalklhbdpmggjaaDoor.natDivisors
