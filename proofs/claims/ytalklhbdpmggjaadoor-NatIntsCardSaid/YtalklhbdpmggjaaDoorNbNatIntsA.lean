/- The row's closed cells, one at a time (together they fill the kernel's memory). -/
import Derived.Test.YtalklhbdpmggjaaDoorRows
import Derived.JoinedOf
namespace Go.Proofs.YtalklhbdpmggjaaDoor.natInts
open Go
set_option maxRecDepth 100000
theorem j1 : (Rows.natIntsRow.inPlace == Tryd.prog.inPlace 9) = true := by kernel_rfl
theorem j2 : (Rows.natIntsRow.unfollowed == Tryd.prog.unfollowed 9) = true := by kernel_rfl
end Go.Proofs.YtalklhbdpmggjaaDoor.natInts
