/- The row's closed cells, one at a time (together they fill the kernel's memory). -/
import Derived.Test.YtalklhbdpmggjaaDoorRows
import Derived.JoinedOf
namespace Go.Proofs.YtalklhbdpmggjaaDoor.ratMakes
open Go
set_option maxRecDepth 100000
theorem j1 : (Rows.ratMakesRow.inPlace == Tryd.prog.inPlace 12) = true := by kernel_rfl
theorem j2 : (Rows.ratMakesRow.unfollowed == Tryd.prog.unfollowed 12) = true := by kernel_rfl
end Go.Proofs.YtalklhbdpmggjaaDoor.ratMakes
