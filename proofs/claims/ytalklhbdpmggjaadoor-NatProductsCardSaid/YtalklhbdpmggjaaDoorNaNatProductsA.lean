/- The row's closed cells, one at a time (together they fill the kernel's memory). -/
import Derived.Test.YtalklhbdpmggjaaDoorRows
import Derived.JoinedOf
namespace Go.Proofs.YtalklhbdpmggjaaDoor.natProducts
open Go
set_option maxRecDepth 100000
theorem j1 : (Rows.natProductsRow.inPlace == Tryd.prog.inPlace 3) = true := by kernel_rfl
theorem j2 : (Rows.natProductsRow.unfollowed == Tryd.prog.unfollowed 3) = true := by kernel_rfl
end Go.Proofs.YtalklhbdpmggjaaDoor.natProducts
