/- The row's closed cells, one at a time (together they fill the kernel's memory). -/
import Derived.Test.YtalklhbdpmggjaaDoorRows
import Derived.JoinedOf
namespace Go.Proofs.YtalklhbdpmggjaaDoor.ratProducts
open Go
set_option maxRecDepth 100000
theorem j1 : (Rows.ratProductsRow.inPlace == Tryd.prog.inPlace 17) = true := by kernel_rfl
theorem j2 : (Rows.ratProductsRow.unfollowed == Tryd.prog.unfollowed 17) = true := by kernel_rfl
end Go.Proofs.YtalklhbdpmggjaaDoor.ratProducts
