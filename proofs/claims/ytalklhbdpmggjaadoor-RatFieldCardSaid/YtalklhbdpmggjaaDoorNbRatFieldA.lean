/- The row's closed cells, one at a time (together they fill the kernel's memory). -/
import Derived.Test.YtalklhbdpmggjaaDoorRows
import Derived.JoinedOf
namespace Go.Proofs.YtalklhbdpmggjaaDoor.ratField
open Go
set_option maxRecDepth 100000
theorem j1 : (Rows.ratFieldRow.inPlace == Tryd.prog.inPlace 18) = true := by kernel_rfl
theorem j2 : (Rows.ratFieldRow.unfollowed == Tryd.prog.unfollowed 18) = true := by kernel_rfl
end Go.Proofs.YtalklhbdpmggjaaDoor.ratField
