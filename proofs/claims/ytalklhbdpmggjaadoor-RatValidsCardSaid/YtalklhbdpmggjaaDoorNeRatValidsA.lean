/- The row's closed cells, one at a time (together they fill the kernel's memory). -/
import Derived.Test.YtalklhbdpmggjaaDoorRows
import Derived.JoinedOf
namespace Go.Proofs.YtalklhbdpmggjaaDoor.ratValids
open Go
set_option maxRecDepth 100000
theorem j1 : (Rows.ratValidsRow.inPlace == Tryd.prog.inPlace 13) = true := by kernel_rfl
theorem j2 : (Rows.ratValidsRow.unfollowed == Tryd.prog.unfollowed 13) = true := by kernel_rfl
end Go.Proofs.YtalklhbdpmggjaaDoor.ratValids
