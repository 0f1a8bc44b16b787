/- The row's closed cells, one at a time (together they fill the kernel's memory). -/
import Derived.Test.YtalklhbdpmggjaaDoorRows
import Derived.JoinedOf
namespace Go.Proofs.YtalklhbdpmggjaaDoor.natTexts
open Go
set_option maxRecDepth 100000
theorem j1 : (Rows.natTextsRow.inPlace == Tryd.prog.inPlace 6) = true := by kernel_rfl
theorem j2 : (Rows.natTextsRow.unfollowed == Tryd.prog.unfollowed 6) = true := by kernel_rfl
end Go.Proofs.YtalklhbdpmggjaaDoor.natTexts
