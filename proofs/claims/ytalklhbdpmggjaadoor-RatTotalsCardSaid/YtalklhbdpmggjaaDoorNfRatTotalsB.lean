/- The row's closed cells, one at a time (together they fill the kernel's memory). -/
import Derived.Test.YtalklhbdpmggjaaDoorRows
import Derived.JoinedOf
import Derived.Test.YtalklhbdpmggjaaDoorNfRatTotalsA
namespace Go.Proofs.YtalklhbdpmggjaaDoor.ratTotals
open Go
set_option maxRecDepth 100000
theorem j3 : (Rows.ratTotalsRow.recurses == Tryd.prog.recurses 16) = true := by kernel_rfl
theorem j4 : (Rows.ratTotalsRow.named == Tryd.prog.varsNamed 16) = true := by kernel_rfl
theorem closed : joinedFacts Tryd.prog 16 Tryd.f16 Rows.ratTotalsSpec Rows.ratTotalsRow = true := by
  unfold joinedFacts
  simp only [Bool.and_eq_true]
  repeat' (refine And.intro ?_ ?_)
  all_goals first | with_reducible exact j1 | with_reducible exact j2 | with_reducible exact j3 | with_reducible exact j4 | kernel_rfl
end Go.Proofs.YtalklhbdpmggjaaDoor.ratTotals
