/- The row's closed cells, one at a time (together they fill the kernel's memory). -/
import Derived.Test.YtalklhbdpmggjaaDoorRows
import Derived.JoinedOf
import Derived.Test.YtalklhbdpmggjaaDoorNeNatTextsA
namespace Go.Proofs.YtalklhbdpmggjaaDoor.natTexts
open Go
set_option maxRecDepth 100000
theorem j3 : (Rows.natTextsRow.recurses == Tryd.prog.recurses 6) = true := by kernel_rfl
theorem j4 : (Rows.natTextsRow.named == Tryd.prog.varsNamed 6) = true := by kernel_rfl
theorem closed : joinedFacts Tryd.prog 6 Tryd.f6 Rows.natTextsSpec Rows.natTextsRow = true := by
  unfold joinedFacts
  simp only [Bool.and_eq_true]
  repeat' (refine And.intro ?_ ?_)
  all_goals first | with_reducible exact j1 | with_reducible exact j2 | with_reducible exact j3 | with_reducible exact j4 | kernel_rfl
end Go.Proofs.YtalklhbdpmggjaaDoor.natTexts
