/- The functions of the program as functions of values, part 1: a proof's lemmas, with no condition of their own. -/
import Derived.Test.YtalklhbdpmggjaaDoorRows
import Derived.SevenTiedAt
import Derived.JoinedOf
set_option linter.unusedVariables false
set_option linter.unusedSimpArgs false
namespace Go.Proofs.YtalklhbdpmggjaaDoor.Pw
open Go
set_option maxRecDepth 100000
theorem main_is : Tryd.prog.mainIs = some (true, "be9665efe8b326d5843256fe0f9c8f863bf539fbb73824fe9c349cb01fba4eaf".toList) := by kernel_rfl
end Go.Proofs.YtalklhbdpmggjaaDoor.Pw
