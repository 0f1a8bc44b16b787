/- The functions of the program as functions of values, part 9: a proof's lemmas, with no condition of their own. -/
import Derived.Test.YtalklhbdpmggjaaDoorRows
import Derived.WalkKit
import Derived.ProofKit
import Derived.Handed
import Derived.LaidLaws
import Derived.LaidHandle
import Derived.Lib.LaidIn
import Derived.Lib.LaidTab
import Derived.Test.YtalklhbdpmggjaaDoorNba
import Derived.Test.YtalklhbdpmggjaaDoorNbb
import Derived.Test.YtalklhbdpmggjaaDoorNbc
import Derived.Test.YtalklhbdpmggjaaDoorNbd
import Derived.Test.YtalklhbdpmggjaaDoorNbe
import Derived.Test.YtalklhbdpmggjaaDoorNbf
set_option linter.unusedVariables false
set_option linter.unusedSimpArgs false
namespace Go.Proofs.YtalklhbdpmggjaaDoor.Pw
open Go Go.RowKit Go.Lib
set_option linter.unusedVariables false
set_option linter.unusedSimpArgs false
def laid3 : List (String × DataW Unit) := [("math/bits.deBruijn32tab", Rows.laid_math_bits_deBruijn32tab), ("math/bits.deBruijn64tab", Rows.laid_math_bits_deBruijn64tab), ("internal/strconv.uint64pow10", Rows.laid_internal_strconv_uint64pow10)]
theorem gPow : Tryd.prog.globalNamed "internal/strconv.uint64pow10" = some 0 := by kernel_rfl
theorem g32 : Tryd.prog.globalNamed "math/bits.deBruijn32tab" = some 2 := by kernel_rfl
theorem g64 : Tryd.prog.globalNamed "math/bits.deBruijn64tab" = some 3 := by kernel_rfl
theorem tPow : (Tryd.prog.globals[0]?).map (·.type) = some 126 := by kernel_rfl
theorem uPow : Tryd.prog.underlying 126 = some (.array 20 115) ∧ Tryd.prog.underlying 115 = some (.int .u64) ∧ Tryd.prog.cellsOf 115 = 1 ∧ Tryd.prog.cellsOf 126 = 20 := ⟨by kernel_rfl, by kernel_rfl, by kernel_rfl, by kernel_rfl⟩
theorem pow_of_laid {W : World} (h : laidMetH Tryd.prog laid3 W) : TabIs Tryd.prog W "internal/strconv.uint64pow10" .u64 pow10 := by
  have h' : laidMet Tryd.prog laid3 W := h
  obtain ⟨ps, ⟨_, _, _, _, _, _, _, _, _, _, ⟨_, _, _, _, _, _, _, _, _, _, ⟨g', t', cs, fuel, p, q, hg', ht', hvar, hd, _, _⟩, _⟩, _⟩, _⟩ := h'
  obtain ⟨u1, u2, u3, u4⟩ := uPow
  obtain rfl := Option.some.inj (gPow.symm.trans hg')
  obtain rfl := Option.some.inj (tPow.symm.trans ht')
  unfold TabIs
  rw [hvar, ← cells_of_tab (zs := pow10) u1 u2 u3 u4 hd]
theorem gok_of_laid {W : World} (h : laidMetH Tryd.prog laid3 W) : GOK (fun _ => False) W := fun g x hx => by
  have ht := pow_of_laid h
  unfold glob at hx
  split at hx
  · rename_i hg
    obtain rfl : g = 0 := by simpa using hg
    injection hx with hx
    subst hx
    have hc : ∀ i, i < 20 → W.cell? ⟨0, i, none⟩ = some (.int .u64 (pow10.getD i 0)) := fun i hi => ht.cell gPow i hi
    refine .pt _ 0 0 0 (fun j => .int .u64 (pow10.getD j 0)) ?_ (fun h => h) (fun j hj => ?_) ?_ (fun j pv hp => ?_)
    · have := hc 0 (by decide)
      unfold World.cell? at this
      split at this
      · rename_i c _ _ hh; exact lt_of_cells hh
      · cases this
    · simpa using hc j (by simpa [pow10] using hj)
    · exact fun j hj => rfl
    · rw [List.getElem?_map, Option.map_eq_some_iff] at hp
      obtain ⟨q, hq, rfl⟩ := hp
      show RepP _ W _ (.int .u64 (pow10.getD j 0))
      rw [List.getD_eq_getElem?_getD, hq]
      exact .v _ rfl
  · cases hx
def litCells (d : DataW Unit) : Array Value := match d with
  | .agg l => (l.map fun x => match x with | .lit (.int k z) => Value.int k z | _ => undef).toArray
  | _ => #[]
/-- A world that meets the condition: the settled one, the three tables laid. -/
noncomputable def laidWorld (os : Os) : World :=
  let w0 := World.holding Tryd.prog os ⟨#[], #[], []⟩
  { w0 with heap := ((w0.heap.modify 0 fun
      | .cells _ t frozen => .cells (litCells Rows.laid_internal_strconv_uint64pow10) t frozen
      | o => o).modify 2 fun
      | .cells _ t frozen => .cells (litCells Rows.laid_math_bits_deBruijn32tab) t frozen
      | o => o).modify 3 fun
      | .cells _ t frozen => .cells (litCells Rows.laid_math_bits_deBruijn64tab) t frozen
      | o => o }
theorem laid_met (os : Os) (args : Array Value) : laidMet Tryd.prog laid3 ((laidWorld os).forCall (fun _ _ => 0) ⟨#[], args, []⟩).memory :=
  (LaidIn.of_run [0, 2, 3] 8 (by kernel_rfl) (by kernel_rfl) (by kernel_rfl) (by kernel_rfl)).met
end Go.Proofs.YtalklhbdpmggjaaDoor.Pw
