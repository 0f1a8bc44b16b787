/-
  No cell of these rows narrows 'for every input' (looked for: loops, veiled, ifaces, maps, wideKeys, modest, calm, conditions, laid).
  DERIVED. THE GIVEN ROWS OF THIS SEAT. 7 by the template 'for every input the law returns true; each argument reads behind the call as it read before'; 0 by the template 'total and deterministic' (their statements: YtiondkijgpjgcaaTotals.lean).
  GIVEN WITH THE SEED: the statements are not yours to turn. If you find one false, say at which input.
  Laid BY PROGRAM, IN A SANDBOX (cutbox-rows.mjs): the forced cells as the released guide's own fill.sh prints them over the translation 6ca69dc16cdd0fa2… (all of the seat's roots in one cut). By AI agents, Wed Nov 11 2026. No macro, syntax, notation, axiom, sorry.
-/
import Derived.Test.YtiondkijgpjgcaaChecked
import GoSem.Claim
import GoSem.ClaimJoined
import GoSem.ClaimMapViews
import Derived.JoinedTies
import Derived.KernelRfl
namespace Go.Proofs.Ytiondkijgpjgcaa
/- THE CELL 'sum', in the pinned program and in every row, IS THE sha256 OF THE DUMP (.gsa) THAT YtiondkijgpjgcaaProg.lean LOADS. Nothing in Lean hashes anything: it is a label: what it is worth is what the hold of that sum in a sandbox is worth. -/
noncomputable def Try.pinned : Pinned := { name := "ytiondkijgpjgcaa", sum := "6ca69dc16cdd0fa2662faf80417ac8b21986accc35bc1ae62e9b048817acffa3", checked := Try.checked }
namespace Rows
def none {H : Type} : Left H := { results := [], args := [] }

/-- 'papermilllaw45.SimplexChecks': WHATEVER THE INPUT: true; the input reads as it did. -/
def simplexChecksSpec : ChangeSpec := { name := "simplexChecks", fn := fun _ => fun
  | [d] => { results := [.lit (.bool true)], args := [d] }
  | _ => none }
def simplexChecksRow : OpenClaim := { program := "ytiondkijgpjgcaa", sum := "6ca69dc16cdd0fa2662faf80417ac8b21986accc35bc1ae62e9b048817acffa3", func := "papermill/papermilllaw45.SimplexChecks", spec := "simplexChecks", unfollowed := true, recurses := true, apart := false }
def SimplexChecksSaid : Prop := simplexChecksRow.holds Try.pinned (OpenSpec.ofChange simplexChecksSpec)

/-- ITS FALSE NEIGHBOUR: 'it returns false'. Refute it at one input. -/
def simplexChecksWrong : ChangeSpec := { name := "simplexChecks", fn := fun _ => fun
  | [d] => { results := [.lit (.bool false)], args := [d] }
  | _ => none }
def SimplexChecksWrongFalsely : Prop := simplexChecksRow.holds Try.pinned (OpenSpec.ofChange simplexChecksWrong)

/-- 'papermilllaw45.SimplexFeasible': WHATEVER THE INPUT: true; the input reads as it did. -/
def simplexFeasibleSpec : ChangeSpec := { name := "simplexFeasible", fn := fun _ => fun
  | [d1, d2] => { results := [.lit (.bool true)], args := [d1, d2] }
  | _ => none }
def simplexFeasibleRow : OpenClaim := { program := "ytiondkijgpjgcaa", sum := "6ca69dc16cdd0fa2662faf80417ac8b21986accc35bc1ae62e9b048817acffa3", func := "papermill/papermilllaw45.SimplexFeasible", spec := "simplexFeasible", unfollowed := true, recurses := true, apart := false }
def SimplexFeasibleSaid : Prop := simplexFeasibleRow.holds Try.pinned (OpenSpec.ofChange simplexFeasibleSpec)

/-- ITS FALSE NEIGHBOUR: 'it returns false'. Refute it at one input. -/
def simplexFeasibleWrong : ChangeSpec := { name := "simplexFeasible", fn := fun _ => fun
  | [d1, d2] => { results := [.lit (.bool false)], args := [d1, d2] }
  | _ => none }
def SimplexFeasibleWrongFalsely : Prop := simplexFeasibleRow.holds Try.pinned (OpenSpec.ofChange simplexFeasibleWrong)

/-- 'papermilllaw45.SimplexProves': WHATEVER THE INPUT: true; the input reads as it did. -/
def simplexProvesSpec : ChangeSpec := { name := "simplexProves", fn := fun _ => fun
  | [d1, d2] => { results := [.lit (.bool true)], args := [d1, d2] }
  | _ => none }
def simplexProvesRow : OpenClaim := { program := "ytiondkijgpjgcaa", sum := "6ca69dc16cdd0fa2662faf80417ac8b21986accc35bc1ae62e9b048817acffa3", func := "papermill/papermilllaw45.SimplexProves", spec := "simplexProves", unfollowed := true, recurses := true, apart := false }
def SimplexProvesSaid : Prop := simplexProvesRow.holds Try.pinned (OpenSpec.ofChange simplexProvesSpec)

/-- ITS FALSE NEIGHBOUR: 'it returns false'. Refute it at one input. -/
def simplexProvesWrong : ChangeSpec := { name := "simplexProves", fn := fun _ => fun
  | [d1, d2] => { results := [.lit (.bool false)], args := [d1, d2] }
  | _ => none }
def SimplexProvesWrongFalsely : Prop := simplexProvesRow.holds Try.pinned (OpenSpec.ofChange simplexProvesWrong)

/-- 'papermilllaw45.SimplexLeast': WHATEVER THE INPUT: true; the input reads as it did. -/
def simplexLeastSpec : ChangeSpec := { name := "simplexLeast", fn := fun _ => fun
  | [d1, d2] => { results := [.lit (.bool true)], args := [d1, d2] }
  | _ => none }
def simplexLeastRow : OpenClaim := { program := "ytiondkijgpjgcaa", sum := "6ca69dc16cdd0fa2662faf80417ac8b21986accc35bc1ae62e9b048817acffa3", func := "papermill/papermilllaw45.SimplexLeast", spec := "simplexLeast", unfollowed := true, recurses := true, apart := false }
def SimplexLeastSaid : Prop := simplexLeastRow.holds Try.pinned (OpenSpec.ofChange simplexLeastSpec)

/-- ITS FALSE NEIGHBOUR: 'it returns false'. Refute it at one input. -/
def simplexLeastWrong : ChangeSpec := { name := "simplexLeast", fn := fun _ => fun
  | [d1, d2] => { results := [.lit (.bool false)], args := [d1, d2] }
  | _ => none }
def SimplexLeastWrongFalsely : Prop := simplexLeastRow.holds Try.pinned (OpenSpec.ofChange simplexLeastWrong)

/-- 'papermilllaw45.SimplexUnbounded': WHATEVER THE INPUT: true; the input reads as it did. -/
def simplexUnboundedSpec : ChangeSpec := { name := "simplexUnbounded", fn := fun _ => fun
  | [d1, d2] => { results := [.lit (.bool true)], args := [d1, d2] }
  | _ => none }
def simplexUnboundedRow : OpenClaim := { program := "ytiondkijgpjgcaa", sum := "6ca69dc16cdd0fa2662faf80417ac8b21986accc35bc1ae62e9b048817acffa3", func := "papermill/papermilllaw45.SimplexUnbounded", spec := "simplexUnbounded", unfollowed := true, recurses := true, apart := false }
def SimplexUnboundedSaid : Prop := simplexUnboundedRow.holds Try.pinned (OpenSpec.ofChange simplexUnboundedSpec)

/-- ITS FALSE NEIGHBOUR: 'it returns false'. Refute it at one input. -/
def simplexUnboundedWrong : ChangeSpec := { name := "simplexUnbounded", fn := fun _ => fun
  | [d1, d2] => { results := [.lit (.bool false)], args := [d1, d2] }
  | _ => none }
def SimplexUnboundedWrongFalsely : Prop := simplexUnboundedRow.holds Try.pinned (OpenSpec.ofChange simplexUnboundedWrong)

/-- 'papermilllaw45.SimplexValues': WHATEVER THE INPUT: true; the input reads as it did. -/
def simplexValuesSpec : ChangeSpec := { name := "simplexValues", fn := fun _ => fun
  | [d1, d2] => { results := [.lit (.bool true)], args := [d1, d2] }
  | _ => none }
def simplexValuesRow : OpenClaim := { program := "ytiondkijgpjgcaa", sum := "6ca69dc16cdd0fa2662faf80417ac8b21986accc35bc1ae62e9b048817acffa3", func := "papermill/papermilllaw45.SimplexValues", spec := "simplexValues", unfollowed := true, recurses := true, apart := false }
def SimplexValuesSaid : Prop := simplexValuesRow.holds Try.pinned (OpenSpec.ofChange simplexValuesSpec)

/-- ITS FALSE NEIGHBOUR: 'it returns false'. Refute it at one input. -/
def simplexValuesWrong : ChangeSpec := { name := "simplexValues", fn := fun _ => fun
  | [d1, d2] => { results := [.lit (.bool false)], args := [d1, d2] }
  | _ => none }
def SimplexValuesWrongFalsely : Prop := simplexValuesRow.holds Try.pinned (OpenSpec.ofChange simplexValuesWrong)

/-- 'papermilllaw45.SimplexOptimal': WHATEVER THE INPUT: true; the input reads as it did. -/
def simplexOptimalSpec : ChangeSpec := { name := "simplexOptimal", fn := fun _ => fun
  | [d] => { results := [.lit (.bool true)], args := [d] }
  | _ => none }
def simplexOptimalRow : OpenClaim := { program := "ytiondkijgpjgcaa", sum := "6ca69dc16cdd0fa2662faf80417ac8b21986accc35bc1ae62e9b048817acffa3", func := "papermill/papermilllaw45.SimplexOptimal", spec := "simplexOptimal", unfollowed := true, recurses := true, apart := false }
def SimplexOptimalSaid : Prop := simplexOptimalRow.holds Try.pinned (OpenSpec.ofChange simplexOptimalSpec)

/-- ITS FALSE NEIGHBOUR: 'it returns false'. Refute it at one input. -/
def simplexOptimalWrong : ChangeSpec := { name := "simplexOptimal", fn := fun _ => fun
  | [d] => { results := [.lit (.bool false)], args := [d] }
  | _ => none }
def SimplexOptimalWrongFalsely : Prop := simplexOptimalRow.holds Try.pinned (OpenSpec.ofChange simplexOptimalWrong)

/- THE SECOND FORM. 'bulk': how many values and letters a reading holds, each counted each time it is reached (what is shared counts as often as it is met; a slice's spare places count too). A statement '..UptoSaid' is the law's where the arguments, and the package variables that the reading takes, are together of bulk at most 1048576: NARROWER than '..Said'. Prove '..Said' where nothing that the law and all that it calls make is longer than what came in: it says more and counts as full. Else prove '..UptoSaid'. A law counts once. -/
mutual
def uptoBulk {H : Type} : DataW H → Nat
  | .lit (.string bytes) => bytes.length + 1
  | .lit _ => 1
  | .nil => 1
  | .ptr d => uptoBulk d + 1
  | .slice elems spare => uptoBulkAll elems + uptoBulkAll spare + 1
  | .agg parts => uptoBulkAll parts + 1
  | .iface _ d => uptoBulk d + 1
  | .map entries => uptoBulkEntries entries + 1
  | .held _ => 1
def uptoBulkAll {H : Type} : List (DataW H) → Nat
  | [] => 0
  | d :: r => uptoBulk d + uptoBulkAll r
def uptoBulkEntries {H : Type} : List (Lit × DataW H) → Nat
  | [] => 0
  | x :: r => uptoBulkEntry x + uptoBulkEntries r
def uptoBulkEntry {H : Type} : Lit × DataW H → Nat
  | (.string bytes, d) => bytes.length + uptoBulk d + 1
  | (_, d) => uptoBulk d + 1
 end
def uptoSmall : (H : Type) → List (DataW H) → Bool := fun _ ds => decide (uptoBulkAll ds ≤ 1048576)
def OpenSpec.upto (s : _root_.Go.ChangeSpec) : _root_.Go.OpenSpec := { _root_.Go.OpenSpec.ofChange s with cond := some uptoSmall }

/-- 'papermilllaw45.SimplexChecks', WHERE WHAT IT READS IS OF BULK AT MOST 1048576: true; the input reads as it did. -/
def simplexChecksUptoRow : OpenClaim := { program := "ytiondkijgpjgcaa", sum := "6ca69dc16cdd0fa2662faf80417ac8b21986accc35bc1ae62e9b048817acffa3", func := "papermill/papermilllaw45.SimplexChecks", spec := "simplexChecks", unfollowed := true, recurses := true, apart := false, narrowed := true }
def SimplexChecksUptoSaid : Prop := simplexChecksUptoRow.holds Try.pinned (OpenSpec.upto simplexChecksSpec)

/-- 'papermilllaw45.SimplexFeasible', WHERE WHAT IT READS IS OF BULK AT MOST 1048576: true; the input reads as it did. -/
def simplexFeasibleUptoRow : OpenClaim := { program := "ytiondkijgpjgcaa", sum := "6ca69dc16cdd0fa2662faf80417ac8b21986accc35bc1ae62e9b048817acffa3", func := "papermill/papermilllaw45.SimplexFeasible", spec := "simplexFeasible", unfollowed := true, recurses := true, apart := false, narrowed := true }
def SimplexFeasibleUptoSaid : Prop := simplexFeasibleUptoRow.holds Try.pinned (OpenSpec.upto simplexFeasibleSpec)

/-- 'papermilllaw45.SimplexProves', WHERE WHAT IT READS IS OF BULK AT MOST 1048576: true; the input reads as it did. -/
def simplexProvesUptoRow : OpenClaim := { program := "ytiondkijgpjgcaa", sum := "6ca69dc16cdd0fa2662faf80417ac8b21986accc35bc1ae62e9b048817acffa3", func := "papermill/papermilllaw45.SimplexProves", spec := "simplexProves", unfollowed := true, recurses := true, apart := false, narrowed := true }
def SimplexProvesUptoSaid : Prop := simplexProvesUptoRow.holds Try.pinned (OpenSpec.upto simplexProvesSpec)

/-- 'papermilllaw45.SimplexLeast', WHERE WHAT IT READS IS OF BULK AT MOST 1048576: true; the input reads as it did. -/
def simplexLeastUptoRow : OpenClaim := { program := "ytiondkijgpjgcaa", sum := "6ca69dc16cdd0fa2662faf80417ac8b21986accc35bc1ae62e9b048817acffa3", func := "papermill/papermilllaw45.SimplexLeast", spec := "simplexLeast", unfollowed := true, recurses := true, apart := false, narrowed := true }
def SimplexLeastUptoSaid : Prop := simplexLeastUptoRow.holds Try.pinned (OpenSpec.upto simplexLeastSpec)

/-- 'papermilllaw45.SimplexUnbounded', WHERE WHAT IT READS IS OF BULK AT MOST 1048576: true; the input reads as it did. -/
def simplexUnboundedUptoRow : OpenClaim := { program := "ytiondkijgpjgcaa", sum := "6ca69dc16cdd0fa2662faf80417ac8b21986accc35bc1ae62e9b048817acffa3", func := "papermill/papermilllaw45.SimplexUnbounded", spec := "simplexUnbounded", unfollowed := true, recurses := true, apart := false, narrowed := true }
def SimplexUnboundedUptoSaid : Prop := simplexUnboundedUptoRow.holds Try.pinned (OpenSpec.upto simplexUnboundedSpec)

/-- 'papermilllaw45.SimplexValues', WHERE WHAT IT READS IS OF BULK AT MOST 1048576: true; the input reads as it did. -/
def simplexValuesUptoRow : OpenClaim := { program := "ytiondkijgpjgcaa", sum := "6ca69dc16cdd0fa2662faf80417ac8b21986accc35bc1ae62e9b048817acffa3", func := "papermill/papermilllaw45.SimplexValues", spec := "simplexValues", unfollowed := true, recurses := true, apart := false, narrowed := true }
def SimplexValuesUptoSaid : Prop := simplexValuesUptoRow.holds Try.pinned (OpenSpec.upto simplexValuesSpec)

/-- 'papermilllaw45.SimplexOptimal', WHERE WHAT IT READS IS OF BULK AT MOST 1048576: true; the input reads as it did. -/
def simplexOptimalUptoRow : OpenClaim := { program := "ytiondkijgpjgcaa", sum := "6ca69dc16cdd0fa2662faf80417ac8b21986accc35bc1ae62e9b048817acffa3", func := "papermill/papermilllaw45.SimplexOptimal", spec := "simplexOptimal", unfollowed := true, recurses := true, apart := false, narrowed := true }
def SimplexOptimalUptoSaid : Prop := simplexOptimalUptoRow.holds Try.pinned (OpenSpec.upto simplexOptimalSpec)

end Rows
end Go.Proofs.Ytiondkijgpjgcaa
