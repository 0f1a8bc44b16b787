/-
  No cell of these rows narrows 'for every input' (looked for: loops, veiled, ifaces, maps, wideKeys, modest, calm, conditions, laid).
  DERIVED. THE GIVEN ROWS OF THIS SEAT. 7 by the template 'for every input the law returns true; each argument reads behind the call as it read before'; 0 by the template 'total and deterministic' (their statements: YtbjamhkhocjdkaaTotals.lean).
  GIVEN WITH THE SEED: the statements are not yours to turn. If you find one false, say at which input.
  Laid BY PROGRAM, IN A SANDBOX (cutbox-rows.mjs): the forced cells as the released guide's own fill.sh prints them over the translation 6888c991da423dd3… (all of the seat's roots in one cut). By AI agents, Wed Nov 11 2026. No macro, syntax, notation, axiom, sorry.
-/
import Derived.Test.YtbjamhkhocjdkaaChecked
import GoSem.Claim
import GoSem.ClaimJoined
import GoSem.ClaimMapViews
import Derived.JoinedTies
import Derived.KernelRfl
namespace Go.Proofs.Ytbjamhkhocjdkaa
/- THE CELL 'sum', in the pinned program and in every row, IS THE sha256 OF THE DUMP (.gsa) THAT YtbjamhkhocjdkaaProg.lean LOADS. Nothing in Lean hashes anything: it is a label: what it is worth is what the hold of that sum in a sandbox is worth. -/
noncomputable def Try.pinned : Pinned := { name := "ytbjamhkhocjdkaa", sum := "6888c991da423dd3632ebd5cbcac032cf6e059760169789449a1dc9caafc8aa2", checked := Try.checked }
namespace Rows
def none {H : Type} : Left H := { results := [], args := [] }

/-- 'papermilllaw20.WetChecks': WHATEVER THE INPUT: true; the input reads as it did. -/
def wetChecksSpec : ChangeSpec := { name := "wetChecks", fn := fun _ => fun
  | [d] => { results := [.lit (.bool true)], args := [d] }
  | _ => none }
def wetChecksRow : OpenClaim := { program := "ytbjamhkhocjdkaa", sum := "6888c991da423dd3632ebd5cbcac032cf6e059760169789449a1dc9caafc8aa2", func := "papermill/papermilllaw20.WetChecks", spec := "wetChecks", unfollowed := true, recurses := true, apart := false }
def WetChecksSaid : Prop := wetChecksRow.holds Try.pinned (OpenSpec.ofChange wetChecksSpec)

/-- ITS FALSE NEIGHBOUR: 'it returns false'. Refute it at one input. -/
def wetChecksWrong : ChangeSpec := { name := "wetChecks", fn := fun _ => fun
  | [d] => { results := [.lit (.bool false)], args := [d] }
  | _ => none }
def WetChecksWrongFalsely : Prop := wetChecksRow.holds Try.pinned (OpenSpec.ofChange wetChecksWrong)

/-- 'papermilllaw20.WetSteps': WHATEVER THE INPUT: true; the input reads as it did. -/
def wetStepsSpec : ChangeSpec := { name := "wetSteps", fn := fun _ => fun
  | [d1, d2] => { results := [.lit (.bool true)], args := [d1, d2] }
  | _ => none }
def wetStepsRow : OpenClaim := { program := "ytbjamhkhocjdkaa", sum := "6888c991da423dd3632ebd5cbcac032cf6e059760169789449a1dc9caafc8aa2", func := "papermill/papermilllaw20.WetSteps", spec := "wetSteps", unfollowed := true, recurses := true, apart := false }
def WetStepsSaid : Prop := wetStepsRow.holds Try.pinned (OpenSpec.ofChange wetStepsSpec)

/-- ITS FALSE NEIGHBOUR: 'it returns false'. Refute it at one input. -/
def wetStepsWrong : ChangeSpec := { name := "wetSteps", fn := fun _ => fun
  | [d1, d2] => { results := [.lit (.bool false)], args := [d1, d2] }
  | _ => none }
def WetStepsWrongFalsely : Prop := wetStepsRow.holds Try.pinned (OpenSpec.ofChange wetStepsWrong)

/-- 'papermilllaw20.WetAfters': WHATEVER THE INPUT: true; the input reads as it did. -/
def wetAftersSpec : ChangeSpec := { name := "wetAfters", fn := fun _ => fun
  | [d1, d2, d3] => { results := [.lit (.bool true)], args := [d1, d2, d3] }
  | _ => none }
def wetAftersRow : OpenClaim := { program := "ytbjamhkhocjdkaa", sum := "6888c991da423dd3632ebd5cbcac032cf6e059760169789449a1dc9caafc8aa2", func := "papermill/papermilllaw20.WetAfters", spec := "wetAfters", unfollowed := true, recurses := true, apart := false }
def WetAftersSaid : Prop := wetAftersRow.holds Try.pinned (OpenSpec.ofChange wetAftersSpec)

/-- ITS FALSE NEIGHBOUR: 'it returns false'. Refute it at one input. -/
def wetAftersWrong : ChangeSpec := { name := "wetAfters", fn := fun _ => fun
  | [d1, d2, d3] => { results := [.lit (.bool false)], args := [d1, d2, d3] }
  | _ => none }
def WetAftersWrongFalsely : Prop := wetAftersRow.holds Try.pinned (OpenSpec.ofChange wetAftersWrong)

/-- 'papermilllaw20.WetPapers': WHATEVER THE INPUT: true; the input reads as it did. -/
def wetPapersSpec : ChangeSpec := { name := "wetPapers", fn := fun _ => fun
  | [d1, d2, d3] => { results := [.lit (.bool true)], args := [d1, d2, d3] }
  | _ => none }
def wetPapersRow : OpenClaim := { program := "ytbjamhkhocjdkaa", sum := "6888c991da423dd3632ebd5cbcac032cf6e059760169789449a1dc9caafc8aa2", func := "papermill/papermilllaw20.WetPapers", spec := "wetPapers", unfollowed := true, recurses := true, apart := false }
def WetPapersSaid : Prop := wetPapersRow.holds Try.pinned (OpenSpec.ofChange wetPapersSpec)

/-- ITS FALSE NEIGHBOUR: 'it returns false'. Refute it at one input. -/
def wetPapersWrong : ChangeSpec := { name := "wetPapers", fn := fun _ => fun
  | [d1, d2, d3] => { results := [.lit (.bool false)], args := [d1, d2, d3] }
  | _ => none }
def WetPapersWrongFalsely : Prop := wetPapersRow.holds Try.pinned (OpenSpec.ofChange wetPapersWrong)

/-- 'papermilllaw20.WetSteady': WHATEVER THE INPUT: true; the input reads as it did. -/
def wetSteadySpec : ChangeSpec := { name := "wetSteady", fn := fun _ => fun
  | [d1, d2] => { results := [.lit (.bool true)], args := [d1, d2] }
  | _ => none }
def wetSteadyRow : OpenClaim := { program := "ytbjamhkhocjdkaa", sum := "6888c991da423dd3632ebd5cbcac032cf6e059760169789449a1dc9caafc8aa2", func := "papermill/papermilllaw20.WetSteady", spec := "wetSteady", unfollowed := true, recurses := true, apart := false }
def WetSteadySaid : Prop := wetSteadyRow.holds Try.pinned (OpenSpec.ofChange wetSteadySpec)

/-- ITS FALSE NEIGHBOUR: 'it returns false'. Refute it at one input. -/
def wetSteadyWrong : ChangeSpec := { name := "wetSteady", fn := fun _ => fun
  | [d1, d2] => { results := [.lit (.bool false)], args := [d1, d2] }
  | _ => none }
def WetSteadyWrongFalsely : Prop := wetSteadyRow.holds Try.pinned (OpenSpec.ofChange wetSteadyWrong)

/-- 'papermilllaw20.WetBalance': WHATEVER THE INPUT: true; the input reads as it did. -/
def wetBalanceSpec : ChangeSpec := { name := "wetBalance", fn := fun _ => fun
  | [d1, d2] => { results := [.lit (.bool true)], args := [d1, d2] }
  | _ => none }
def wetBalanceRow : OpenClaim := { program := "ytbjamhkhocjdkaa", sum := "6888c991da423dd3632ebd5cbcac032cf6e059760169789449a1dc9caafc8aa2", func := "papermill/papermilllaw20.WetBalance", spec := "wetBalance", unfollowed := true, recurses := true, apart := false }
def WetBalanceSaid : Prop := wetBalanceRow.holds Try.pinned (OpenSpec.ofChange wetBalanceSpec)

/-- ITS FALSE NEIGHBOUR: 'it returns false'. Refute it at one input. -/
def wetBalanceWrong : ChangeSpec := { name := "wetBalance", fn := fun _ => fun
  | [d1, d2] => { results := [.lit (.bool false)], args := [d1, d2] }
  | _ => none }
def WetBalanceWrongFalsely : Prop := wetBalanceRow.holds Try.pinned (OpenSpec.ofChange wetBalanceWrong)

/-- 'papermilllaw20.WetFollows': WHATEVER THE INPUT: true; the input reads as it did. -/
def wetFollowsSpec : ChangeSpec := { name := "wetFollows", fn := fun _ => fun
  | [d1, d2, d3] => { results := [.lit (.bool true)], args := [d1, d2, d3] }
  | _ => none }
def wetFollowsRow : OpenClaim := { program := "ytbjamhkhocjdkaa", sum := "6888c991da423dd3632ebd5cbcac032cf6e059760169789449a1dc9caafc8aa2", func := "papermill/papermilllaw20.WetFollows", spec := "wetFollows", unfollowed := true, recurses := true, apart := false }
def WetFollowsSaid : Prop := wetFollowsRow.holds Try.pinned (OpenSpec.ofChange wetFollowsSpec)

/-- ITS FALSE NEIGHBOUR: 'it returns false'. Refute it at one input. -/
def wetFollowsWrong : ChangeSpec := { name := "wetFollows", fn := fun _ => fun
  | [d1, d2, d3] => { results := [.lit (.bool false)], args := [d1, d2, d3] }
  | _ => none }
def WetFollowsWrongFalsely : Prop := wetFollowsRow.holds Try.pinned (OpenSpec.ofChange wetFollowsWrong)

/- THE SECOND FORM. 'bulk': how many values and letters a reading holds, each counted each time it is reached (what is shared counts as often as it is met; a slice's spare places count too). A statement '..UptoSaid' is the law's where the arguments, and the package variables that the reading takes, are together of bulk at most 1048576: NARROWER than '..Said'. Prove '..Said' where nothing that the law and all that it calls make is longer than what came in: it says more and counts as full. Else prove '..UptoSaid'. A law counts once. -/
mutual
def uptoBulk {H : Type} : DataW H → Nat
  | .lit (.string bytes) => bytes.length + 1
  | .lit _ => 1
  | .nil => 1
  | .ptr d => uptoBulk d + 1
  | .slice elems spare => uptoBulkAll elems + uptoBulkAll spare + 1
  | .agg parts => uptoBulkAll parts + 1
  | .iface _ d => uptoBulk d + 1
  | .map entries => uptoBulkEntries entries + 1
  | .held _ => 1
def uptoBulkAll {H : Type} : List (DataW H) → Nat
  | [] => 0
  | d :: r => uptoBulk d + uptoBulkAll r
def uptoBulkEntries {H : Type} : List (Lit × DataW H) → Nat
  | [] => 0
  | x :: r => uptoBulkEntry x + uptoBulkEntries r
def uptoBulkEntry {H : Type} : Lit × DataW H → Nat
  | (.string bytes, d) => bytes.length + uptoBulk d + 1
  | (_, d) => uptoBulk d + 1
 end
def uptoSmall : (H : Type) → List (DataW H) → Bool := fun _ ds => decide (uptoBulkAll ds ≤ 1048576)
def OpenSpec.upto (s : _root_.Go.ChangeSpec) : _root_.Go.OpenSpec := { _root_.Go.OpenSpec.ofChange s with cond := some uptoSmall }

/-- 'papermilllaw20.WetChecks', WHERE WHAT IT READS IS OF BULK AT MOST 1048576: true; the input reads as it did. -/
def wetChecksUptoRow : OpenClaim := { program := "ytbjamhkhocjdkaa", sum := "6888c991da423dd3632ebd5cbcac032cf6e059760169789449a1dc9caafc8aa2", func := "papermill/papermilllaw20.WetChecks", spec := "wetChecks", unfollowed := true, recurses := true, apart := false, narrowed := true }
def WetChecksUptoSaid : Prop := wetChecksUptoRow.holds Try.pinned (OpenSpec.upto wetChecksSpec)

/-- 'papermilllaw20.WetSteps', WHERE WHAT IT READS IS OF BULK AT MOST 1048576: true; the input reads as it did. -/
def wetStepsUptoRow : OpenClaim := { program := "ytbjamhkhocjdkaa", sum := "6888c991da423dd3632ebd5cbcac032cf6e059760169789449a1dc9caafc8aa2", func := "papermill/papermilllaw20.WetSteps", spec := "wetSteps", unfollowed := true, recurses := true, apart := false, narrowed := true }
def WetStepsUptoSaid : Prop := wetStepsUptoRow.holds Try.pinned (OpenSpec.upto wetStepsSpec)

/-- 'papermilllaw20.WetAfters', WHERE WHAT IT READS IS OF BULK AT MOST 1048576: true; the input reads as it did. -/
def wetAftersUptoRow : OpenClaim := { program := "ytbjamhkhocjdkaa", sum := "6888c991da423dd3632ebd5cbcac032cf6e059760169789449a1dc9caafc8aa2", func := "papermill/papermilllaw20.WetAfters", spec := "wetAfters", unfollowed := true, recurses := true, apart := false, narrowed := true }
def WetAftersUptoSaid : Prop := wetAftersUptoRow.holds Try.pinned (OpenSpec.upto wetAftersSpec)

/-- 'papermilllaw20.WetPapers', WHERE WHAT IT READS IS OF BULK AT MOST 1048576: true; the input reads as it did. -/
def wetPapersUptoRow : OpenClaim := { program := "ytbjamhkhocjdkaa", sum := "6888c991da423dd3632ebd5cbcac032cf6e059760169789449a1dc9caafc8aa2", func := "papermill/papermilllaw20.WetPapers", spec := "wetPapers", unfollowed := true, recurses := true, apart := false, narrowed := true }
def WetPapersUptoSaid : Prop := wetPapersUptoRow.holds Try.pinned (OpenSpec.upto wetPapersSpec)

/-- 'papermilllaw20.WetSteady', WHERE WHAT IT READS IS OF BULK AT MOST 1048576: true; the input reads as it did. -/
def wetSteadyUptoRow : OpenClaim := { program := "ytbjamhkhocjdkaa", sum := "6888c991da423dd3632ebd5cbcac032cf6e059760169789449a1dc9caafc8aa2", func := "papermill/papermilllaw20.WetSteady", spec := "wetSteady", unfollowed := true, recurses := true, apart := false, narrowed := true }
def WetSteadyUptoSaid : Prop := wetSteadyUptoRow.holds Try.pinned (OpenSpec.upto wetSteadySpec)

/-- 'papermilllaw20.WetBalance', WHERE WHAT IT READS IS OF BULK AT MOST 1048576: true; the input reads as it did. -/
def wetBalanceUptoRow : OpenClaim := { program := "ytbjamhkhocjdkaa", sum := "6888c991da423dd3632ebd5cbcac032cf6e059760169789449a1dc9caafc8aa2", func := "papermill/papermilllaw20.WetBalance", spec := "wetBalance", unfollowed := true, recurses := true, apart := false, narrowed := true }
def WetBalanceUptoSaid : Prop := wetBalanceUptoRow.holds Try.pinned (OpenSpec.upto wetBalanceSpec)

/-- 'papermilllaw20.WetFollows', WHERE WHAT IT READS IS OF BULK AT MOST 1048576: true; the input reads as it did. -/
def wetFollowsUptoRow : OpenClaim := { program := "ytbjamhkhocjdkaa", sum := "6888c991da423dd3632ebd5cbcac032cf6e059760169789449a1dc9caafc8aa2", func := "papermill/papermilllaw20.WetFollows", spec := "wetFollows", unfollowed := true, recurses := true, apart := false, narrowed := true }
def WetFollowsUptoSaid : Prop := wetFollowsUptoRow.holds Try.pinned (OpenSpec.upto wetFollowsSpec)

end Rows
end Go.Proofs.Ytbjamhkhocjdkaa
