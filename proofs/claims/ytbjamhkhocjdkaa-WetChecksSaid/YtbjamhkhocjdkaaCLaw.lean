/- The row of WetChecks: whatever the input, it returns true, and what it was handed reads as before. No condition. -/
import Derived.Test.YtbjamhkhocjdkaaRows
import Derived.Test.YtbjamhkhocjdkaaCt
import Derived.WalkKit
import Derived.ProofKit
import Derived.OpenShut
import Derived.ShutString
import Derived.ChangeOld
import Derived.Below
import Derived.SizedLaws
import Derived.Lib.SmallJoins
namespace Go.Proofs.Ytbjamhkhocjdkaa.wetChecks
open Go.ChangeShapes Go.WideShapes Go.ChangeAt Go.RowKit Go.Joins Go.Proofs.Ytbjamhkhocjdkaa.Px
set_option linter.unusedVariables false
theorem own : ownKnob Try.prog.godebug = none := by kernel_rfl
theorem laidOut : laidOutB Try.prog = true := by kernel_rfl
set_option maxRecDepth 100000 in
theorem lifted (os : Os) (started : os.Started) (H : Type) (enc : TypeId × Value → H) :
    ReturnsInHanded {} Try.checked os 3 .any (Rows.wetChecksSpec.pre6 enc Try.prog Try.f3 Rows.wetChecksRow.domain false) (Rows.wetChecksSpec.post enc Try.prog Try.f3 false true false false) := by
  refine returnsInHanded_of_change_sized (C := Try.checked) own started Z6 Try.func3
    (ChangeSpec.witness6 (enc := enc) (C := Try.checked) false ⟨#[], #[.agg #[.int .i64 0, .int .i64 0, .int .i64 0]], []⟩ 8 Z6 Z6 Z6 Z6) ?_
  intro W base args ds gs before hval0 hW hcnd hsz0 _
  have hval : ∀ (j : Nat) t v, Try.f3.params[j]? = some t → args[j]? = some v → Value.okWide Try.prog W .any base t v := hval0
  have hW' := hW
  obtain ⟨p, q, hA0, hV, rfl, hfz, hnd⟩ := hW
  have hA : DataW.TrodAll enc Try.prog W 0 (fun _ => true) true Try.f3.params.toList args.toList ds p := hA0
  rw [Try.params3] at hA hval
  obtain ⟨v0, vs0, d0, ds0, p0, q0, hargs, rfl, rfl, h0, r0⟩ := trodAll_cons hA
  obtain ⟨rfl, rfl, rfl⟩ := trodAll_nil r0
  obtain rfl : args = #[v0] := by cases args; simp_all
  obtain ⟨rfl, rfl⟩ := trodVars_none hV
  have k0 := h0
  have lt0 : ∀ x ∈ p0, x.block < W.heap.size := by obtain ⟨m, hm⟩ := k0; exact DataW.trod_lt m _ _ _ hm
  obtain ⟨c00, c01, c02, y00, y01, y02, m0, ev0, _, _, hy00, hy01, hy02⟩ := open_agg3 Try.underlying23 Z6 Z6 (hval 0 23 v0 rfl rfl) h0
  subst ev0
  obtain ⟨z00, e00, _, _⟩ := DataW.trod_int Try.underlying3 hy00
  injection e00 with e00
  subst e00
  obtain ⟨z01, e01, _, _⟩ := DataW.trod_int Try.underlying3 hy01
  injection e01 with e01
  subst e01
  obtain ⟨z02, e02, _, _⟩ := DataW.trod_int Try.underlying3 hy02
  injection e02 with e02
  subst e02
  clear hA0 hval0 hsz0
  refine (law_WetChecks z00 z01 z02 W).mono fun e W' ⟨he, bel⟩ => ?_
  subst he
  exact ⟨_, rfl, _, _, _, [], _, [], hW', trodAll_mk1 (shut_bool Try.underlying4 _), (trodAll_cons_mk (Below.trod laidOut Z6 (of_decide_eq_true Z6) k0 bel lt0) trodAll_mk0), rfl, bel.frame _, fun h => by cases h⟩
theorem over : Rows.wetChecksRow.holds Try.pinned (OpenSpec.ofChange Rows.wetChecksSpec) :=
  OpenClaim.holds_of_wide 3 Try.f3 rfl rfl rfl rfl rfl rfl rfl ⟨rfl, rfl, rfl, rfl, rfl⟩ rfl rfl rfl rfl rfl Z6 Try.func3 Z6
    (of_decide_eq_true Z6) (by unfold Func.isWrapper; first | (rw [if_pos (by decide +kernel)]; kernel_rfl) | (rw [if_neg (by decide +kernel)]; exact ⟨rfl, rfl⟩))
    (fun os started H enc _ => lifted os started H enc)
theorem proved : Rows.WetChecksSaid := over
#print axioms proved
end Go.Proofs.Ytbjamhkhocjdkaa.wetChecks
namespace Go.Proofs.Ytbjamhkhocjdkaa
theorem wetChecks_holds : Rows.WetChecksSaid := wetChecks.proved
end Go.Proofs.Ytbjamhkhocjdkaa
