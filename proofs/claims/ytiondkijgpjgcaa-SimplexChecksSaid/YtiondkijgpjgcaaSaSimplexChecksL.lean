/- The row of SimplexChecks: whatever the input, it returns true, and what it was handed reads as before. No condition. -/
import Derived.Test.YtiondkijgpjgcaaRows
import Derived.WalkKit
import Derived.ProofKit
import Derived.OpenShut
import Derived.ShutString
import Derived.ChangeOld
import Derived.Below
import Derived.SizedLaws
import Derived.Lib.SmallJoins
import Derived.RowKit
import Derived.Test.YtiondkijgpjgcaaSal
namespace Go.Proofs.Ytiondkijgpjgcaa.simplexChecks
open Go.ChangeShapes Go.WideShapes Go.ChangeAt Go.RowKit Go.Joins Go.Proofs.Ytiondkijgpjgcaa.Pw Go.Proofs.Ytiondkijgpjgcaa.Px
set_option linter.unusedVariables false
set_option linter.unusedSimpArgs false
theorem own : ownKnob Try.prog.godebug = none := by kernel_rfl
theorem laidOut : laidOutB Try.prog = true := by kernel_rfl
theorem reps_nil {W : World} : ∀ (j : Nat) a v, ([] : List PV)[j]? = some a → ([] : List Value)[j]? = some v → RepP (fun _ => False) W a v := fun j a v h => by simp at h
theorem reps_cons {W : World} {a : PV} {v : Value} {bs : List PV} {vs : List Value} (h : RepP (fun _ => False) W a v) (k : ∀ (j : Nat) a v, bs[j]? = some a → vs[j]? = some v → RepP (fun _ => False) W a v) : ∀ (j : Nat) x u, (a :: bs)[j]? = some x → (v :: vs)[j]? = some u → RepP (fun _ => False) W x u := fun j x u hx hu => by
  cases j with
  | zero => simp at hx hu; subst hx; subst hu; exact h
  | succ j => exact k j x u (by simpa using hx) (by simpa using hu)
set_option maxRecDepth 100000 in
theorem lifted (os : Os) (started : os.Started) (H : Type) (enc : TypeId × Value → H) :
    ReturnsInHanded {} Try.checked os 3 .any (Rows.simplexChecksSpec.pre6 enc Try.prog Try.f3 Rows.simplexChecksRow.domain false) (Rows.simplexChecksSpec.post enc Try.prog Try.f3 false true false false) := by
  refine returnsInHanded_of_change_sized (C := Try.checked) own started (by kernel_rfl) Try.func3
    (ChangeSpec.witness6 (enc := enc) (C := Try.checked) false ⟨#[], #[.agg #[.slice none 0 0, .slice none 0 0, .slice none 0 0]], []⟩ 8 (by kernel_rfl) (by kernel_rfl) (by kernel_rfl) (by kernel_rfl)) ?_
  intro W base args ds gs before hval0 hW hcnd hsz0 _
  have hval : ∀ (j : Nat) t v, Try.f3.params[j]? = some t → args[j]? = some v → Value.okWide Try.prog W .any base t v := hval0
  have hW' := hW
  obtain ⟨p, q, hA0, hV, rfl, hfz, hnd⟩ := hW
  have hA : DataW.TrodAll enc Try.prog W 0 (fun _ => true) true Try.f3.params.toList args.toList ds p := hA0
  rw [Try.params3] at hA hval
  obtain ⟨v0, vs0, d0, ds0, p0, q0, hargs, rfl, rfl, h0, r0⟩ := trodAll_cons hA
  obtain ⟨rfl, rfl, rfl⟩ := trodAll_nil r0
  obtain rfl : args = #[v0] := by cases args; simp_all
  obtain ⟨rfl, rfl⟩ := trodVars_none hV
  have k0 := h0
  have lt0 : ∀ x ∈ p0, x.block < W.heap.size := by obtain ⟨m, hm⟩ := k0; exact DataW.trod_lt m _ _ _ hm
  obtain ⟨xs0, fr0⟩ := LP_of_row1 (hval 0 25 v0 rfl rfl) h0
  clear hA0 hval0 hsz0
  refine ((SimplexChecks.c xs0).2 (fun _ => False) W [_] (fun _ h => h.elim) ⟨fun g x h => (by cases h), fun g cs h => (by cases h)⟩ rfl (reps_cons fr0 reps_nil)).mono fun e W' ⟨rv, he, hr, bel⟩ => ?_
  obtain rfl : rv = .bool true := by cases hr; rfl
  subst he
  exact ⟨_, rfl, _, _, _, [], _, [], hW', trodAll_mk1 (shut_bool Try.underlying4 _), (trodAll_cons_mk (Below.trod laidOut (by kernel_rfl) (of_decide_eq_true (by kernel_rfl)) k0 bel lt0) trodAll_mk0), rfl, bel.frame _, fun h => by cases h⟩
theorem over : Rows.simplexChecksRow.holds Try.pinned (OpenSpec.ofChange Rows.simplexChecksSpec) :=
  OpenClaim.holds_of_wide 3 Try.f3 rfl rfl rfl rfl rfl rfl rfl ⟨rfl, rfl, rfl, rfl, rfl⟩ rfl rfl rfl rfl rfl (by kernel_rfl) Try.func3 (by kernel_rfl)
    (of_decide_eq_true (by kernel_rfl)) (by unfold Func.isWrapper; first | (rw [if_pos (by decide +kernel)]; kernel_rfl) | (rw [if_neg (by decide +kernel)]; exact ⟨rfl, rfl⟩))
    (fun os started H enc _ => lifted os started H enc)
theorem proved : Rows.SimplexChecksSaid := over
#print axioms proved
end Go.Proofs.Ytiondkijgpjgcaa.simplexChecks
namespace Go.Proofs.Ytiondkijgpjgcaa
/-- The row, under a short name, for the claim. -/
theorem simplexChecks_holds : Rows.SimplexChecksSaid := simplexChecks.proved
end Go.Proofs.Ytiondkijgpjgcaa
