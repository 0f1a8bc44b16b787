/- The row of WetSteps: whatever the input, it returns true, and what it was handed reads as before. No condition. -/
import Derived.Test.YtbjamhkhocjdkaaRows
import Derived.Test.YtbjamhkhocjdkaaDw
import Derived.WalkKit
import Derived.ProofKit
import Derived.OpenShut
import Derived.ShutString
import Derived.ChangeOld
import Derived.Below
import Derived.SizedLaws
import Derived.Lib.SmallJoins
namespace Go.Proofs.Ytbjamhkhocjdkaa.wetSteps
open Go.ChangeShapes Go.WideShapes Go.ChangeAt Go.RowKit Go.Joins Go.Proofs.Ytbjamhkhocjdkaa.Px Go.Proofs.YtbjamhkhocjdkaaW.PrintWords Go.Proofs.YtbjamhkhocjdkaaW.PrintLast Go.Proofs.YtbjamhkhocjdkaaW.PrintMore
set_option linter.unusedVariables false
set_option linter.unusedSimpArgs false
theorem own : ownKnob Try.prog.godebug = none := by kernel_rfl
theorem laidOut : laidOutB Try.prog = true := by kernel_rfl
theorem fr_of_row {H : Type} {enc : TypeId × Value → H} {W : World} {held : Bool} {k : Nat} {v : Value} {y : DataW H × List MemPlace} (h : DataW.trod enc Try.prog W 0 (fun _ => true) held k 25 [v] = some y) : ∃ A c xs, v = .slice A (List.length xs) c ∧ Fr W.heap.size W (.slice A (List.length xs) c) xs := by
  rcases open_ints Try.underlying25 Try.underlying3 Z6 h with ⟨hcs, _⟩ | ⟨a, len, cap, zs, hcs, _, hl, hm, hz, _, hcell, _⟩
  · injection hcs with e
    subst e
    exact ⟨none, 0, [], rfl, Fr.nil _ _⟩
  · injection hcs with e
    subst e
    have hz' : zs.length = cap := by simpa using hz
    have hlen : (zs.take len).length = len := by rw [List.length_take]; omega
    refine ⟨some a, cap, zs.take len, by rw [hlen], Fr.of_sl ⟨some a, cap, by rw [hlen], by rw [hlen]; exact hl, Kd.C_of_reads (enc := Value.int .i64) (d := (0 : Int)) ⟨rfl, ?_, fun _ => ⟨a, rfl, fun j hj => ?_⟩⟩⟩⟩
    · rw [hlen]
      exact Nat.le_trans hl (Nat.le_trans hm (by decide))
    · have hj' : j < len := by rw [hlen] at hj; exact hj
      rw [hcell j (by omega)]
      simp [List.getD_eq_getElem?_getD, List.getElem?_take, hj']
set_option maxRecDepth 100000 in
theorem lifted (os : Os) (started : os.Started) (H : Type) (enc : TypeId × Value → H) :
    ReturnsInHanded {} Try.checked os 4 .any (Rows.wetStepsSpec.pre6 enc Try.prog Try.f4 Rows.wetStepsRow.domain false) (Rows.wetStepsSpec.post enc Try.prog Try.f4 false true false false) := by
  refine returnsInHanded_of_change_sized (C := Try.checked) own started Z6 Try.func4
    (ChangeSpec.witness6 (enc := enc) (C := Try.checked) false ⟨#[], #[.agg #[.int .i64 0, .int .i64 0, .int .i64 0], .agg #[.bool false, .slice none 0 0, .slice none 0 0]], []⟩ 8 Z6 Z6 Z6 Z6) ?_
  intro W base args ds gs before hval0 hW hcnd hsz0 _
  have hval : ∀ (j : Nat) t v, Try.f4.params[j]? = some t → args[j]? = some v → Value.okWide Try.prog W .any base t v := hval0
  have hW' := hW
  obtain ⟨p, q, hA0, hV, rfl, hfz, hnd⟩ := hW
  have hA : DataW.TrodAll enc Try.prog W 0 (fun _ => true) true Try.f4.params.toList args.toList ds p := hA0
  rw [Try.params4] at hA hval
  obtain ⟨v0, vs0, d0, ds0, p0, q0, hargs, rfl, rfl, h0, r0⟩ := trodAll_cons hA
  obtain ⟨v1, vs1, d1, ds1, p1, q1, rfl, rfl, rfl, h1, r1⟩ := trodAll_cons r0
  obtain ⟨rfl, rfl, rfl⟩ := trodAll_nil r1
  obtain rfl : args = #[v0, v1] := by cases args; simp_all
  obtain ⟨rfl, rfl⟩ := trodVars_none hV
  have k0 := h0
  have lt0 : ∀ x ∈ p0, x.block < W.heap.size := by obtain ⟨m, hm⟩ := k0; exact DataW.trod_lt m _ _ _ hm
  obtain ⟨c00, c01, c02, y00, y01, y02, m0, ev0, _, _, hy00, hy01, hy02⟩ := open_agg3 Try.underlying23 Z6 Z6 (hval 0 23 v0 rfl rfl) h0
  subst ev0
  obtain ⟨z00, e00, _, _⟩ := DataW.trod_int Try.underlying3 hy00
  injection e00 with e00
  subst e00
  obtain ⟨z01, e01, _, _⟩ := DataW.trod_int Try.underlying3 hy01
  injection e01 with e01
  subst e01
  obtain ⟨z02, e02, _, _⟩ := DataW.trod_int Try.underlying3 hy02
  injection e02 with e02
  subst e02
  have k1 := h1
  have lt1 : ∀ x ∈ p1, x.block < W.heap.size := by obtain ⟨m, hm⟩ := k1; exact DataW.trod_lt m _ _ _ hm
  obtain ⟨c10, c11, c12, y10, y11, y12, m1, ev1, _, _, hy10, hy11, hy12⟩ := open_agg3 Try.underlying27 Z6 Z6 (hval 1 27 v1 rfl rfl) h1
  subst ev1
  obtain ⟨b1, e10, _⟩ := DataW.trod_bool Try.underlying4 hy10
  injection e10 with e10
  subst e10
  obtain ⟨A11, cc11, xs11, e11, fr11⟩ := fr_of_row hy11
  subst e11
  obtain ⟨A12, cc12, xs12, e12, fr12⟩ := fr_of_row hy12
  subst e12
  clear hA0 hval0 hsz0
  refine (law_WetSteps z00 z01 z02 (x := ⟨b1, xs11, xs12⟩) (RaF_of fr11 fr12)).mono fun e W' ⟨he, bel⟩ => ?_
  subst he
  exact ⟨_, rfl, _, _, _, [], _, [], hW', trodAll_mk1 (shut_bool Try.underlying4 _), (trodAll_cons_mk (Below.trod laidOut Z6 (of_decide_eq_true Z6) k0 bel lt0) (trodAll_cons_mk (Below.trod laidOut Z6 (of_decide_eq_true Z6) k1 bel lt1) trodAll_mk0)), rfl, bel.frame _, fun h => by cases h⟩
theorem over : Rows.wetStepsRow.holds Try.pinned (OpenSpec.ofChange Rows.wetStepsSpec) :=
  OpenClaim.holds_of_wide 4 Try.f4 rfl rfl rfl rfl rfl rfl rfl ⟨rfl, rfl, rfl, rfl, rfl⟩ rfl rfl rfl rfl rfl Z6 Try.func4 Z6
    (of_decide_eq_true Z6) (by unfold Func.isWrapper; first | (rw [if_pos (by decide +kernel)]; kernel_rfl) | (rw [if_neg (by decide +kernel)]; exact ⟨rfl, rfl⟩))
    (fun os started H enc _ => lifted os started H enc)
theorem proved : Rows.WetStepsSaid := over
#print axioms proved
end Go.Proofs.Ytbjamhkhocjdkaa.wetSteps
namespace Go.Proofs.Ytbjamhkhocjdkaa
theorem wetSteps_holds : Rows.WetStepsSaid := wetSteps.proved
end Go.Proofs.Ytbjamhkhocjdkaa
