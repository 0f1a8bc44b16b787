/- The row of WetFollows: whatever the input, it returns true, and what it was handed reads as before. No condition. -/
import Derived.Test.YtbjamhkhocjdkaaRows
import Derived.WalkKit
import Derived.ProofKit
import Derived.OpenShut
import Derived.ShutString
import Derived.ChangeOld
import Derived.Below
import Derived.SizedLaws
import Derived.Lib.SmallJoins
import Derived.Test.YtbjamhkhocjdkaaFaa
import Derived.Test.YtbjamhkhocjdkaaFab
import Derived.Test.YtbjamhkhocjdkaaFac
import Derived.Test.YtbjamhkhocjdkaaFad
import Derived.Test.YtbjamhkhocjdkaaFae
import Derived.Test.YtbjamhkhocjdkaaFg
import Derived.Test.YtbjamhkhocjdkaaFh
namespace Go.Proofs.Ytbjamhkhocjdkaa.wetFollows
open Go.ChangeShapes Go.WideShapes Go.ChangeAt Go.RowKit Go.Joins Go.Proofs.Ytbjamhkhocjdkaa.Pw Go.Proofs.Ytbjamhkhocjdkaa.Px
set_option linter.unusedVariables false
set_option linter.unusedSimpArgs false
theorem own : ownKnob Try.prog.godebug = none := by kernel_rfl
theorem laidOut : laidOutB Try.prog = true := by kernel_rfl
theorem N_of_row {H : Type} {enc : TypeId × Value → H} {W : World} {held : Bool} {k : Nat} {v : Value} {y : DataW H × List MemPlace} (h : DataW.trod enc Try.prog W 0 (fun _ => true) held k 25 [v] = some y) : ∃ l, RepP (fun _ => False) W (N l) v := by
  rcases open_ints Try.underlying25 Try.underlying3 (by kernel_rfl) h with ⟨hcs, _⟩ | ⟨a, len, cap, zs, hcs, _, hl, hm, hz, _, hcell, _⟩
  · injection hcs with e
    subst e
    exact ⟨[], .lst0 _ _⟩
  · injection hcs with e
    subst e
    have hz' : zs.length = cap := by simpa using hz
    have hlen : (zs.take len).length = len := by rw [List.length_take]; omega
    rcases Nat.eq_zero_or_pos len with h0 | h0
    · subst h0; exact ⟨[], .lst0 _ _⟩
    · have c0 := hcell 0 (by omega)
      have hs : a.spot = none := by simpa [Addr.add] using World.cell?_spot c0
      obtain ⟨B, o, sp⟩ := a
      dsimp only at hs
      subst hs
      have c1 : ∀ j, j < zs.length → W.cell? ⟨B, o + j, none⟩ = some (.int .i64 (zs.getD j 0)) := fun j hj => by
        have := hcell j hj
        unfold Addr.add at this
        split at this
        · rename_i e; subst e; exact this
        · exact this
      refine ⟨zs.take len, ?_⟩
      show RepP _ W (.lst (zs.take len).length ((zs.take len).map I)) _
      rw [hlen]
      refine .lst len cap _ B o (fun j => .int .i64 (zs.getD j 0)) ?_ (fun h => h) ⟨hl, hm⟩ (fun j hj => c1 j ?_) (fun j hj => rfl) (fun j pv hp => ?_)
      · have := c1 0 (by omega)
        unfold World.cell? at this
        split at this
        · rename_i c _ _ hh; exact lt_of_cells hh
        · cases this
      · rw [List.length_map, hlen] at hj; omega
      · simp only [List.getElem?_map, Option.map_eq_some_iff] at hp
        obtain ⟨q, hq, rfl⟩ := hp
        have hj := (List.getElem?_eq_some_iff.1 hq).1
        rw [hlen] at hj
        rw [List.getElem?_take, if_pos hj] at hq
        rw [List.getD_eq_getElem?_getD, hq]
        exact .v _ rfl
theorem rep3 {W : World} {a b c : PV} {x y z : Value} (h1 : RepP (fun _ => False) W a x) (h2 : RepP (fun _ => False) W b y) (h3 : RepP (fun _ => False) W c z) (o1 : x.oneCell' = true) (o2 : y.oneCell' = true) (o3 : z.oneCell' = true) : RepP (fun _ => False) W (.agg [a, b, c]) (.agg #[x, y, z]) := by
  refine .agg [a, b, c] [x, y, z] rfl (fun j v hv => ?_) (fun j p v hp hv => ?_)
  · rcases j with _ | _ | _ | j <;> simp at hv <;> subst hv <;> assumption
  · rcases j with _ | _ | _ | j <;> simp at hp hv <;> subst hp <;> subst hv <;> assumption
theorem reps_nil {W : World} : ∀ (j : Nat) a v, ([] : List PV)[j]? = some a → ([] : List Value)[j]? = some v → RepP (fun _ => False) W a v := fun j a v h => by simp at h
theorem reps_cons {W : World} {a : PV} {v : Value} {bs : List PV} {vs : List Value} (h : RepP (fun _ => False) W a v) (k : ∀ (j : Nat) a v, bs[j]? = some a → vs[j]? = some v → RepP (fun _ => False) W a v) : ∀ (j : Nat) x u, (a :: bs)[j]? = some x → (v :: vs)[j]? = some u → RepP (fun _ => False) W x u := fun j x u hx hu => by
  cases j with
  | zero => simp at hx hu; subst hx; subst hu; exact h
  | succ j => exact k j x u (by simpa using hx) (by simpa using hu)
set_option maxRecDepth 100000 in
theorem lifted (os : Os) (started : os.Started) (H : Type) (enc : TypeId × Value → H) :
    ReturnsInHanded {} Try.checked os 9 .any (Rows.wetFollowsSpec.pre6 enc Try.prog Try.f9 Rows.wetFollowsRow.domain false) (Rows.wetFollowsSpec.post enc Try.prog Try.f9 false true false false) := by
  refine returnsInHanded_of_change_sized (C := Try.checked) own started (by kernel_rfl) Try.func9
    (ChangeSpec.witness6 (enc := enc) (C := Try.checked) false ⟨#[], #[.agg #[.int .i64 0, .int .i64 0, .int .i64 0], .agg #[.bool false, .slice none 0 0, .slice none 0 0], .int .i64 0], []⟩ 8 (by kernel_rfl) (by kernel_rfl) (by kernel_rfl) (by kernel_rfl)) ?_
  intro W base args ds gs before hval0 hW hcnd hsz0 _
  have hval : ∀ (j : Nat) t v, Try.f9.params[j]? = some t → args[j]? = some v → Value.okWide Try.prog W .any base t v := hval0
  have hW' := hW
  obtain ⟨p, q, hA0, hV, rfl, hfz, hnd⟩ := hW
  have hA : DataW.TrodAll enc Try.prog W 0 (fun _ => true) true Try.f9.params.toList args.toList ds p := hA0
  rw [Try.params9] at hA hval
  obtain ⟨v0, vs0, d0, ds0, p0, q0, hargs, rfl, rfl, h0, r0⟩ := trodAll_cons hA
  obtain ⟨v1, vs1, d1, ds1, p1, q1, rfl, rfl, rfl, h1, r1⟩ := trodAll_cons r0
  obtain ⟨v2, vs2, d2, ds2, p2, q2, rfl, rfl, rfl, h2, r2⟩ := trodAll_cons r1
  obtain ⟨rfl, rfl, rfl⟩ := trodAll_nil r2
  obtain rfl : args = #[v0, v1, v2] := by cases args; simp_all
  obtain ⟨rfl, rfl⟩ := trodVars_none hV
  have k0 := h0
  have lt0 : ∀ x ∈ p0, x.block < W.heap.size := by obtain ⟨m, hm⟩ := k0; exact DataW.trod_lt m _ _ _ hm
  obtain ⟨c00, c01, c02, y00, y01, y02, m0, ev0, _, _, hy00, hy01, hy02⟩ := open_agg3 Try.underlying23 (by kernel_rfl) (by kernel_rfl) (hval 0 23 v0 rfl rfl) h0
  subst ev0
  obtain ⟨z00, e00, _, _⟩ := DataW.trod_int Try.underlying3 hy00
  injection e00 with e00
  subst e00
  obtain ⟨z01, e01, _, _⟩ := DataW.trod_int Try.underlying3 hy01
  injection e01 with e01
  subst e01
  obtain ⟨z02, e02, _, _⟩ := DataW.trod_int Try.underlying3 hy02
  injection e02 with e02
  subst e02
  have k1 := h1
  have lt1 : ∀ x ∈ p1, x.block < W.heap.size := by obtain ⟨m, hm⟩ := k1; exact DataW.trod_lt m _ _ _ hm
  obtain ⟨c10, c11, c12, y10, y11, y12, m1, ev1, _, _, hy10, hy11, hy12⟩ := open_agg3 Try.underlying27 (by kernel_rfl) (by kernel_rfl) (hval 1 27 v1 rfl rfl) h1
  subst ev1
  obtain ⟨b1, e10, _⟩ := DataW.trod_bool Try.underlying4 hy10
  injection e10 with e10
  subst e10
  obtain ⟨xs11, fr11⟩ := N_of_row hy11
  obtain ⟨xs12, fr12⟩ := N_of_row hy12
  have k2 := h2
  have lt2 : ∀ x ∈ p2, x.block < W.heap.size := by obtain ⟨m, hm⟩ := k2; exact DataW.trod_lt m _ _ _ hm
  obtain ⟨n2, e2, _, _⟩ := open_int Try.underlying3 (hval 2 3 v2 rfl rfl) h2
  subst e2
  clear hA0 hval0 hsz0
  refine ((WetFollows.c z00 z01 z02 ⟨b1, xs11, xs12⟩ n2).2 (fun _ => False) W [_, _, _] (fun _ h => h.elim) (fun g x h => by cases h) rfl (reps_cons (rep3 (.v _ rfl) (.v _ rfl) (.v _ rfl) rfl rfl rfl) (reps_cons (rep3 (.v _ rfl) fr11 fr12 rfl (fr11.one trivial) (fr12.one trivial)) (reps_cons (.v _ rfl) reps_nil)))).mono fun e W' ⟨rv, he, hr, bel⟩ => ?_
  obtain rfl : rv = .bool true := by cases hr; rfl
  subst he
  exact ⟨_, rfl, _, _, _, [], _, [], hW', trodAll_mk1 (shut_bool Try.underlying4 _), (trodAll_cons_mk (Below.trod laidOut (by kernel_rfl) (of_decide_eq_true (by kernel_rfl)) k0 bel lt0) (trodAll_cons_mk (Below.trod laidOut (by kernel_rfl) (of_decide_eq_true (by kernel_rfl)) k1 bel lt1) (trodAll_cons_mk (Below.trod laidOut (by kernel_rfl) (of_decide_eq_true (by kernel_rfl)) k2 bel lt2) trodAll_mk0))), rfl, bel.frame _, fun h => by cases h⟩
theorem over : Rows.wetFollowsRow.holds Try.pinned (OpenSpec.ofChange Rows.wetFollowsSpec) :=
  OpenClaim.holds_of_wide 9 Try.f9 rfl rfl rfl rfl rfl rfl rfl ⟨rfl, rfl, rfl, rfl, rfl⟩ rfl rfl rfl rfl rfl (by kernel_rfl) Try.func9 (by kernel_rfl)
    (of_decide_eq_true (by kernel_rfl)) (by unfold Func.isWrapper; first | (rw [if_pos (by decide +kernel)]; kernel_rfl) | (rw [if_neg (by decide +kernel)]; exact ⟨rfl, rfl⟩))
    (fun os started H enc _ => lifted os started H enc)
theorem proved : Rows.WetFollowsSaid := over
#print axioms proved
end Go.Proofs.Ytbjamhkhocjdkaa.wetFollows
namespace Go.Proofs.Ytbjamhkhocjdkaa
/-- The row, under a short name, for the claim. -/
theorem wetFollows_holds : Rows.WetFollowsSaid := wetFollows.proved
end Go.Proofs.Ytbjamhkhocjdkaa
