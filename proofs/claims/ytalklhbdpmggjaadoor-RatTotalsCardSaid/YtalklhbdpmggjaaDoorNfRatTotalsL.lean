/- The row of RatTotals: whatever the input, it returns true, and what it was handed reads as before. No condition. -/
import Derived.Test.YtalklhbdpmggjaaDoorRows
import Derived.Test.YtalklhbdpmggjaaDoorCards
import Derived.Test.YtalklhbdpmggjaaDoorTie
import Derived.WalkKit
import Derived.ProofKit
import Derived.OpenShut
import Derived.ShutString
import Derived.ChangeOld
import Derived.Below
import Derived.SizedLaws
import Derived.Lib.SmallJoins
import Derived.SevenTiedAt
import Derived.Handed
import Derived.ChangeSame
import Derived.ChangeVars
import Derived.ChangeMaps5
import Derived.JoinedOf
import Derived.RowKit
import Derived.Test.YtalklhbdpmggjaaDoorNfa
import Derived.Test.YtalklhbdpmggjaaDoorNfl
import Derived.Test.YtalklhbdpmggjaaDoorNfp
import Derived.Test.YtalklhbdpmggjaaDoorNfRatTotalsA
import Derived.Test.YtalklhbdpmggjaaDoorNfRatTotalsB
namespace Go.Proofs.YtalklhbdpmggjaaDoor.ratTotals
open Go.ChangeShapes Go.WideShapes Go.ChangeAt Go.RowKit Go.Joins Go.Proofs.YtalklhbdpmggjaaDoor.Pw Go.Proofs.YtalklhbdpmggjaaDoor.Px
set_option linter.unusedVariables false
set_option linter.unusedSimpArgs false
theorem own : ownKnob Tryd.prog.godebug = none := by kernel_rfl
theorem laidOut : laidOutB Tryd.prog = true := by kernel_rfl
theorem N_of_row {H : Type} {enc : TypeId × Value → H} {W : World} {held : Bool} {k : Nat} {v : Value} {y : DataW H × List MemPlace} (h : DataW.trod enc Tryd.prog W 0 (fun _ => true) held k 23 [v] = some y) : ∃ l, RepP (fun _ => False) W (N l) v := by
  rcases open_ints Tryd.underlying23 Tryd.underlying3 (by kernel_rfl) h with ⟨hcs, _⟩ | ⟨a, len, cap, zs, hcs, _, hl, hm, hz, _, hcell, _⟩
  · injection hcs with e
    subst e
    exact ⟨[], .lst0 _ _⟩
  · injection hcs with e
    subst e
    have hz' : zs.length = cap := by simpa using hz
    have hlen : (zs.take len).length = len := by rw [List.length_take]; omega
    rcases Nat.eq_zero_or_pos len with h0 | h0
    · subst h0; exact ⟨[], .lst0 _ _⟩
    · have c0 := hcell 0 (by omega)
      have hs : a.spot = none := by simpa [Addr.add] using World.cell?_spot c0
      obtain ⟨B, o, sp⟩ := a
      dsimp only at hs
      subst hs
      have c1 : ∀ j, j < zs.length → W.cell? ⟨B, o + j, none⟩ = some (.int .i64 (zs.getD j 0)) := fun j hj => by
        have := hcell j hj
        unfold Addr.add at this
        split at this
        · rename_i e; subst e; exact this
        · exact this
      refine ⟨zs.take len, ?_⟩
      show RepP _ W (.lst (zs.take len).length ((zs.take len).map I)) _
      rw [hlen]
      refine .lst len cap _ B o (fun j => .int .i64 (zs.getD j 0)) ?_ (fun h => h) ⟨hl, hm⟩ (fun j hj => c1 j ?_) (fun j hj => rfl) (fun j pv hp => ?_)
      · have := c1 0 (by omega)
        unfold World.cell? at this
        split at this
        · rename_i c _ _ hh; exact lt_of_cells hh
        · cases this
      · rw [List.length_map, hlen] at hj; omega
      · simp only [List.getElem?_map, Option.map_eq_some_iff] at hp
        obtain ⟨q, hq, rfl⟩ := hp
        have hj := (List.getElem?_eq_some_iff.1 hq).1
        rw [hlen] at hj
        rw [List.getElem?_take, if_pos hj] at hq
        rw [List.getD_eq_getElem?_getD, hq]
        exact .v _ rfl
set_option maxRecDepth 100000 in
set_option linter.constructorNameAsVariable false in
theorem N_of_row1 {H : Type} {enc : TypeId × Value → H} {W : World} {held : Bool} {r : Reach} {b0 : Nat} {v : Value} {d : DataW H} {p : List MemPlace} (hv : Value.okWide Tryd.prog W r b0 23 v) (h : DataW.Trod enc Tryd.prog W 0 (fun _ => true) held 23 v d p) : ∃ l, RepP (fun _ => False) W (N l) v := by
  obtain ⟨k, h⟩ := h
  obtain ⟨a, n, c, rfl⟩ := okWide_slice Tryd.underlying23 hv
  have e : (Value.slice a n c).cells.toList = [Value.slice a n c] := rfl
  rw [e] at h
  exact N_of_row h
theorem rep3 {W : World} {a b c : PV} {x y z : Value} (h1 : RepP (fun _ => False) W a x) (h2 : RepP (fun _ => False) W b y) (h3 : RepP (fun _ => False) W c z) (o1 : x.oneCell' = true) (o2 : y.oneCell' = true) (o3 : z.oneCell' = true) : RepP (fun _ => False) W (.agg [a, b, c]) (.agg #[x, y, z]) := by
  refine .agg [a, b, c] [x, y, z] rfl (fun j v hv => ?_) (fun j p v hp hv => ?_)
  · rcases j with _ | _ | _ | j <;> simp at hv <;> subst hv <;> assumption
  · rcases j with _ | _ | _ | j <;> simp at hp hv <;> subst hp <;> subst hv <;> assumption
theorem reps_nil {W : World} : ∀ (j : Nat) a v, ([] : List PV)[j]? = some a → ([] : List Value)[j]? = some v → RepP (fun _ => False) W a v := fun j a v h => by simp at h
theorem reps_cons {W : World} {a : PV} {v : Value} {bs : List PV} {vs : List Value} (h : RepP (fun _ => False) W a v) (k : ∀ (j : Nat) a v, bs[j]? = some a → vs[j]? = some v → RepP (fun _ => False) W a v) : ∀ (j : Nat) x u, (a :: bs)[j]? = some x → (v :: vs)[j]? = some u → RepP (fun _ => False) W x u := fun j x u hx hu => by
  cases j with
  | zero => simp at hx hu; subst hx; subst hu; exact h
  | succ j => exact k j x u (by simpa using hx) (by simpa using hu)
theorem i64_wf {n : Int} (h : (Lit.int .i64 n).wf = true) : -9223372036854775808 ≤ n ∧ n ≤ 9223372036854775807 := by
  have h1 : (decide (IntKind.min .i64 ≤ n) && decide (n ≤ IntKind.max .i64)) = true := h
  rw [Bool.and_eq_true, decide_eq_true_eq, decide_eq_true_eq, show IntKind.min .i64 = -9223372036854775808 by decide, show IntKind.max .i64 = 9223372036854775807 by decide] at h1
  exact h1
set_option maxRecDepth 100000
theorem lifted (os : Os) (started : os.Started) (H : Type) (enc : TypeId × Value → H) :
    ReturnsInHanded {} Tryd.checked os 16 .any (fun w args => (Rows.ratTotalsSpec.pre enc Tryd.prog Tryd.f16 [] false w args ∧ laidMetH Tryd.prog laid3 w) ∧ sizedMet enc Tryd.prog Tryd.f16 (OpenSpec.ofChange Rows.ratTotalsSpec) false w args) (Rows.ratTotalsSpec.post enc Tryd.prog Tryd.f16 false true false false) := by
  refine returnsInHanded_of_change_and (C := Tryd.checked) (X := fun w _ => laidMetH Tryd.prog laid3 w) (fun _ _ _ hh h => h.of_heap hh) own started (by kernel_rfl) Tryd.func16
    (ChangeSpec.witness_at (enc := enc) (C := Tryd.checked) (os := os) (X := fun w _ => laidMetH Tryd.prog laid3 w) false (laidWorld os) #[.slice none 0 0, .int .i64 0] 8 rfl (by kernel_rfl) (by kernel_rfl) (by kernel_rfl) (by kernel_rfl) (by kernel_rfl) (laid_met os _)) ?_
  intro W base args ds gs before hval0 hW hcnd hsz0 hL _
  have hval : ∀ (j : Nat) t v, Tryd.f16.params[j]? = some t → args[j]? = some v → Value.okWide Tryd.prog W .any base t v := hval0
  have hW' := hW
  obtain ⟨p, q, hA0, hV, rfl, hfz, hnd⟩ := hW
  have hA : DataW.TrodAll enc Tryd.prog W 0 (fun _ => true) true Tryd.f16.params.toList args.toList ds p := hA0
  rw [Tryd.params16] at hA hval
  obtain ⟨v0, vs0, d0, ds0, p0, q0, hargs, rfl, rfl, h0, r0⟩ := trodAll_cons hA
  obtain ⟨v1, vs1, d1, ds1, p1, q1, rfl, rfl, rfl, h1, r1⟩ := trodAll_cons r0
  obtain ⟨rfl, rfl, rfl⟩ := trodAll_nil r1
  obtain rfl : args = #[v0, v1] := by cases args; simp_all
  obtain ⟨rfl, rfl⟩ := trodVars_none hV
  have k0 := h0
  have lt0 : ∀ x ∈ p0, x.block < W.heap.size := by obtain ⟨m, hm⟩ := k0; exact DataW.trod_lt m _ _ _ hm
  obtain ⟨xs0, fr0⟩ := RL_of_row1 (hval 0 55 v0 rfl rfl) h0
  have k1 := h1
  have lt1 : ∀ x ∈ p1, x.block < W.heap.size := by obtain ⟨m, hm⟩ := k1; exact DataW.trod_lt m _ _ _ hm
  obtain ⟨n1, e1, _, _⟩ := open_int Tryd.underlying3 (hval 1 3 v1 rfl rfl) h1
  subst e1
  clear hA0 hval0 hsz0
  refine ((RatTotals.c xs0 n1).2 (fun _ => False) W [_, _] (fun _ h => h.elim) (gok_of_laid hL) rfl (reps_cons fr0 (reps_cons (.v _ rfl) reps_nil))).mono fun e W' ⟨rv, he, hr, bel⟩ => ?_
  obtain rfl : rv = .bool true := by cases hr; rfl
  subst he
  exact ⟨_, rfl, _, _, _, [], _, [], hW', trodAll_mk1 (shut_bool Tryd.underlying4 _), (trodAll_cons_mk (Below.trod laidOut (by kernel_rfl) (of_decide_eq_true (by kernel_rfl)) k0 bel lt0) (trodAll_cons_mk (Below.trod laidOut (by kernel_rfl) (of_decide_eq_true (by kernel_rfl)) k1 bel lt1) trodAll_mk0)), rfl, bel.frame _, fun h => by cases h⟩
theorem over : Rows.ratTotalsRow.holds Tryd.pinned (OpenSpec.ofChange Rows.ratTotalsSpec) :=
  OpenClaim.holds_of_wide 16 Tryd.f16 rfl rfl rfl rfl rfl rfl rfl ⟨rfl, rfl, rfl, rfl, rfl⟩ rfl rfl rfl rfl rfl (by kernel_rfl) Tryd.func16 closed
    (of_decide_eq_true (by kernel_rfl)) (by unfold Func.isWrapper; first | (rw [if_pos (by decide +kernel)]; kernel_rfl) | (rw [if_neg (by decide +kernel)]; exact ⟨rfl, rfl⟩))
    (fun os started H enc _ => lifted os started H enc)
theorem proved : Rows.RatTotalsCardSaid :=
  Claim7.holds_tied_plain_at .later [] [.data, .data, .data] true (true, "be9665efe8b326d5843256fe0f9c8f863bf539fbb73824fe9c349cb01fba4eaf") false over (fun _ h => by cases h) (by kernel_rfl) (fun _ h => by cases h) ratTotals_row_tie rfl ⟨rfl, rfl⟩ main_is rfl
    (fun f fn hf hfn => by
      obtain rfl : f = 16 := Option.some.inj ((show Tryd.prog.funcNamed "papermill/papermilllaw03.RatTotals" = some 16 by kernel_rfl).symm.trans hf) |>.symm
      obtain rfl : fn = Tryd.f16 := (Option.some.inj (Tryd.func16.symm.trans hfn)).symm
      exact ⟨by kernel_rfl, fun j t ht => by
        rw [Tryd.params16] at ht
        have hm : t ∈ [55, 3] := by simpa using Array.mem_of_getElem? ht
        have hall : ([55, 3].all fun u => !Tryd.prog.wantsStandIn u) = true := by kernel_rfl
        exact (show Tryd.prog.wantsStandIn t = false by simpa using List.all_eq_true.1 hall t hm)⟩)
    (by kernel_rfl)
#print axioms proved
end Go.Proofs.YtalklhbdpmggjaaDoor.ratTotals
namespace Go.Proofs.YtalklhbdpmggjaaDoor
/-- The row, under a short name, for the claim. -/
theorem ratTotals_holds : Rows.RatTotalsCardSaid := ratTotals.proved
end Go.Proofs.YtalklhbdpmggjaaDoor
