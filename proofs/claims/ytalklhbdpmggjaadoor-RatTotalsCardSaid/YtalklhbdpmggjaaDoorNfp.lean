/- The functions of the program as functions of values, part 16: a proof's lemmas, with no condition of their own. -/
import Derived.Test.YtalklhbdpmggjaaDoorNfk
import Derived.Test.YtalklhbdpmggjaaDoorNfl
import Derived.Test.YtalklhbdpmggjaaDoorNfm
import Derived.Test.YtalklhbdpmggjaaDoorNfo
set_option linter.unusedVariables false
set_option linter.unusedSimpArgs false
namespace Go.Proofs.YtalklhbdpmggjaaDoor.Pw
open Go Wd Px Mat
set_option linter.unusedVariables false
set_option linter.unusedSimpArgs false
set_option maxRecDepth 100000
set_option maxHeartbeats 8000000
attribute [local irreducible] Int.tmod Int.tdiv
def oneR : Rt := ⟨false, [], [1]⟩
def Z3 : List PV := [B false, .v (.slice none 0 0), .v (.slice none 0 0)]
def FC (m i : Nat) : List PV := RC (List.replicate i oneR) ++ (List.replicate (m - i) Z3).flatten
theorem Z3_len (n : Nat) : ((List.replicate n Z3).flatten).length = n * 3 := by
  induction n with
  | zero => rfl
  | succ n ih => rw [List.replicate_succ, List.flatten_cons, List.length_append, ih]; show 3 + n * 3 = _; omega
theorem FC_len {m i : Nat} (h : i ≤ m) : (FC m i).length = m * 3 := by
  unfold FC; rw [List.length_append, RC_len, List.length_replicate, Z3_len]; omega
theorem mkP (e : Nat) (X : List PV) : Blk.mk e (X.map .p) = .pc e X := by
  have h : ∀ X : List PV, allP (X.map .p) = some X := fun X => by
    induction X with
    | nil => rfl
    | cons a X ih => simp [allP, ih]
  unfold Blk.mk; rw [h]
theorem Wk.same {base : Nat} {env : List AV} {st : Stores} {nx : Nat} : Wk base env st nx env st nx := fun hb => ⟨hb, fun F μ W a hA => ⟨μ, hA, Keep.refl _ _ _ _ _⟩⟩
theorem FC_split {M i : Nat} (h : i < M) : ∃ A C, FC M i = A ++ (Z3 ++ C) ∧ A.length = i * 3 ∧ FC M (i + 1) = A ++ ([B false, N [], .lst 1 [I 1]] ++ C) := by
  refine ⟨RC (List.replicate i oneR), (List.replicate (M - (i + 1)) Z3).flatten, ?_, by rw [RC_len, List.length_replicate], ?_⟩
  · unfold FC; rw [show M - i = (M - (i + 1)) + 1 by omega, List.replicate_succ, List.flatten_cons]
  · unfold FC
    rw [List.replicate_succ', show RC (List.replicate i oneR ++ [oneR]) = RC (List.replicate i oneR) ++ [B false, N [], .lst 1 [I 1]] by unfold RC; rw [List.flatMap_append]; rfl, List.append_assoc]
theorem at2 {α : Type} (A C : List α) (n : Nat) (h : A.length = n) (a b c : α) : (A ++ ([a, b, c] ++ C))[n + 2]? = some c ∧ (A ++ ([a, b, c] ++ C))[n + 1]? = some b ∧ (∀ x, (A ++ ([a, b, c] ++ C)).set (n + 2) x = A ++ ([a, b, x] ++ C)) ∧ ∀ x, (A ++ ([a, b, c] ++ C)).set (n + 1) x = A ++ ([a, x, c] ++ C) := by
  subst h
  refine ⟨?_, ?_, fun x => ?_, fun x => ?_⟩
  · rw [List.getElem?_append_right (by omega), show A.length + 2 - A.length = 2 by omega]; rfl
  · rw [List.getElem?_append_right (by omega), show A.length + 1 - A.length = 1 by omega]; rfl
  · rw [List.set_append_right _ _ (by omega), show A.length + 2 - A.length = 2 by omega]; rfl
  · rw [List.set_append_right _ _ (by omega), show A.length + 1 - A.length = 1 by omega]; rfl
theorem FC_last {M : Nat} (h : 0 < M) (r : Rt) : List.take (((M : Int) - 1).toNat * 3) (FC M M) ++ B r.neg :: N r.p :: N r.q :: List.drop (((M : Int) - 1).toNat * 3 + 3) (FC M M) = RC (List.replicate (M - 1) oneR ++ [r]) := by
  obtain ⟨n, rfl⟩ : ∃ n, M = n + 1 := ⟨M - 1, by omega⟩
  rw [show (((n + 1 : Nat) : Int) - 1).toNat = n by omega, Nat.add_sub_cancel]
  have hF : FC (n + 1) (n + 1) = RC (List.replicate n oneR) ++ [B false, N [], .lst 1 [I 1]] := by
    unfold FC
    rw [Nat.sub_self, List.replicate_succ']
    show RC (List.replicate n oneR ++ [oneR]) ++ [] = _
    rw [List.append_nil]; unfold RC; rw [List.flatMap_append]; rfl
  have hl : (RC (List.replicate n oneR)).length = n * 3 := by rw [RC_len, List.length_replicate]
  have h1 : List.take (n * 3) (FC (n + 1) (n + 1)) = RC (List.replicate n oneR) := by rw [hF, List.take_append_of_le_length (by omega), List.take_of_length_le (by omega)]
  have h2 : List.drop (n * 3 + 3) (FC (n + 1) (n + 1)) = [] := List.drop_eq_nil_of_le (by rw [FC_len (Nat.le_refl _)]; omega)
  rw [h1, h2]
  show RC _ ++ [B r.neg, N r.p, N r.q] = _
  unfold RC; rw [List.flatMap_append]; rfl
theorem fill_wk {env : List AV} {nx : Nat} {k1 k2 : Blk} {M i : Nat} (h : i < M) :
    Wk 0 env [(0, .mc 43 (((FC M i).map AV.p).take (i * 3) ++ ([AV.p (B false), AV.p (.v (.slice none 0 0)), AV.sl 323 0 1 1] ++ ((FC M i).map AV.p).drop (i * 3 + 3)))), (323, .pc 3 [I 1]), (1, k1), (2, k2)] nx env [(0, .pc 43 (FC M (i + 1))), (1, k1), (2, k2)] nx := by
  obtain ⟨A, C, hA, hl, hN⟩ := FC_split h
  rw [hA, hN]
  have hl' : (A.map AV.p).length = i * 3 := by rw [List.length_map]; exact hl
  have e0 : ((A ++ (Z3 ++ C)).map AV.p).take (i * 3) = A.map AV.p := by rw [List.map_append, List.take_append_of_le_length (by omega), List.take_of_length_le (by omega)]
  have e1 : ((A ++ (Z3 ++ C)).map AV.p).drop (i * 3 + 3) = C.map AV.p := by
    rw [List.map_append, ← hl', ← List.drop_drop, List.drop_append_of_le_length (Nat.le_refl _), List.drop_length, List.nil_append, List.map_append]; rfl
  rw [e0, e1]
  obtain ⟨g1, g2, g3, g4⟩ := at2 (A.map AV.p) (C.map AV.p) (i * 3) hl' (AV.p (B false)) (AV.p (.v (.slice none 0 0))) (AV.sl 323 0 1 1)
  refine Wk.trans (Wk.frzCell 0 (i * 3 + 2) _ (AV.sl 323 0 1 1) (.lst 1 [I 1]) [323] rfl g1 rfl (by decide)) ?_
  have q1 : Blk.mk 43 ((A.map AV.p ++ ([AV.p (B false), AV.p (.v (.slice none 0 0)), AV.sl 323 0 1 1] ++ C.map AV.p)).set (i * 3 + 2) (AV.p (.lst 1 [I 1]))) = .pc 43 (A ++ ([B false, PV.v (.slice none 0 0), PV.lst 1 [I 1]] ++ C)) := by
    rw [g3, ← mkP]; congr 1; simp
  show Wk 0 env [(0, Blk.mk 43 ((A.map AV.p ++ ([AV.p (B false), AV.p (.v (.slice none 0 0)), AV.sl 323 0 1 1] ++ C.map AV.p)).set (i * 3 + 2) (AV.p (.lst 1 [I 1])))), (1, k1), (2, k2)] nx env _ nx
  rw [q1]
  obtain ⟨f1, f2, f3, f4⟩ := at2 A C (i * 3) hl (B false) (.v (.slice none 0 0)) (.lst 1 [I 1])
  refine Wk.trans (Wk.frzCell 0 (i * 3 + 1) (.pc 43 (A ++ ([B false, PV.v (.slice none 0 0), PV.lst 1 [I 1]] ++ C))) (.p (.v (.slice none 0 0))) (N []) [] rfl (by show ((A ++ _).map AV.p)[i * 3 + 1]? = _; rw [List.getElem?_map, f2]; rfl) rfl (by simp)) ?_
  have q2 : Blk.mk 43 (((A ++ ([B false, PV.v (.slice none 0 0), PV.lst 1 [I 1]] ++ C)).map AV.p).set (i * 3 + 1) (AV.p (N []))) = .pc 43 (A ++ ([B false, N [], .lst 1 [I 1]] ++ C)) := by
    rw [← mkP, ← f4 (N []), List.map_set]
  show Wk 0 env [(0, Blk.mk 43 (((A ++ ([B false, PV.v (.slice none 0 0), PV.lst 1 [I 1]] ++ C)).map AV.p).set (i * 3 + 1) (AV.p (N [])))), (1, k1), (2, k2)] nx env _ nx
  rw [q2]
  exact Wk.same
theorem RatTotals_full (l : List Rt) (M : Nat) (s : Rt) (e : Int) (s' : Rt) (e' : Int) (hl : ¬ (40 : Int) < (l.length : Int)) (h0 : ¬ (l.length : Int) = 0) (m0 : ¬ (M : Int) < 4095) (m1 : ¬ (4098 : Int) < (M : Int)) (c1 : Sound Tryd.prog 68 [RL l] (.tup [R s, I e])) (c2 : Sound Tryd.prog 69 [RL l] (.tup [R s, I e])) (c3 : Sound Tryd.prog 49 [R s, R s] (B true)) (d1 : Sound Tryd.prog 68 [.lst M (RC (List.replicate (M - 1) oneR ++ [rdR l 0]))] (.tup [R s', I e'])) (d2 : Sound Tryd.prog 69 [.lst M (RC (List.replicate (M - 1) oneR ++ [rdR l 0]))] (.tup [R s', I e'])) (d3 : Sound Tryd.prog 49 [R s', R s'] (B true)) :
    Sound Tryd.prog 16 [RL l, I (M : Int)] (B true) := by
  have k2 : (48 : Int) * (M : Int) ≤ 281474976710656 := by omega
  refine Sound.of_WP tok Tryd.func16 rfl rfl ?_; simp only [Tryd.f16, args0, List.map, List.length_cons, List.length_nil, Nat.reduceAdd, Nat.reduceSub, List.replicate, List.cons_append, List.nil_append]
  repeat' (first | refine WP_seq ?_ | refine WP_block ?_ | refine regA 64 fun KQ hKQ => ?_ | refine regD 64 fun KQ hKQ => ?_ | refine opsA rfl rfl rfl rfl (nrmA ?_) | refine callA rfl rfl rfl (nrmA ?_) (hs := c1) | refine callA rfl rfl rfl (nrmA ?_) (hs := c2) | refine callA rfl rfl rfl (nrmA ?_) (hs := c3) | refine opsW_skip rfl (nrmA ?_) | (refine opsW_nil ⟨by kernel_rfl, hKQ _ _ _ (nrmB ?_)⟩; clear hKQ KQ) | (refine opsW_nil (hKQ _ _ _ (nrmB ?_)); clear hKQ KQ) | refine condT rfl ?_ | refine condF rfl ?_ | refine WP_skip (nrmB ?_) | refine WP_ret (nrmC ?_) | refine WP_exit (nrmC ?_))
  refine WP_loop (WPL_weaken ?_ (WPL_meas (α := Nat) (fun i => M - i) (fun i => (mkE 86 [(0, .p (RL l)), (1, .p (I (M : Int))), (9, .sl 0 0 M 3), (10, .p (I (i : Int))), (5, .own 1 0), (7, .own 2 0)], [(0, .pc 43 (FC M i)), (1, .pc 43 [B s.neg, N s.p, N s.q]), (2, .pc 43 [B s.neg, N s.p, N s.q])], 3)) (fun i => i ≤ M) ?_ 0 (Nat.zero_le _)))
  · have hz : (List.replicate M [PV.v (.bool false), .v (.slice none 0 0), .v (.slice none 0 0)]).flatten = FC M 0 := rfl
    rw [hz]
    exact wkA
  · intro i K ih hi
    simp only [mkE, List.replicate, List.foldl, List.set]
    have hF := FC_len hi
    by_cases hlt : (i : Int) < (M : Int)
    · repeat' (first | refine WP_seq ?_ | refine WP_block ?_ | refine regA 64 fun KQ hKQ => ?_ | refine regD 64 fun KQ hKQ => ?_ | refine opsA rfl rfl rfl rfl (nrmA ?_) | refine opsW_skip rfl (nrmA ?_) | (refine opsW_nil ⟨by kernel_rfl, hKQ _ _ _ (nrmB ?_)⟩; clear hKQ KQ) | (refine opsW_nil (hKQ _ _ _ (nrmB ?_)); clear hKQ KQ) | refine condT rfl ?_ | refine condF rfl ?_ | refine WP_skip (nrmB ?_) | refine WP_ret (nrmC ?_) | refine WP_exit (nrmC ?_))
      refine ih _ _ _ (i + 1) (by omega) (by omega) ?_
      have wi : wrap64 ((i : Int) + 1) = ((i + 1 : Nat) : Int) := by rw [w64 (by omega) (by omega)]; omega
      rw [wi]
      refine Wk.trans (show Wk 0 _ _ _ _ [(0, .pc 43 (FC M (i + 1))), (1, .pc 43 [B s.neg, N s.p, N s.q]), (2, .pc 43 [B s.neg, N s.p, N s.q])] _ from fill_wk (by omega)) ?_
      exact wkA
    · clear ih
      obtain rfl : i = M := by omega
      clear hlt hi
      have hl0 : (0 : Int) < (l.length : Int) := by omega
      have hlen := RC_len l
      have hg : ((RC l).drop ((0 : Int).toNat * 3)).take 3 = [B (rdR l 0).neg, N (rdR l 0).p, N (rdR l 0).q] := getR (by decide) hl0
      have hg2 : (RC l).take 3 = [B (rdR l 0).neg, N (rdR l 0).p, N (rdR l 0).q] := hg
      have hw : wrap64 ((i : Int) - 1) = (i : Int) - 1 := w64 (by omega) (by omega)
      have hi1 : (0 : Int) ≤ (i : Int) - 1 := by omega
      have hi2 : (i : Int) - 1 < (i : Int) := by omega
      repeat' (first | refine WP_seq ?_ | refine WP_block ?_ | refine opsA rfl rfl rfl rfl (nrmA ?_) | refine opsW_skip rfl (nrmA ?_) | (refine opsW_nil ⟨by kernel_rfl, hKQ _ _ _ (nrmB ?_)⟩; clear hKQ KQ) | (refine opsW_nil (hKQ _ _ _ (nrmB ?_)); clear hKQ KQ) | refine condT rfl ?_ | refine condF rfl ?_ | refine WP_skip (nrmB ?_) | refine WP_ret (nrmC ?_) | refine WP_exit (nrmC ?_))
      first | refine regA 64 fun KQ hKQ => ?_ | refine regD 64 fun KQ hKQ => ?_
      repeat' (first | refine WP_seq ?_ | refine WP_block ?_ | refine opsA rfl rfl rfl rfl (nrmA ?_) | refine opsW_skip rfl (nrmA ?_) | (refine opsW_nil ⟨by kernel_rfl, hKQ _ _ _ (nrmB ?_)⟩; clear hKQ KQ) | (refine opsW_nil (hKQ _ _ _ (nrmB ?_)); clear hKQ KQ) | refine condT rfl ?_ | refine condF rfl ?_ | refine WP_skip (nrmB ?_) | refine WP_ret (nrmC ?_) | refine WP_exit (nrmC ?_))
      first | refine regA 64 fun KQ hKQ => ?_ | refine regD 64 fun KQ hKQ => ?_
      repeat' (first | refine WP_seq ?_ | refine WP_block ?_ | refine opsA rfl rfl rfl rfl (nrmA ?_) | refine opsW_skip rfl (nrmA ?_) | (refine opsW_nil ⟨by kernel_rfl, hKQ _ _ _ (nrmB ?_)⟩; clear hKQ KQ) | (refine opsW_nil (hKQ _ _ _ (nrmB ?_)); clear hKQ KQ) | refine condT rfl ?_ | refine condF rfl ?_ | refine WP_skip (nrmB ?_) | refine WP_ret (nrmC ?_) | refine WP_exit (nrmC ?_))
      rw [FC_last (by omega) (rdR l 0)]
      refine WP_weaken (Wk.frz 9 (.lst i (RC (List.replicate (i - 1) oneR ++ [rdR l 0]))) [0] ?_) ?_
      · show some (PV.lst i (((RC (List.replicate (i - 1) oneR ++ [rdR l 0])).drop 0).take (i * 3)), [0]) = _
        rw [List.drop_zero, List.take_of_length_le (by rw [RC_len, List.length_append, List.length_replicate]; simp; omega)]
      simp only [delL, List.set, del, beq_self_eq_true, Nat.reduceBEq, cond_true, cond_false]
      repeat' (first | refine WP_seq ?_ | refine WP_block ?_ | refine regA 64 fun KQ hKQ => ?_ | refine regD 64 fun KQ hKQ => ?_ | refine opsA rfl rfl rfl rfl (nrmA ?_) | refine callA rfl rfl rfl (nrmA ?_) (hs := d1) | refine callA rfl rfl rfl (nrmA ?_) (hs := d2) | refine callA rfl rfl rfl (nrmA ?_) (hs := d3) | refine callA rfl rfl rfl (nrmA ?_) (hs := awake03.c) | refine opsW_skip rfl (nrmA ?_) | (refine opsW_nil ⟨by kernel_rfl, hKQ _ _ _ (nrmB ?_)⟩; clear hKQ KQ) | (refine opsW_nil (hKQ _ _ _ (nrmB ?_)); clear hKQ KQ) | refine condT rfl ?_ | refine condF rfl ?_ | refine WP_skip (nrmB ?_) | refine WP_ret (nrmC ?_) | refine WP_exit (nrmC ?_))
      all_goals exact endA
theorem RatTotals.c (l : List Rt) (m : Int) : Sound Tryd.prog 16 [RL l, I m] (B true) := by
  have c1 := rat_Sum.c l
  have c2 := r3_Sum.c l
  have c3 := same03 (sumS l).1
  generalize (sumS l).1 = s at *
  generalize (sumS l).2 = e at *
  have ee : e = e := rfl
  by_cases hl : (40 : Int) < (l.length : Int)
  · exact runO tok mixed [50] 300 6 (Obs.br 0 (ltT hl) (Obs.cons awake03.c Obs.nil)) (by kernel_rfl)
  by_cases h1 : m < 4095
  · exact runO tok mixed [68, 69, 49, 50] 300 6 (Obs.br 0 (ltF hl) (Obs.cons c1 (Obs.cons c2 (Obs.cons c3 (Obs.br 0 (neF ee) (Obs.br 0 (ltT h1) (Obs.cons awake03.c Obs.nil))))))) (by kernel_rfl)
  by_cases h2 : (4098 : Int) < m
  · exact runO tok mixed [68, 69, 49, 50] 300 6 (Obs.br 0 (ltF hl) (Obs.cons c1 (Obs.cons c2 (Obs.cons c3 (Obs.br 0 (neF ee) (Obs.br 0 (ltF h1) (Obs.br 0 (ltT h2) (Obs.cons awake03.c Obs.nil)))))))) (by kernel_rfl)
  by_cases h3 : (l.length : Int) = 0
  · exact runO tok mixed [68, 69, 49, 50] 300 6 (Obs.br 0 (ltF hl) (Obs.cons c1 (Obs.cons c2 (Obs.cons c3 (Obs.br 0 (neF ee) (Obs.br 0 (ltF h1) (Obs.br 0 (ltF h2) (Obs.br 0 (eqT h3) (Obs.cons awake03.c Obs.nil))))))))) (by kernel_rfl)
  obtain ⟨M, rfl⟩ : ∃ M : Nat, m = (M : Int) := ⟨m.toNat, by omega⟩
  have hM : (List.replicate (M - 1) oneR ++ [rdR l 0]).length = M := by rw [List.length_append, List.length_replicate]; simp; omega
  have d1 := rat_Sum.c (List.replicate (M - 1) oneR ++ [rdR l 0])
  have d2 := r3_Sum.c (List.replicate (M - 1) oneR ++ [rdR l 0])
  rw [RL, hM] at d1 d2
  exact RatTotals_full l M s e _ _ hl h3 h1 h2 c1 c2 c3 d1 d2 (same03 _)
end Go.Proofs.YtalklhbdpmggjaaDoor.Pw
