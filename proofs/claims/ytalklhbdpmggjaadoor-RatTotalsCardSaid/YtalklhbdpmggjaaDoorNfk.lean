/- The functions of the program as functions of values, part 11: a proof's lemmas, with no condition of their own. -/
import Derived.Test.YtalklhbdpmggjaaDoorNfi
import Derived.Test.YtalklhbdpmggjaaDoorNfj
set_option linter.unusedVariables false
set_option linter.unusedSimpArgs false
namespace Go.Proofs.YtalklhbdpmggjaaDoor.Pw
open Go Wd Px Mat
set_option linter.unusedVariables false
set_option linter.unusedSimpArgs false
set_option maxRecDepth 100000
set_option maxHeartbeats 8000000
attribute [local irreducible] Int.tmod Int.tdiv
def RC (l : List Rt) : List PV := l.flatMap fun x => [B x.neg, N x.p, N x.q]
@[reducible] def RL (l : List Rt) : PV := .lst l.length (RC l)
theorem RC_len (l : List Rt) : (RC l).length = l.length * 3 := by
  induction l with
  | nil => rfl
  | cons a l ih => show (([B a.neg, N a.p, N a.q] : List PV) ++ RC l).length = _; rw [List.length_append, ih]; show 3 + l.length * 3 = (l.length + 1) * 3; omega
theorem RC_drop : ∀ (l : List Rt) (i : Nat), (RC l).drop (i * 3) = RC (l.drop i)
  | l, 0 => by simp
  | [], i + 1 => by simp [RC]
  | a :: l, i + 1 => by
    rw [List.drop_succ_cons, ← RC_drop l i]
    show (([B a.neg, N a.p, N a.q] : List PV) ++ RC l).drop _ = _
    rw [show (i + 1) * 3 = 3 + i * 3 by omega, ← List.drop_drop]; rfl
theorem getR {l : List Rt} {i : Int} (h0 : 0 ≤ i) (h1 : i < l.length) : ((RC l).drop (i.toNat * 3)).take 3 = [B (rdR l i).neg, N (rdR l i).p, N (rdR l i).q] := by
  obtain ⟨n, rfl⟩ : ∃ n : Nat, i = n := ⟨i.toNat, by omega⟩
  have hn : n < l.length := by omega
  rw [Int.toNat_natCast, RC_drop, List.drop_eq_getElem_cons hn, rdR_at hn]; rfl
theorem rat_valid.snd (k : Nat) (l : List Rt) (r : Bool) (h : validR_l0 k l 0 = some r) : Sound Tryd.prog 101 [RL l] (B r) := by
  have hg := fun i : Int => getR (l := l) (i := i)
  have hlen := RC_len l
  refine Sound.of_WP tok Tryd.func101 rfl rfl ?_; simp only [Tryd.f101, args0, List.map, List.length_cons, List.length_nil, Nat.reduceAdd, Nat.reduceSub, List.replicate, List.cons_append, List.nil_append]
  repeat' (first | refine WP_seq ?_ | refine WP_block ?_ | refine regA 64 fun KQ hKQ => ?_ | refine regD 64 fun KQ hKQ => ?_ | refine opsA rfl rfl rfl rfl (nrmA ?_) | refine opsW_skip rfl (nrmA ?_) | (refine opsW_nil ⟨by kernel_rfl, hKQ _ _ _ (nrmB ?_)⟩; clear hKQ KQ) | (refine opsW_nil (hKQ _ _ _ (nrmB ?_)); clear hKQ KQ) | refine condT rfl ?_ | refine condF rfl ?_ | refine WP_skip (nrmB ?_) | refine WP_ret (nrmC ?_) | refine WP_exit (nrmC ?_))
  refine WP_loop (WPL_weaken ?_ (WPL_rec (α := Int) (fun k x => validR_l0 k l x) r (fun x => (mkE 15 [(5, .p (RL l)), (6, .p (I (l.length : Int))), (7, .p (I x))], [], 0)) ?_ k _ h))
  · exact wkA
  · clear h; try clear k
    intro k x K ih h
    simp only [mkE, List.replicate, List.foldl, List.set]
    cases k with
    | zero => simp [validR_l0] at h
    | succ k =>
      simp only [validR_l0] at h
      repeat' (first | (simp only [if_true, if_false, Bool.false_eq_true, Bool.not_true, Bool.not_false, reduceIte] at h) | (split at h) | (rw [Option.bind_eq_some_iff] at h; obtain ⟨_, hbb, h⟩ := h; try (simp only [Option.some.injEq] at hbb; subst hbb)) | (cases h; done) | (simp only [Option.some.injEq, Prod.mk.injEq] at h; subst h) | (simp only [Option.some.injEq, Prod.mk.injEq] at h; (have h1 := h.1; have h2 := h.2; clear h; subst h1; first | subst h2 | (obtain ⟨h3, h4⟩ := h2; subst h3; subst h4))))
      all_goals
        repeat' (first | refine WP_seq ?_ | refine WP_block ?_ | refine regA 64 fun KQ hKQ => ?_ | refine regD 64 fun KQ hKQ => ?_ | refine opsA rfl rfl rfl rfl (nrmA ?_) | refine callA rfl rfl rfl (nrmA ?_) (hs := rat_Valid.c (rdR l x)) | refine opsW_skip rfl (nrmA ?_) | (refine opsW_nil ⟨by kernel_rfl, hKQ _ _ _ (nrmB ?_)⟩; clear hKQ KQ) | (refine opsW_nil (hKQ _ _ _ (nrmB ?_)); clear hKQ KQ) | refine condT rfl ?_ | refine condF rfl ?_ | refine WP_skip (nrmB ?_) | refine WP_ret (nrmC ?_) | refine WP_exit (nrmC ?_))
        first
        | exact endA
        | (refine ih _ _ _ _ _ (Nat.lt_succ_self _) h ?_; exact wkA)
theorem rat_valid.c (l : List Rt) : Sound Tryd.prog 101 [RL l] (B (l.all rvB)) :=
  Sound.len (Entered.of Tryd.func101 rfl rfl) 0 l.length (RC l) rfl fun hl => by
    exact (ev_validR l hl l.length 0 (by omega) rfl).rounds.elim fun k h => rat_valid.snd k l _ h
theorem rat_one.c : Sound Tryd.prog 106 [] (N [1]) := runO tok mixed [] 300 6 Obs.nil (by kernel_rfl)
theorem rat_Sum.snd (k : Nat) (l : List Rt) (r : Rt) (e : Int) (hv : l.all rvB = true) (hl : ¬ (4096 : Int) < (l.length : Int)) (h : sumR_l0 k l ⟨false, [], [1]⟩ 0 = some (r, e)) : Sound Tryd.prog 68 [RL l] (.tup [R r, I e]) := by
  have hg := fun i : Int => getR (l := l) (i := i)
  have hlen := RC_len l
  have c1 := rat_valid.c l
  rw [hv] at c1
  refine Sound.of_WP tok Tryd.func68 rfl rfl ?_; simp only [Tryd.f68, args0, List.map, List.length_cons, List.length_nil, Nat.reduceAdd, Nat.reduceSub, List.replicate, List.cons_append, List.nil_append]
  repeat' (first | refine WP_seq ?_ | refine WP_block ?_ | refine regA 64 fun KQ hKQ => ?_ | refine regD 64 fun KQ hKQ => ?_ | refine opsA rfl rfl rfl rfl (nrmA ?_) | refine callA rfl rfl rfl (nrmA ?_) (hs := c1) | refine callA rfl rfl rfl (nrmA ?_) (hs := rat_one.c) | refine opsW_skip rfl (nrmA ?_) | (refine opsW_nil ⟨by kernel_rfl, hKQ _ _ _ (nrmB ?_)⟩; clear hKQ KQ) | (refine opsW_nil (hKQ _ _ _ (nrmB ?_)); clear hKQ KQ) | refine condT rfl ?_ | refine condF rfl ?_ | refine WP_skip (nrmB ?_) | refine WP_ret (nrmC ?_) | refine WP_exit (nrmC ?_))
  refine WP_weaken (Wk.frzCell 768 1 (.pc 43 [B false, .v (.slice none 0 0), N [1]]) (.p (.v (.slice none 0 0))) (N []) [] rfl rfl rfl (by simp)) ?_
  refine WP_loop (WPL_weaken ?_ (WPL_rec (α := Rt × Int) (fun k x => sumR_l0 k l x.1 x.2) (r, e) (fun x => (mkE 40 [(2, .own 0 0), (4, .own 1 0), (21, .p (RL l)), (22, .p (I (l.length : Int))), (23, .p (I x.2))], [(1, .pc 43 [B x.1.neg, N x.1.p, N x.1.q]), (0, .pc 43 [B false, .v (.slice none 0 0), .v (.slice none 0 0)])], 2)) ?_ k (⟨false, [], [1]⟩, 0) h))
  · show Wk 0 _ [(768, .pc 43 [B false, N [], N [1]]), (0, .pc 43 [B false, .v (.slice none 0 0), .v (.slice none 0 0)])] _ _ _ _
    exact wkA
  · clear h; try clear k
    intro k ⟨s, x⟩ K ih h
    simp only [mkE, List.replicate, List.foldl, List.set]
    cases k with
    | zero => simp [sumR_l0] at h
    | succ k =>
      simp only [sumR_l0] at h
      repeat' (first | (simp only [if_true, if_false, Bool.false_eq_true, Bool.not_true, Bool.not_false, reduceIte] at h) | (split at h) | (rw [Option.bind_eq_some_iff] at h; obtain ⟨_, hbb, h⟩ := h; try (simp only [Option.some.injEq] at hbb; subst hbb)) | (cases h; done) | (simp only [Option.some.injEq, Prod.mk.injEq] at h; subst h) | (simp only [Option.some.injEq, Prod.mk.injEq] at h; (have h1 := h.1; have h2 := h.2; clear h; subst h1; first | subst h2 | (obtain ⟨h3, h4⟩ := h2; subst h3; subst h4))))
      all_goals
        repeat' (first | refine WP_seq ?_ | refine WP_block ?_ | refine regA 64 fun KQ hKQ => ?_ | refine regD 64 fun KQ hKQ => ?_ | refine opsA rfl rfl rfl rfl (nrmA ?_) | refine callA rfl rfl rfl (nrmA ?_) (hs := rat_Add.c s (rdR l x)) | refine opsW_skip rfl (nrmA ?_) | (refine opsW_nil ⟨by kernel_rfl, hKQ _ _ _ (nrmB ?_)⟩; clear hKQ KQ) | (refine opsW_nil (hKQ _ _ _ (nrmB ?_)); clear hKQ KQ) | refine condT rfl ?_ | refine condF rfl ?_ | refine WP_skip (nrmB ?_) | refine WP_ret (nrmC ?_) | refine WP_exit (nrmC ?_))
        first
        | (refine Res_of rfl ?_ ?_; (focus (first | (refine ⟨⟨?_, ?_⟩, trivial⟩ <;> first | exact Nat.le_of_ble_eq_true rfl | (refine Nat.le_of_ble_eq_true ?_; kernel_rfl) | (intro hh; cases hh)) | (refine ⟨⟨?_, ?_⟩, trivial, trivial⟩ <;> first | (refine Nat.le_of_ble_eq_true ?_; kernel_rfl) | (intro hh; cases hh)) | (refine ⟨⟨?_, ?_⟩, trivial⟩ <;> decide) | (refine ⟨⟨?_, ?_⟩, ⟨trivial, trivial⟩⟩ <;> decide) | decide | (simp [Blk.cells]; done))); exact ⟨_, rfl⟩)
        | (refine ih _ _ _ _ ((addR s (rdR l x)).1, wrap64 (x + 1)) (Nat.lt_succ_self _) h ?_; exact wkA)
theorem rat_Sum.c (l : List Rt) : Sound Tryd.prog 68 [RL l] (.tup [R (sumS l).1, I (sumS l).2]) :=
  Sound.len (Entered.of Tryd.func68 rfl rfl) 0 l.length (RC l) rfl fun hl => by
    have c1 := rat_valid.c l
    unfold sumS
    by_cases h1 : 4096 < l.length
    · have h1' : (4096 : Int) < (l.length : Int) := by omega
      rw [if_pos h1]
      exact runO tok mixed [] 300 6 (Obs.br 0 (ltT h1') Obs.nil) (by kernel_rfl)
    · have h1' : ¬ (4096 : Int) < (l.length : Int) := by omega
      rw [if_neg h1]
      by_cases h2 : l.all rvB = true
      · rw [if_pos h2]
        exact (ev_sumR l hl l.length 0 ⟨false, [], [1]⟩ (by omega)).rounds.elim fun k h => rat_Sum.snd k l _ _ h2 h1' h
      · rw [if_neg h2]
        replace h2 : l.all rvB = false := by simpa using h2
        rw [h2] at c1
        exact runO tok mixed [101] 300 6 (Obs.br 0 (ltF h1') (Obs.cons c1 Obs.nil)) (by kernel_rfl)
theorem r3_Sum.snd (k : Nat) (l : List Rt) (r : Rt) (e : Int) (hl : ¬ (4096 : Int) < (l.length : Int)) (hv : l.all rvB = true) (k0 : Nat) (h0 : validR_l0 k0 l 0 = some true) (h : sumR_l0 k l ⟨false, [], [1]⟩ 0 = some (r, e)) : Sound Tryd.prog 69 [RL l] (.tup [R r, I e]) := by
  have hg := fun i : Int => getR (l := l) (i := i)
  have hlen := RC_len l
  have c2 := r3_Of.c 0 (by decide)
  rw [makeS_01] at c2
  refine Sound.of_WP tok Tryd.func69 rfl rfl ?_; simp only [Tryd.f69, args0, List.map, List.length_cons, List.length_nil, Nat.reduceAdd, Nat.reduceSub, List.replicate, List.cons_append, List.nil_append]
  repeat' (first | refine WP_seq ?_ | refine WP_block ?_ | refine regA 64 fun KQ hKQ => ?_ | refine regD 64 fun KQ hKQ => ?_ | refine opsA rfl rfl rfl rfl (nrmA ?_) | refine opsW_skip rfl (nrmA ?_) | (refine opsW_nil ⟨by kernel_rfl, hKQ _ _ _ (nrmB ?_)⟩; clear hKQ KQ) | (refine opsW_nil (hKQ _ _ _ (nrmB ?_)); clear hKQ KQ) | refine condT rfl ?_ | refine condF rfl ?_ | refine WP_skip (nrmB ?_) | refine WP_ret (nrmC ?_) | refine WP_exit (nrmC ?_))
  refine WP_loop (WPL_weaken ?_ (WPL_rec (α := Int) (fun k x => validR_l0 k l x) true (fun x => (mkE 52 [(0, .p (RL l)), (2, .own 0 0), (4, .p (I x))], [(0, .pc 43 [B false, .v (.slice none 0 0), .v (.slice none 0 0)])], 1)) ?_ k0 _ h0))
  · exact wkA
  · clear h0; try clear k0
    intro m x K ih h0
    simp only [mkE, List.replicate, List.foldl, List.set]
    cases m with
    | zero => simp [validR_l0] at h0
    | succ m =>
      simp only [validR_l0] at h0
      split at h0
      · repeat' (first | (simp only [if_true, if_false, Bool.false_eq_true, Bool.not_true, Bool.not_false, reduceIte] at h0) | (split at h0) | (rw [Option.bind_eq_some_iff] at h0; obtain ⟨_, hbb, h0⟩ := h0; try (simp only [Option.some.injEq] at hbb; subst hbb)) | (cases h0; done) | (simp only [Option.some.injEq, Prod.mk.injEq] at h0; subst h0) | (simp only [Option.some.injEq, Prod.mk.injEq] at h0; (have h01 := h0.1; have h02 := h0.2; clear h0; subst h01; first | subst h02 | (obtain ⟨h03, h04⟩ := h02; subst h03; subst h04))))
        all_goals
          repeat' (first | refine WP_seq ?_ | refine WP_block ?_ | refine regA 64 fun KQ hKQ => ?_ | refine regD 64 fun KQ hKQ => ?_ | refine opsA rfl rfl rfl rfl (nrmA ?_) | refine callA rfl rfl rfl (nrmA ?_) (hs := r3_Valid.c (rdR l x)) | refine opsW_skip rfl (nrmA ?_) | (refine opsW_nil ⟨by kernel_rfl, hKQ _ _ _ (nrmB ?_)⟩; clear hKQ KQ) | (refine opsW_nil (hKQ _ _ _ (nrmB ?_)); clear hKQ KQ) | refine condT rfl ?_ | refine condF rfl ?_ | refine WP_skip (nrmB ?_) | refine WP_ret (nrmC ?_) | refine WP_exit (nrmC ?_))
          first
          | (refine ih _ _ _ _ _ (Nat.lt_succ_self _) h0 ?_; exact wkA)
      · clear ih h0
        repeat' (first | refine WP_seq ?_ | refine WP_block ?_ | refine regA 64 fun KQ hKQ => ?_ | refine regD 64 fun KQ hKQ => ?_ | refine opsA rfl rfl rfl rfl (nrmA ?_) | refine callA rfl rfl rfl (nrmA ?_) (hs := c2) | refine opsW_skip rfl (nrmA ?_) | (refine opsW_nil ⟨by kernel_rfl, hKQ _ _ _ (nrmB ?_)⟩; clear hKQ KQ) | (refine opsW_nil (hKQ _ _ _ (nrmB ?_)); clear hKQ KQ) | refine condT rfl ?_ | refine condF rfl ?_ | refine WP_skip (nrmB ?_) | refine WP_ret (nrmC ?_) | refine WP_exit (nrmC ?_))
        refine WP_loop (WPL_weaken ?_ (WPL_rec (α := Rt × Int) (fun k x => sumR_l0 k l x.1 x.2) (r, e) (fun x => (mkE 52 [(0, .p (RL l)), (2, .own 0 0), (5, .own 1 0), (7, .p (I x.2))], [(1, .pc 43 [B x.1.neg, N x.1.p, N x.1.q]), (0, .pc 43 [B false, .v (.slice none 0 0), .v (.slice none 0 0)])], 2)) ?_ k (⟨false, [], [1]⟩, 0) h))
        · exact wkA
        · clear h; try clear k
          intro k ⟨s, x⟩ K ih h
          simp only [mkE, List.replicate, List.foldl, List.set]
          cases k with
          | zero => simp [sumR_l0] at h
          | succ k =>
            simp only [sumR_l0] at h
            repeat' (first | (simp only [if_true, if_false, Bool.false_eq_true, Bool.not_true, Bool.not_false, reduceIte] at h) | (split at h) | (rw [Option.bind_eq_some_iff] at h; obtain ⟨_, hbb, h⟩ := h; try (simp only [Option.some.injEq] at hbb; subst hbb)) | (cases h; done) | (simp only [Option.some.injEq, Prod.mk.injEq] at h; subst h) | (simp only [Option.some.injEq, Prod.mk.injEq] at h; (have h1 := h.1; have h2 := h.2; clear h; subst h1; first | subst h2 | (obtain ⟨h3, h4⟩ := h2; subst h3; subst h4))))
            all_goals
              repeat' (first | refine WP_seq ?_ | refine WP_block ?_ | refine regA 64 fun KQ hKQ => ?_ | refine regD 64 fun KQ hKQ => ?_ | refine opsA rfl rfl rfl rfl (nrmA ?_) | refine callA rfl rfl rfl (nrmA ?_) (hs := r3_Add.c s (rdR l x)) | refine opsW_skip rfl (nrmA ?_) | (refine opsW_nil ⟨by kernel_rfl, hKQ _ _ _ (nrmB ?_)⟩; clear hKQ KQ) | (refine opsW_nil (hKQ _ _ _ (nrmB ?_)); clear hKQ KQ) | refine condT rfl ?_ | refine condF rfl ?_ | refine WP_skip (nrmB ?_) | refine WP_ret (nrmC ?_) | refine WP_exit (nrmC ?_))
              first
              | (refine Res_of rfl ?_ ?_; (focus (first | (refine ⟨⟨?_, ?_⟩, trivial⟩ <;> first | exact Nat.le_of_ble_eq_true rfl | (refine Nat.le_of_ble_eq_true ?_; kernel_rfl) | (intro hh; cases hh)) | (refine ⟨⟨?_, ?_⟩, trivial, trivial⟩ <;> first | (refine Nat.le_of_ble_eq_true ?_; kernel_rfl) | (intro hh; cases hh)) | (refine ⟨⟨?_, ?_⟩, trivial⟩ <;> decide) | (refine ⟨⟨?_, ?_⟩, ⟨trivial, trivial⟩⟩ <;> decide) | decide | (simp [Blk.cells]; done))); exact ⟨_, rfl⟩)
              | (refine ih _ _ _ _ ((addR s (rdR l x)).1, wrap64 (x + 1)) (Nat.lt_succ_self _) h ?_; exact wkA)
theorem r3_Sum.bad (l : List Rt) (hl : ¬ (4096 : Int) < (l.length : Int)) (k0 : Nat) (h0 : validR_l0 k0 l 0 = some false) : Sound Tryd.prog 69 [RL l] (.tup [R zR, I 3]) := by
  have hg := fun i : Int => getR (l := l) (i := i)
  have hlen := RC_len l
  refine Sound.of_WP tok Tryd.func69 rfl rfl ?_; simp only [Tryd.f69, args0, List.map, List.length_cons, List.length_nil, Nat.reduceAdd, Nat.reduceSub, List.replicate, List.cons_append, List.nil_append]
  repeat' (first | refine WP_seq ?_ | refine WP_block ?_ | refine regA 64 fun KQ hKQ => ?_ | refine regD 64 fun KQ hKQ => ?_ | refine opsA rfl rfl rfl rfl (nrmA ?_) | refine opsW_skip rfl (nrmA ?_) | (refine opsW_nil ⟨by kernel_rfl, hKQ _ _ _ (nrmB ?_)⟩; clear hKQ KQ) | (refine opsW_nil (hKQ _ _ _ (nrmB ?_)); clear hKQ KQ) | refine condT rfl ?_ | refine condF rfl ?_ | refine WP_skip (nrmB ?_) | refine WP_ret (nrmC ?_) | refine WP_exit (nrmC ?_))
  refine WP_loop (WPL_weaken ?_ (WPL_rec (α := Int) (fun k x => validR_l0 k l x) false (fun x => (mkE 52 [(0, .p (RL l)), (2, .own 0 0), (4, .p (I x))], [(0, .pc 43 [B false, .v (.slice none 0 0), .v (.slice none 0 0)])], 1)) ?_ k0 _ h0))
  · exact wkA
  · clear h0; try clear k0
    intro m x K ih h0
    simp only [mkE, List.replicate, List.foldl, List.set]
    cases m with
    | zero => simp [validR_l0] at h0
    | succ m =>
      simp only [validR_l0] at h0
      repeat' (first | (simp only [if_true, if_false, Bool.false_eq_true, Bool.not_true, Bool.not_false, reduceIte] at h0) | (split at h0) | (rw [Option.bind_eq_some_iff] at h0; obtain ⟨_, hbb, h0⟩ := h0; try (simp only [Option.some.injEq] at hbb; subst hbb)) | (cases h0; done) | (simp only [Option.some.injEq, Prod.mk.injEq] at h0; subst h0) | (simp only [Option.some.injEq, Prod.mk.injEq] at h0; (have h01 := h0.1; have h02 := h0.2; clear h0; subst h01; first | subst h02 | (obtain ⟨h03, h04⟩ := h02; subst h03; subst h04))))
      all_goals
        repeat' (first | refine WP_seq ?_ | refine WP_block ?_ | refine regA 64 fun KQ hKQ => ?_ | refine regD 64 fun KQ hKQ => ?_ | refine opsA rfl rfl rfl rfl (nrmA ?_) | refine callA rfl rfl rfl (nrmA ?_) (hs := r3_Valid.c (rdR l x)) | refine opsW_skip rfl (nrmA ?_) | (refine opsW_nil ⟨by kernel_rfl, hKQ _ _ _ (nrmB ?_)⟩; clear hKQ KQ) | (refine opsW_nil (hKQ _ _ _ (nrmB ?_)); clear hKQ KQ) | refine condT rfl ?_ | refine condF rfl ?_ | refine WP_skip (nrmB ?_) | refine WP_ret (nrmC ?_) | refine WP_exit (nrmC ?_))
        first
        | (refine Res_of rfl ?_ ?_; (focus (first | (refine ⟨⟨?_, ?_⟩, trivial⟩ <;> first | exact Nat.le_of_ble_eq_true rfl | (refine Nat.le_of_ble_eq_true ?_; kernel_rfl) | (intro hh; cases hh)) | (refine ⟨⟨?_, ?_⟩, trivial, trivial⟩ <;> first | (refine Nat.le_of_ble_eq_true ?_; kernel_rfl) | (intro hh; cases hh)) | (refine ⟨⟨?_, ?_⟩, trivial⟩ <;> decide) | (refine ⟨⟨?_, ?_⟩, ⟨trivial, trivial⟩⟩ <;> decide) | decide | (simp [Blk.cells]; done))); exact ⟨_, rfl⟩)
        | (refine ih _ _ _ _ _ (Nat.lt_succ_self _) h0 ?_; exact wkA)
theorem r3_Sum.c (l : List Rt) : Sound Tryd.prog 69 [RL l] (.tup [R (sumS l).1, I (sumS l).2]) :=
  Sound.len (Entered.of Tryd.func69 rfl rfl) 0 l.length (RC l) rfl fun hl => by
    have hv := (ev_validR l hl l.length 0 (by omega) rfl).rounds
    unfold sumS
    by_cases h1 : 4096 < l.length
    · have h1' : (4096 : Int) < (l.length : Int) := by omega
      rw [if_pos h1]
      exact runO tok mixed [] 300 6 (Obs.br 0 (ltT h1') Obs.nil) (by kernel_rfl)
    · have h1' : ¬ (4096 : Int) < (l.length : Int) := by omega
      rw [if_neg h1]
      by_cases h2 : l.all rvB = true
      · rw [if_pos h2]
        rw [h2] at hv
        exact hv.elim fun k0 h0 => (ev_sumR l hl l.length 0 ⟨false, [], [1]⟩ (by omega)).rounds.elim fun k h => r3_Sum.snd k l _ _ h1' h2 k0 h0 h
      · rw [if_neg h2]
        replace h2 : l.all rvB = false := by simpa using h2
        rw [h2] at hv
        exact hv.elim fun k0 h0 => r3_Sum.bad l h1' k0 h0
end Go.Proofs.YtalklhbdpmggjaaDoor.Pw
