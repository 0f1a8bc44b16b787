/- The functions of the program as functions of values, part 4: a proof's lemmas, with no condition of their own. -/
import Derived.Test.YtiondkijgpjgcaaSac
set_option linter.unusedVariables false
set_option linter.unusedSimpArgs false
namespace Go.Proofs.Ytiondkijgpjgcaa.Pw
open Go Wd Px
set_option linter.unusedVariables false
set_option linter.unusedSimpArgs false
set_option maxRecDepth 100000
attribute [local irreducible] Int.tmod Int.tdiv
set_option maxHeartbeats 8000000
theorem nat_Valid.snd (k : Nat) (l : List Int) (r : Bool) (h : nat_Valid.f k l = some r) : Sound Try.prog 59 [N l] (B r) := by
  refine Sound.of_WP tok Try.func59 rfl rfl ?_; simp only [Try.f59, args0, List.map, List.length_cons, List.length_nil, Nat.reduceAdd, Nat.reduceSub, List.replicate, List.cons_append, List.nil_append]
  unfold nat_Valid.f at h
  split at h
  · repeat' (first | (simp only [if_true, if_false, Bool.false_eq_true, Bool.not_true, Bool.not_false, reduceIte] at h) | (split at h) | (rw [Option.bind_eq_some_iff] at h; obtain ⟨_, hbb, h⟩ := h; try (simp only [Option.some.injEq] at hbb; subst hbb)) | (cases h; done) | (simp only [Option.some.injEq, Prod.mk.injEq] at h; subst h) | (simp only [Option.some.injEq, Prod.mk.injEq] at h; (have h1 := h.1; have h2 := h.2; clear h; subst h1; first | subst h2 | (obtain ⟨h3, h4⟩ := h2; subst h3; subst h4))))
    repeat' (first | refine WP_seq ?_ | refine WP_block ?_ | refine regA 64 fun KQ hKQ => ?_ | refine regD 64 fun KQ hKQ => ?_ | refine opsA rfl rfl rfl rfl (nrmA ?_) | refine opsW_skip rfl (nrmA ?_) | (refine opsW_nil ⟨by kernel_rfl, hKQ _ _ _ (nrmB ?_)⟩; clear hKQ KQ) | (refine opsW_nil (hKQ _ _ _ (nrmB ?_)); clear hKQ KQ) | refine condT rfl ?_ | refine condF rfl ?_ | refine WP_skip (nrmB ?_) | refine WP_ret (nrmC ?_) | refine WP_exit (nrmC ?_))
    exact endA
  · repeat' (first | refine WP_seq ?_ | refine WP_block ?_ | refine regA 64 fun KQ hKQ => ?_ | refine regD 64 fun KQ hKQ => ?_ | refine opsA rfl rfl rfl rfl (nrmA ?_) | refine opsW_skip rfl (nrmA ?_) | (refine opsW_nil ⟨by kernel_rfl, hKQ _ _ _ (nrmB ?_)⟩; clear hKQ KQ) | (refine opsW_nil (hKQ _ _ _ (nrmB ?_)); clear hKQ KQ) | refine condT rfl ?_ | refine condF rfl ?_ | refine WP_skip (nrmB ?_) | refine WP_ret (nrmC ?_) | refine WP_exit (nrmC ?_))
    refine WP_loop (WPL_weaken ?_ (WPL_rec (α := Int × Int) (fun k x => nat_Valid.l0 k l x.1 x.2) r (fun x => (mkE 37 [(0, .p (N l)), (8, .p (I x.1)), (9, .p (I x.2))], [], 0)) ?_ k (_, _) h))
    · exact wkA
    · clear h; try clear k
      intro k ⟨x1, x2⟩ K ih h
      simp only [mkE, List.replicate, List.foldl, List.set]
      cases k with
      | zero => simp [nat_Valid.l0] at h
      | succ k =>
        simp only [nat_Valid.l0] at h
        repeat' (first | (simp only [if_true, if_false, Bool.false_eq_true, Bool.not_true, Bool.not_false, reduceIte] at h) | (split at h) | (rw [Option.bind_eq_some_iff] at h; obtain ⟨_, hbb, h⟩ := h; try (simp only [Option.some.injEq] at hbb; subst hbb)) | (cases h; done) | (simp only [Option.some.injEq, Prod.mk.injEq] at h; subst h) | (simp only [Option.some.injEq, Prod.mk.injEq] at h; (have h1 := h.1; have h2 := h.2; clear h; subst h1; first | subst h2 | (obtain ⟨h3, h4⟩ := h2; subst h3; subst h4))))
        all_goals
          repeat' (first | refine WP_seq ?_ | refine WP_block ?_ | refine regA 64 fun KQ hKQ => ?_ | refine regD 64 fun KQ hKQ => ?_ | refine opsA rfl rfl rfl rfl (nrmA ?_) | refine opsW_skip rfl (nrmA ?_) | (refine opsW_nil ⟨by kernel_rfl, hKQ _ _ _ (nrmB ?_)⟩; clear hKQ KQ) | (refine opsW_nil (hKQ _ _ _ (nrmB ?_)); clear hKQ KQ) | refine condT rfl ?_ | refine condF rfl ?_ | refine WP_skip (nrmB ?_) | refine WP_ret (nrmC ?_) | refine WP_exit (nrmC ?_))
          first
          | exact endA
          | (refine ih _ _ _ _ (_, _) (Nat.lt_succ_self _) h ?_; exact wkA)
theorem nat_trimmed.snd (k : Nat) (l : List Int) (r : List Int) (h : nat_trimmed.f k l = some r) : Sound Try.prog 84 [N l] (N r) := by
  refine Sound.of_WP tok Try.func84 rfl rfl ?_; simp only [Try.f84, args0, List.map, List.length_cons, List.length_nil, Nat.reduceAdd, Nat.reduceSub, List.replicate, List.cons_append, List.nil_append]
  unfold nat_trimmed.f at h
  repeat' (first | refine WP_seq ?_ | refine WP_block ?_ | refine regA 64 fun KQ hKQ => ?_ | refine regD 64 fun KQ hKQ => ?_ | refine opsA rfl rfl rfl rfl (nrmA ?_) | refine opsW_skip rfl (nrmA ?_) | (refine opsW_nil ⟨by kernel_rfl, hKQ _ _ _ (nrmB ?_)⟩; clear hKQ KQ) | (refine opsW_nil (hKQ _ _ _ (nrmB ?_)); clear hKQ KQ) | refine condT rfl ?_ | refine condF rfl ?_ | refine WP_skip (nrmB ?_) | refine WP_ret (nrmC ?_) | refine WP_exit (nrmC ?_))
  refine WP_loop (WPL_weaken ?_ (WPL_rec (α := Int) (fun k x => nat_trimmed.l0 k l x) r (fun x => (mkE 21 [(0, .p (N l)), (3, .p (I x))], [], 0)) ?_ k _ h))
  · exact wkA
  · clear h; try clear k
    intro k x K ih h
    simp only [mkE, List.replicate, List.foldl, List.set]
    cases k with
    | zero => simp [nat_trimmed.l0] at h
    | succ k =>
      simp only [nat_trimmed.l0] at h
      repeat' (first | (simp only [if_true, if_false, Bool.false_eq_true, Bool.not_true, Bool.not_false, reduceIte] at h) | (split at h) | (rw [Option.bind_eq_some_iff] at h; obtain ⟨_, hbb, h⟩ := h; try (simp only [Option.some.injEq] at hbb; subst hbb)) | (cases h; done) | (simp only [Option.some.injEq, Prod.mk.injEq] at h; subst h) | (simp only [Option.some.injEq, Prod.mk.injEq] at h; (have h1 := h.1; have h2 := h.2; clear h; subst h1; first | subst h2 | (obtain ⟨h3, h4⟩ := h2; subst h3; subst h4))))
      all_goals
        repeat' (first | refine WP_seq ?_ | refine WP_block ?_ | refine regA 64 fun KQ hKQ => ?_ | refine regD 64 fun KQ hKQ => ?_ | refine opsA rfl rfl rfl rfl (nrmA ?_) | refine opsW_skip rfl (nrmA ?_) | (refine opsW_nil ⟨by kernel_rfl, hKQ _ _ _ (nrmB ?_)⟩; clear hKQ KQ) | (refine opsW_nil (hKQ _ _ _ (nrmB ?_)); clear hKQ KQ) | refine condT rfl ?_ | refine condF rfl ?_ | refine WP_skip (nrmB ?_) | refine WP_ret (nrmC ?_) | refine WP_exit (nrmC ?_))
        first
        | exact endA
        | (refine ih _ _ _ _ _ (Nat.lt_succ_self _) h ?_; exact wkA)
theorem nat_fitted.snd (k : Nat) (l : List Int) (r : List Int) (e : Int) (h : nat_fitted.f k l = some (r, e)) : Sound Try.prog 93 [N l] (.tup [N r, I e]) := by
  refine Sound.of_WP tok Try.func93 rfl rfl ?_; simp only [Try.f93, args0, List.map, List.length_cons, List.length_nil, Nat.reduceAdd, Nat.reduceSub, List.replicate, List.cons_append, List.nil_append]
  unfold nat_fitted.f at h
  repeat' (first | (simp only [if_true, if_false, Bool.false_eq_true, Bool.not_true, Bool.not_false, reduceIte] at h) | (split at h) | (rw [Option.bind_eq_some_iff] at h; obtain ⟨_, hbb, h⟩ := h; try (simp only [Option.some.injEq] at hbb; subst hbb)) | (cases h; done) | (simp only [Option.some.injEq, Prod.mk.injEq] at h; subst h) | (simp only [Option.some.injEq, Prod.mk.injEq] at h; (have h1 := h.1; have h2 := h.2; clear h; subst h1; first | subst h2 | (obtain ⟨h3, h4⟩ := h2; subst h3; subst h4))))
  all_goals
    repeat' (first | refine WP_seq ?_ | refine WP_block ?_ | refine regA 64 fun KQ hKQ => ?_ | refine regD 64 fun KQ hKQ => ?_ | refine opsA rfl rfl rfl rfl (nrmA ?_) | refine callA rfl rfl rfl (nrmA ?_) (hs := nat_trimmed.snd _ _ _ (by first | assumption | omega | rfl | (simp; omega))) | refine opsW_skip rfl (nrmA ?_) | (refine opsW_nil ⟨by kernel_rfl, hKQ _ _ _ (nrmB ?_)⟩; clear hKQ KQ) | (refine opsW_nil (hKQ _ _ _ (nrmB ?_)); clear hKQ KQ) | refine condT rfl ?_ | refine condF rfl ?_ | refine WP_skip (nrmB ?_) | refine WP_ret (nrmC ?_) | refine WP_exit (nrmC ?_))
    exact endA
theorem nat_compare.snd (k : Nat) (a b : List Int) (r : Int) (h : nat_compare.f k a b = some r) : Sound Try.prog 90 [N a, N b] (I r) := by
  refine Sound.of_WP tok Try.func90 rfl rfl ?_; simp only [Try.f90, args0, List.map, List.length_cons, List.length_nil, Nat.reduceAdd, Nat.reduceSub, List.replicate, List.cons_append, List.nil_append]
  unfold nat_compare.f at h
  split at h
  · repeat' (first | refine WP_seq ?_ | refine WP_block ?_ | refine regA 64 fun KQ hKQ => ?_ | refine regD 64 fun KQ hKQ => ?_ | refine opsA rfl rfl rfl rfl (nrmA ?_) | refine opsW_skip rfl (nrmA ?_) | (refine opsW_nil ⟨by kernel_rfl, hKQ _ _ _ (nrmB ?_)⟩; clear hKQ KQ) | (refine opsW_nil (hKQ _ _ _ (nrmB ?_)); clear hKQ KQ) | refine condT rfl ?_ | refine condF rfl ?_ | refine WP_skip (nrmB ?_) | refine WP_ret (nrmC ?_) | refine WP_exit (nrmC ?_))
    refine WP_loop (WPL_weaken ?_ (WPL_rec (α := Int) (fun k x => nat_compare.l0 k a b x) r (fun x => (mkE 41 [(0, .p (N a)), (1, .p (N b)), (5, .p (I x))], [], 0)) ?_ k _ h))
    · exact wkA
    · clear h; try clear k
      intro k x K ih h
      simp only [mkE, List.replicate, List.foldl, List.set]
      cases k with
      | zero => simp [nat_compare.l0] at h
      | succ k =>
        simp only [nat_compare.l0] at h
        repeat' (first | (simp only [if_true, if_false, Bool.false_eq_true, Bool.not_true, Bool.not_false, reduceIte] at h) | (split at h) | (rw [Option.bind_eq_some_iff] at h; obtain ⟨_, hbb, h⟩ := h; try (simp only [Option.some.injEq] at hbb; subst hbb)) | (cases h; done) | (simp only [Option.some.injEq, Prod.mk.injEq] at h; subst h) | (simp only [Option.some.injEq, Prod.mk.injEq] at h; (have h1 := h.1; have h2 := h.2; clear h; subst h1; first | subst h2 | (obtain ⟨h3, h4⟩ := h2; subst h3; subst h4))))
        all_goals
          repeat' (first | refine WP_seq ?_ | refine WP_block ?_ | refine regA 64 fun KQ hKQ => ?_ | refine regD 64 fun KQ hKQ => ?_ | refine opsA rfl rfl rfl rfl (nrmA ?_) | refine opsW_skip rfl (nrmA ?_) | (refine opsW_nil ⟨by kernel_rfl, hKQ _ _ _ (nrmB ?_)⟩; clear hKQ KQ) | (refine opsW_nil (hKQ _ _ _ (nrmB ?_)); clear hKQ KQ) | refine condT rfl ?_ | refine condF rfl ?_ | refine WP_skip (nrmB ?_) | refine WP_ret (nrmC ?_) | refine WP_exit (nrmC ?_))
          first
          | exact endA
          | (refine ih _ _ _ _ _ (Nat.lt_succ_self _) h ?_; exact wkA)
  · repeat' (first | (simp only [if_true, if_false, Bool.false_eq_true, Bool.not_true, Bool.not_false, reduceIte] at h) | (split at h) | (rw [Option.bind_eq_some_iff] at h; obtain ⟨_, hbb, h⟩ := h; try (simp only [Option.some.injEq] at hbb; subst hbb)) | (cases h; done) | (simp only [Option.some.injEq, Prod.mk.injEq] at h; subst h) | (simp only [Option.some.injEq, Prod.mk.injEq] at h; (have h1 := h.1; have h2 := h.2; clear h; subst h1; first | subst h2 | (obtain ⟨h3, h4⟩ := h2; subst h3; subst h4))))
    all_goals
      repeat' (first | refine WP_seq ?_ | refine WP_block ?_ | refine regA 64 fun KQ hKQ => ?_ | refine regD 64 fun KQ hKQ => ?_ | refine opsA rfl rfl rfl rfl (nrmA ?_) | refine opsW_skip rfl (nrmA ?_) | (refine opsW_nil ⟨by kernel_rfl, hKQ _ _ _ (nrmB ?_)⟩; clear hKQ KQ) | (refine opsW_nil (hKQ _ _ _ (nrmB ?_)); clear hKQ KQ) | refine condT rfl ?_ | refine condF rfl ?_ | refine WP_skip (nrmB ?_) | refine WP_ret (nrmC ?_) | refine WP_exit (nrmC ?_))
      exact endA
theorem nat_small.snd (k : Nat) (l : List Int) (r : Int) (h : nat_small.f k l = some r) : Sound Try.prog 86 [N l] (I r) := by
  refine Sound.of_WP tok Try.func86 rfl rfl ?_; simp only [Try.f86, args0, List.map, List.length_cons, List.length_nil, Nat.reduceAdd, Nat.reduceSub, List.replicate, List.cons_append, List.nil_append]
  unfold nat_small.f at h
  repeat' (first | refine WP_seq ?_ | refine WP_block ?_ | refine regA 64 fun KQ hKQ => ?_ | refine regD 64 fun KQ hKQ => ?_ | refine opsA rfl rfl rfl rfl (nrmA ?_) | refine opsW_skip rfl (nrmA ?_) | (refine opsW_nil ⟨by kernel_rfl, hKQ _ _ _ (nrmB ?_)⟩; clear hKQ KQ) | (refine opsW_nil (hKQ _ _ _ (nrmB ?_)); clear hKQ KQ) | refine condT rfl ?_ | refine condF rfl ?_ | refine WP_skip (nrmB ?_) | refine WP_ret (nrmC ?_) | refine WP_exit (nrmC ?_))
  refine WP_loop (WPL_weaken ?_ (WPL_rec (α := Int × Int) (fun k x => nat_small.l0 k l x.1 x.2) r (fun x => (mkE 20 [(0, .p (N l)), (3, .p (I x.1)), (4, .p (I x.2))], [], 0)) ?_ k (_, _) h))
  · exact wkA
  · clear h; try clear k
    intro k ⟨x1, x2⟩ K ih h
    simp only [mkE, List.replicate, List.foldl, List.set]
    cases k with
    | zero => simp [nat_small.l0] at h
    | succ k =>
      simp only [nat_small.l0] at h
      repeat' (first | (simp only [if_true, if_false, Bool.false_eq_true, Bool.not_true, Bool.not_false, reduceIte] at h) | (split at h) | (rw [Option.bind_eq_some_iff] at h; obtain ⟨_, hbb, h⟩ := h; try (simp only [Option.some.injEq] at hbb; subst hbb)) | (cases h; done) | (simp only [Option.some.injEq, Prod.mk.injEq] at h; subst h) | (simp only [Option.some.injEq, Prod.mk.injEq] at h; (have h1 := h.1; have h2 := h.2; clear h; subst h1; first | subst h2 | (obtain ⟨h3, h4⟩ := h2; subst h3; subst h4))))
      all_goals
        repeat' (first | refine WP_seq ?_ | refine WP_block ?_ | refine regA 64 fun KQ hKQ => ?_ | refine regD 64 fun KQ hKQ => ?_ | refine opsA rfl rfl rfl rfl (nrmA ?_) | refine opsW_skip rfl (nrmA ?_) | (refine opsW_nil ⟨by kernel_rfl, hKQ _ _ _ (nrmB ?_)⟩; clear hKQ KQ) | (refine opsW_nil (hKQ _ _ _ (nrmB ?_)); clear hKQ KQ) | refine condT rfl ?_ | refine condF rfl ?_ | refine WP_skip (nrmB ?_) | refine WP_ret (nrmC ?_) | refine WP_exit (nrmC ?_))
        first
        | exact endA
        | (refine ih _ _ _ _ (_, _) (Nat.lt_succ_self _) h ?_; exact wkA)
theorem nat_Cmp.snd (k : Nat) (a b : List Int) (r e : Int) (h : nat_Cmp.f k a b = some (r, e)) : Sound Try.prog 65 [N a, N b] (.tup [I r, I e]) := by
  refine Sound.of_WP tok Try.func65 rfl rfl ?_; simp only [Try.f65, args0, List.map, List.length_cons, List.length_nil, Nat.reduceAdd, Nat.reduceSub, List.replicate, List.cons_append, List.nil_append]
  unfold nat_Cmp.f at h
  repeat' (first | (simp only [if_true, if_false, Bool.false_eq_true, Bool.not_true, Bool.not_false, reduceIte] at h) | (split at h) | (rw [Option.bind_eq_some_iff] at h; obtain ⟨_, hbb, h⟩ := h; try (simp only [Option.some.injEq] at hbb; subst hbb)) | (cases h; done) | (simp only [Option.some.injEq, Prod.mk.injEq] at h; subst h) | (simp only [Option.some.injEq, Prod.mk.injEq] at h; (have h1 := h.1; have h2 := h.2; clear h; subst h1; first | subst h2 | (obtain ⟨h3, h4⟩ := h2; subst h3; subst h4))))
  all_goals
    repeat' (first | refine WP_seq ?_ | refine WP_block ?_ | refine regA 64 fun KQ hKQ => ?_ | refine regD 64 fun KQ hKQ => ?_ | refine opsA rfl rfl rfl rfl (nrmA ?_) | refine callA rfl rfl rfl (nrmA ?_) (hs := nat_Valid.snd _ _ _ (by first | assumption | omega | rfl | (simp; omega))) | refine callA rfl rfl rfl (nrmA ?_) (hs := nat_compare.snd _ _ _ _ (by first | assumption | omega | rfl | (simp; omega))) | refine opsW_skip rfl (nrmA ?_) | (refine opsW_nil ⟨by kernel_rfl, hKQ _ _ _ (nrmB ?_)⟩; clear hKQ KQ) | (refine opsW_nil (hKQ _ _ _ (nrmB ?_)); clear hKQ KQ) | refine condT rfl ?_ | refine condF rfl ?_ | refine WP_skip (nrmB ?_) | refine WP_ret (nrmC ?_) | refine WP_exit (nrmC ?_))
    exact endA
theorem nat_Of.snd (k : Nat) (n : Int) (r : List Int) (e : Int) (h : nat_Of.f k n = some (r, e)) : Sound Try.prog 87 [I n] (.tup [N r, I e]) := by
  refine Sound.of_WP tok Try.func87 rfl rfl ?_; simp only [Try.f87, args0, List.map, List.length_cons, List.length_nil, Nat.reduceAdd, Nat.reduceSub, List.replicate, List.cons_append, List.nil_append]
  unfold nat_Of.f at h
  split at h
  · repeat' (first | (simp only [if_true, if_false, Bool.false_eq_true, Bool.not_true, Bool.not_false, reduceIte] at h) | (split at h) | (rw [Option.bind_eq_some_iff] at h; obtain ⟨_, hbb, h⟩ := h; try (simp only [Option.some.injEq] at hbb; subst hbb)) | (cases h; done) | (simp only [Option.some.injEq, Prod.mk.injEq] at h; subst h) | (simp only [Option.some.injEq, Prod.mk.injEq] at h; (have h1 := h.1; have h2 := h.2; clear h; subst h1; first | subst h2 | (obtain ⟨h3, h4⟩ := h2; subst h3; subst h4))))
    repeat' (first | refine WP_seq ?_ | refine WP_block ?_ | refine regA 64 fun KQ hKQ => ?_ | refine regD 64 fun KQ hKQ => ?_ | refine opsA rfl rfl rfl rfl (nrmA ?_) | refine opsW_skip rfl (nrmA ?_) | (refine opsW_nil ⟨by kernel_rfl, hKQ _ _ _ (nrmB ?_)⟩; clear hKQ KQ) | (refine opsW_nil (hKQ _ _ _ (nrmB ?_)); clear hKQ KQ) | refine condT rfl ?_ | refine condF rfl ?_ | refine WP_skip (nrmB ?_) | refine WP_ret (nrmC ?_) | refine WP_exit (nrmC ?_))
    exact endA
  · repeat' (first | refine WP_seq ?_ | refine WP_block ?_ | refine regA 64 fun KQ hKQ => ?_ | refine regD 64 fun KQ hKQ => ?_ | refine opsA rfl rfl rfl rfl (nrmA ?_) | refine opsW_skip rfl (nrmA ?_) | (refine opsW_nil ⟨by kernel_rfl, hKQ _ _ _ (nrmB ?_)⟩; clear hKQ KQ) | (refine opsW_nil (hKQ _ _ _ (nrmB ?_)); clear hKQ KQ) | refine condT rfl ?_ | refine condF rfl ?_ | refine WP_skip (nrmB ?_) | refine WP_ret (nrmC ?_) | refine WP_exit (nrmC ?_))
    refine WP_loop (WPL_weaken ?_ (WPL_rec (α := Int × List Int) (fun k x => nat_Of.l0 k x.1 x.2) (r, e) (fun x => (mkE 17 [(0, .p (I x.1)), (4, .sl 0 0 x.2.length 1)], [(0, .pc 3 (x.2.map I))], 1)) ?_ k (_, _) h))
    · exact wkA
    · clear h; try clear k
      intro k ⟨x1, x2⟩ K ih h
      simp only [mkE, List.replicate, List.foldl, List.set]
      cases k with
      | zero => simp [nat_Of.l0] at h
      | succ k =>
        simp only [nat_Of.l0] at h
        repeat' (first | (simp only [if_true, if_false, Bool.false_eq_true, Bool.not_true, Bool.not_false, reduceIte] at h) | (split at h) | (rw [Option.bind_eq_some_iff] at h; obtain ⟨_, hbb, h⟩ := h; try (simp only [Option.some.injEq] at hbb; subst hbb)) | (cases h; done) | (simp only [Option.some.injEq, Prod.mk.injEq] at h; subst h) | (simp only [Option.some.injEq, Prod.mk.injEq] at h; (have h1 := h.1; have h2 := h.2; clear h; subst h1; first | subst h2 | (obtain ⟨h3, h4⟩ := h2; subst h3; subst h4))))
        all_goals
          repeat' (first | refine WP_seq ?_ | refine WP_block ?_ | refine regA 64 fun KQ hKQ => ?_ | refine regD 64 fun KQ hKQ => ?_ | refine opsA rfl rfl rfl rfl (nrmA ?_) | refine opsW_skip rfl (nrmA ?_) | (refine opsW_nil ⟨by kernel_rfl, hKQ _ _ _ (nrmB ?_)⟩; clear hKQ KQ) | (refine opsW_nil (hKQ _ _ _ (nrmB ?_)); clear hKQ KQ) | refine condT rfl ?_ | refine condF rfl ?_ | refine WP_skip (nrmB ?_) | refine WP_ret (nrmC ?_) | refine WP_exit (nrmC ?_))
          first
          | exact endA
          | (refine ih _ _ _ _ (_, _) (Nat.lt_succ_self _) h ?_; exact wkA)
end Go.Proofs.Ytiondkijgpjgcaa.Pw
namespace Go.Proofs.Ytiondkijgpjgcaa.Pw
open Go Wd Px
set_option linter.unusedVariables false
set_option linter.unusedSimpArgs false
set_option maxRecDepth 100000
attribute [local irreducible] Int.tmod Int.tdiv
set_option maxHeartbeats 8000000
theorem fin_one {j el n n' : Nat} {cs cs' : List PV} (h1 : n = n') (h2 : cs = cs') : AV.sl j 0 n 1 = AV.sl j 0 n' 1 ∧ ∀ b k, upds (get []) [(j, some (.pc el cs'))] b = some k → get [(j, .pc el cs)] b = some k := by
  subst h1; subst h2
  refine ⟨rfl, fun b k hk => ?_⟩
  simp only [upds, upd1, get] at hk ⊢
  by_cases e : b = j
  · subst e; simpa using hk
  · rw [if_neg e] at hk; cases hk
theorem over_pad (l : List Int) (n : Int) (m : Nat) (hm : m = max n.toNat l.length) (x : PV) (hx : x = I 0) : List.map I (l.take (min l.length m)) ++ List.drop (l.take (min l.length m)).length (List.replicate m x) = List.map I (l ++ List.replicate (n.toNat - l.length) 0) := by
  subst hx
  have h1 : min l.length m = l.length := by omega
  rw [h1, List.take_length]
  simp [List.drop_replicate]
  omega
theorem over_pad' (l : List Int) (n : Int) (m : Nat) (hm : m = max n.toNat l.length) : List.map I (l.take (min l.length m)) ++ List.map I (List.drop (l.take (min l.length m)).length (List.replicate m 0)) = List.map I (l ++ List.replicate (n.toNat - l.length) 0) := by
  rw [← over_pad l n m hm (I 0) rfl]
  simp
theorem nat_padded.own0 (l : List Int) (n : Int) (r : List Int) (h : nat_padded.f l n = some r) : SoundE Try.prog 64 85 ([N l, I n].map .p) (get []) 0 ⟨.sl 5 0 r.length 1, [(5, some (.pc 3 (r.map I)))], []⟩ := by
  refine SoundE.of_WP tok Try.func85 rfl rfl [] (fun b k hk => by cases hk) rfl (fun x hx => by simp at hx; subst hx; simp) ?_
  simp only [Try.f85, args0, List.map, List.length_cons, List.length_nil, Nat.reduceAdd, Nat.reduceSub, List.replicate, List.cons_append, List.nil_append]
  unfold nat_padded.f at h
  have hm : mx n (l.length : Int) = ((max n.toNat l.length : Nat) : Int) := by unfold mx; split <;> omega
  rw [hm] at h
  repeat' (first | (simp only [if_true, if_false, Bool.false_eq_true, Bool.not_true, Bool.not_false, reduceIte] at h) | (split at h) | (rw [Option.bind_eq_some_iff] at h; obtain ⟨_, hbb, h⟩ := h; try (simp only [Option.some.injEq] at hbb; subst hbb)) | (cases h; done) | (simp only [Option.some.injEq, Prod.mk.injEq] at h; subst h) | (simp only [Option.some.injEq, Prod.mk.injEq] at h; (have h1 := h.1; have h2 := h.2; clear h; subst h1; first | subst h2 | (obtain ⟨h3, h4⟩ := h2; subst h3; subst h4))))
  all_goals
    repeat' (first | refine WP_seq ?_ | refine WP_block ?_ | refine regA 1 fun KQ hKQ => ?_ | refine regD 1 fun KQ hKQ => ?_ | refine opsA rfl rfl rfl rfl (nrmA ?_) | refine opsW_skip rfl (nrmA ?_) | (refine opsW_nil ⟨by kernel_rfl, hKQ _ _ _ (nrmB ?_)⟩; clear hKQ KQ) | (refine opsW_nil (hKQ _ _ _ (nrmB ?_)); clear hKQ KQ) | refine condT rfl ?_ | refine condF rfl ?_ | refine WP_skip (nrmB ?_) | refine WP_ret (nrmC ?_) | refine WP_exit (nrmC ?_))
    refine ⟨by decide, ?_⟩
    simp only [Res, resAll, resOne, pack, Option.bind, Option.map, List.getD_cons_succ, List.getD_cons_zero, true_and, and_self, and_true]
    exact fin_one (by simp; omega) (by first | exact over_pad l n _ (by omega) _ rfl | exact over_pad' l n _ (by omega))
theorem nat_padded.own (l : List Int) (n : Int) (r : List Int) (h : nat_padded.f l n = some r) {σ : Store} {new : Nat} : SoundE Try.prog 64 85 [.p (N l), .p (I n)] σ new ⟨.sl (new + 5) 0 r.length 1, [(new + 5, some (.pc 3 (r.map I)))], []⟩ :=
  SoundE.fresh ⟨_, _, rfl⟩ (by decide) (nat_padded.own0 l n r h) σ new
theorem nat_padded.snd (l : List Int) (n : Int) (r : List Int) (h : nat_padded.f l n = some r) : Sound Try.prog 85 [N l, I n] (N r) := by
  refine Sound.of_WP tok Try.func85 rfl rfl ?_; simp only [Try.f85, args0, List.map, List.length_cons, List.length_nil, Nat.reduceAdd, Nat.reduceSub, List.replicate, List.cons_append, List.nil_append]
  unfold nat_padded.f at h
  have hm : mx n (l.length : Int) = ((max n.toNat l.length : Nat) : Int) := by unfold mx; split <;> omega
  rw [hm] at h
  repeat' (first | (simp only [if_true, if_false, Bool.false_eq_true, Bool.not_true, Bool.not_false, reduceIte] at h) | (split at h) | (rw [Option.bind_eq_some_iff] at h; obtain ⟨_, hbb, h⟩ := h; try (simp only [Option.some.injEq] at hbb; subst hbb)) | (cases h; done) | (simp only [Option.some.injEq, Prod.mk.injEq] at h; subst h) | (simp only [Option.some.injEq, Prod.mk.injEq] at h; (have h1 := h.1; have h2 := h.2; clear h; subst h1; first | subst h2 | (obtain ⟨h3, h4⟩ := h2; subst h3; subst h4))))
  all_goals
    repeat' (first | refine WP_seq ?_ | refine WP_block ?_ | refine regA 64 fun KQ hKQ => ?_ | refine regD 64 fun KQ hKQ => ?_ | refine opsA rfl rfl rfl rfl (nrmA ?_) | refine opsW_skip rfl (nrmA ?_) | (refine opsW_nil ⟨by kernel_rfl, hKQ _ _ _ (nrmB ?_)⟩; clear hKQ KQ) | (refine opsW_nil (hKQ _ _ _ (nrmB ?_)); clear hKQ KQ) | refine condT rfl ?_ | refine condF rfl ?_ | refine WP_skip (nrmB ?_) | refine WP_ret (nrmC ?_) | refine WP_exit (nrmC ?_))
    simp only [List.take_take, Nat.min_self, List.nil_append, Int.toNat_natCast, take_set_len, get, dropI, takeI, List.drop_zero, List.take_length, Nat.mul_one, Nat.reduceBEq, cond_true, cond_false, beq_self_eq_true, Option.map_some, Option.bind_some, Res, resAll, resOne, Fin, pack, frz, frzs, nrm1, nrm, Option.bind, Option.map, List.getD_cons_succ, List.getD_cons_zero, List.map, true_and, and_self, and_true]
    refine ⟨_, Option.some_inj.2 (Prod.ext ?_ rfl)⟩
    simp only [N, PV.lst.injEq]
    refine ⟨by simp; omega, ?_⟩
    first
    | (rw [over_pad l n _ ?_ _ rfl, List.take_of_length_le (by simp; omega)]; omega)
    | (rw [over_pad' l n _ ?_, List.take_of_length_le (by simp; omega)]; omega)
theorem nat_Add.snd (k : Nat) (a b : List Int) (r : List Int) (e : Int) (h : nat_Add.f k a b = some (r, e)) : Sound Try.prog 71 [N a, N b] (.tup [N r, I e]) := by
  refine Sound.of_WP tok Try.func71 rfl rfl ?_; simp only [Try.f71, args0, List.map, List.length_cons, List.length_nil, Nat.reduceAdd, Nat.reduceSub, List.replicate, List.cons_append, List.nil_append]
  unfold nat_Add.f at h
  repeat' (first | (simp only [if_true, if_false, Bool.false_eq_true, Bool.not_true, Bool.not_false, reduceIte] at h) | (split at h) | (rw [Option.bind_eq_some_iff] at h; obtain ⟨_, hbb, h⟩ := h; try (simp only [Option.some.injEq] at hbb; subst hbb)) | (cases h; done) | (simp only [Option.some.injEq, Prod.mk.injEq] at h; subst h) | (simp only [Option.some.injEq, Prod.mk.injEq] at h; (have h1 := h.1; have h2 := h.2; clear h; subst h1; first | subst h2 | (obtain ⟨h3, h4⟩ := h2; subst h3; subst h4))))
  all_goals (cases k with | zero => simp [nat_Add.j0] at h | succ k => ?_)
  all_goals
    simp only [nat_Add.j0] at h
    repeat' (first | (simp only [if_true, if_false, Bool.false_eq_true, Bool.not_true, Bool.not_false, reduceIte] at h) | (split at h) | (rw [Option.bind_eq_some_iff] at h; obtain ⟨_, hbb, h⟩ := h; try (simp only [Option.some.injEq] at hbb; subst hbb)) | (cases h; done) | (simp only [Option.some.injEq, Prod.mk.injEq] at h; subst h) | (simp only [Option.some.injEq, Prod.mk.injEq] at h; (have h1 := h.1; have h2 := h.2; clear h; subst h1; first | subst h2 | (obtain ⟨h3, h4⟩ := h2; subst h3; subst h4))))
  all_goals
    repeat' (first | refine WP_seq ?_ | refine WP_block ?_ | refine regA 64 fun KQ hKQ => ?_ | refine regD 64 fun KQ hKQ => ?_ | refine opsA rfl rfl rfl rfl (nrmA ?_) | refine callA rfl rfl rfl (nrmA ?_) (hs := nat_Valid.snd _ _ _ (by first | assumption | omega | rfl | (simp; omega))) | refine callE rfl rfl rfl (nrmA ?_) (hs := nat_padded.own _ _ _ (by first | assumption | omega | rfl | (simp; omega))) | refine opsW_skip rfl (nrmA ?_) | (refine opsW_nil ⟨by kernel_rfl, hKQ _ _ _ (nrmB ?_)⟩; clear hKQ KQ) | (refine opsW_nil (hKQ _ _ _ (nrmB ?_)); clear hKQ KQ) | refine condT rfl ?_ | refine condF rfl ?_ | refine WP_skip (nrmB ?_) | refine WP_ret (nrmC ?_) | refine WP_exit (nrmC ?_))
    first
    | exact endA
    | (refine WP_loop (WPL_weaken ?_ (WPL_rec (α := List Int × Int × Int × Int) (fun k x => nat_Add.l0 k b x.1 x.2.1 x.2.2.1 x.2.2.2) (r, e) (fun x => (mkE 59 [(1, .p (N b)), (6, .sl 0 0 x.1.length 1), (7, .p (I x.2.1)), (27, .p (I x.2.2.1)), (28, .p (I x.2.2.2))], [(0, .pc 3 (x.1.map I))], 1)) ?_ k (_, _, _, _) h)); · exact wkA)
    | skip
  · clear h; try clear k
    intro k ⟨x1, x2, x3, x4⟩ K ih h
    simp only [mkE, List.replicate, List.foldl, List.set]
    cases k with
    | zero => simp [nat_Add.l0] at h
    | succ k =>
      simp only [nat_Add.l0] at h
      repeat' (first | (simp only [if_true, if_false, Bool.false_eq_true, Bool.not_true, Bool.not_false, reduceIte] at h) | (split at h) | (rw [Option.bind_eq_some_iff] at h; obtain ⟨_, hbb, h⟩ := h; try (simp only [Option.some.injEq] at hbb; subst hbb)) | (cases h; done) | (simp only [Option.some.injEq, Prod.mk.injEq] at h; subst h) | (simp only [Option.some.injEq, Prod.mk.injEq] at h; (have h1 := h.1; have h2 := h.2; clear h; subst h1; first | subst h2 | (obtain ⟨h3, h4⟩ := h2; subst h3; subst h4))))
      all_goals
        repeat' (first | refine WP_seq ?_ | refine WP_block ?_ | refine regA 64 fun KQ hKQ => ?_ | refine regD 64 fun KQ hKQ => ?_ | refine opsA rfl rfl rfl rfl (nrmA ?_) | refine callA rfl rfl rfl (nrmA ?_) (hs := nat_fitted.snd _ _ _ _ (by first | assumption | omega | rfl | (simp; omega))) | refine opsW_skip rfl (nrmA ?_) | (refine opsW_nil ⟨by kernel_rfl, hKQ _ _ _ (nrmB ?_)⟩; clear hKQ KQ) | (refine opsW_nil (hKQ _ _ _ (nrmB ?_)); clear hKQ KQ) | refine condT rfl ?_ | refine condF rfl ?_ | refine WP_skip (nrmB ?_) | refine WP_ret (nrmC ?_) | refine WP_exit (nrmC ?_))
        first
        | exact endA
        | (refine ih _ _ _ _ (_, _, _, _) (Nat.lt_succ_self _) h ?_; exact wkA)
end Go.Proofs.Ytiondkijgpjgcaa.Pw
namespace Go.Proofs.Ytiondkijgpjgcaa.Pw
open Go Wd Px
set_option linter.unusedVariables false
set_option linter.unusedSimpArgs false
set_option maxRecDepth 100000
attribute [local irreducible] Int.tmod Int.tdiv
set_option maxHeartbeats 8000000
theorem nat_Sub.snd (k : Nat) (a b : List Int) (r : List Int) (e : Int) (h : nat_Sub.f k a b = some (r, e)) : Sound Try.prog 72 [N a, N b] (.tup [N r, I e]) := by
  refine Sound.of_WP tok Try.func72 rfl rfl ?_; simp only [Try.f72, args0, List.map, List.length_cons, List.length_nil, Nat.reduceAdd, Nat.reduceSub, List.replicate, List.cons_append, List.nil_append]
  unfold nat_Sub.f at h
  repeat' (first | (simp only [if_true, if_false, Bool.false_eq_true, Bool.not_true, Bool.not_false, reduceIte] at h) | (split at h) | (rw [Option.bind_eq_some_iff] at h; obtain ⟨_, hbb, h⟩ := h; try (simp only [Option.some.injEq] at hbb; subst hbb)) | (cases h; done) | (simp only [Option.some.injEq, Prod.mk.injEq] at h; subst h) | (simp only [Option.some.injEq, Prod.mk.injEq] at h; (have h1 := h.1; have h2 := h.2; clear h; subst h1; first | subst h2 | (obtain ⟨h3, h4⟩ := h2; subst h3; subst h4))))
  all_goals (cases k with | zero => simp [nat_Sub.j0] at h | succ k => ?_)
  all_goals
    simp only [nat_Sub.j0] at h
    repeat' (first | (simp only [if_true, if_false, Bool.false_eq_true, Bool.not_true, Bool.not_false, reduceIte] at h) | (split at h) | (rw [Option.bind_eq_some_iff] at h; obtain ⟨_, hbb, h⟩ := h; try (simp only [Option.some.injEq] at hbb; subst hbb)) | (cases h; done) | (simp only [Option.some.injEq, Prod.mk.injEq] at h; subst h) | (simp only [Option.some.injEq, Prod.mk.injEq] at h; (have h1 := h.1; have h2 := h.2; clear h; subst h1; first | subst h2 | (obtain ⟨h3, h4⟩ := h2; subst h3; subst h4))))
  all_goals
    repeat' (first | refine WP_seq ?_ | refine WP_block ?_ | refine regA 64 fun KQ hKQ => ?_ | refine regD 64 fun KQ hKQ => ?_ | refine opsA rfl rfl rfl rfl (nrmA ?_) | refine callA rfl rfl rfl (nrmA ?_) (hs := nat_Valid.snd _ _ _ (by first | assumption | omega | rfl | (simp; omega))) | refine callA rfl rfl rfl (nrmA ?_) (hs := nat_compare.snd _ _ _ _ (by first | assumption | omega | rfl | (simp; omega))) | refine callE rfl rfl rfl (nrmA ?_) (hs := nat_padded.own _ _ _ (by first | assumption | omega | rfl | (simp; omega))) | refine opsW_skip rfl (nrmA ?_) | (refine opsW_nil ⟨by kernel_rfl, hKQ _ _ _ (nrmB ?_)⟩; clear hKQ KQ) | (refine opsW_nil (hKQ _ _ _ (nrmB ?_)); clear hKQ KQ) | refine condT rfl ?_ | refine condF rfl ?_ | refine WP_skip (nrmB ?_) | refine WP_ret (nrmC ?_) | refine WP_exit (nrmC ?_))
    first
    | exact endA
    | (refine WP_loop (WPL_weaken ?_ (WPL_rec (α := List Int × Int × Int × Int) (fun k x => nat_Sub.l0 k b x.1 x.2.1 x.2.2.1 x.2.2.2) (r, e) (fun x => (mkE 58 [(1, .p (N b)), (6, .sl 0 0 x.1.length 1), (7, .p (I x.2.1)), (27, .p (I x.2.2.1)), (28, .p (I x.2.2.2))], [(0, .pc 3 (x.1.map I))], 1)) ?_ k (_, _, _, _) h)); · exact wkA)
  · clear h; try clear k
    intro k ⟨x1, x2, x3, x4⟩ K ih h
    simp only [mkE, List.replicate, List.foldl, List.set]
    cases k with
    | zero => simp [nat_Sub.l0] at h
    | succ k =>
      simp only [nat_Sub.l0] at h
      repeat' (first | (simp only [if_true, if_false, Bool.false_eq_true, Bool.not_true, Bool.not_false, reduceIte] at h) | (split at h) | (rw [Option.bind_eq_some_iff] at h; obtain ⟨_, hbb, h⟩ := h; try (simp only [Option.some.injEq] at hbb; subst hbb)) | (cases h; done) | (simp only [Option.some.injEq, Prod.mk.injEq] at h; subst h) | (simp only [Option.some.injEq, Prod.mk.injEq] at h; (have h1 := h.1; have h2 := h.2; clear h; subst h1; first | subst h2 | (obtain ⟨h3, h4⟩ := h2; subst h3; subst h4))))
      all_goals
        repeat' (first | refine WP_seq ?_ | refine WP_block ?_ | refine regA 64 fun KQ hKQ => ?_ | refine regD 64 fun KQ hKQ => ?_ | refine opsA rfl rfl rfl rfl (nrmA ?_) | refine callA rfl rfl rfl (nrmA ?_) (hs := nat_trimmed.snd _ _ _ (by first | assumption | omega | rfl | (simp; omega))) | refine opsW_skip rfl (nrmA ?_) | (refine opsW_nil ⟨by kernel_rfl, hKQ _ _ _ (nrmB ?_)⟩; clear hKQ KQ) | (refine opsW_nil (hKQ _ _ _ (nrmB ?_)); clear hKQ KQ) | refine condT rfl ?_ | refine condF rfl ?_ | refine WP_skip (nrmB ?_) | refine WP_ret (nrmC ?_) | refine WP_exit (nrmC ?_))
        first
        | exact endA
        | (refine ih _ _ _ _ (_, _, _, _) (Nat.lt_succ_self _) h ?_; exact wkA)
theorem nat_trimmed.snd1 (k : Nat) (x : Int) (r : List Int) (h : nat_trimmed.f k [x] = some r) : Sound Try.prog 84 [.lst 1 [I x]] (N r) := nat_trimmed.snd k [x] r h
theorem nat_short.snd (k : Nat) (a : List Int) (m : Int) (r s : List Int) (h : nat_short.f k a m = some (r, s)) : Sound Try.prog 101 [N a, I m] (.tup [N r, N s]) := by
  refine Sound.of_WP tok Try.func101 rfl rfl ?_; simp only [Try.f101, args0, List.map, List.length_cons, List.length_nil, Nat.reduceAdd, Nat.reduceSub, List.replicate, List.cons_append, List.nil_append]
  unfold nat_short.f at h
  repeat' (first | (simp only [if_true, if_false, Bool.false_eq_true, Bool.not_true, Bool.not_false, reduceIte] at h) | (split at h) | (rw [Option.bind_eq_some_iff] at h; obtain ⟨_, hbb, h⟩ := h; try (simp only [Option.some.injEq] at hbb; subst hbb)) | (cases h; done) | (simp only [Option.some.injEq, Prod.mk.injEq] at h; subst h) | (simp only [Option.some.injEq, Prod.mk.injEq] at h; (have h1 := h.1; have h2 := h.2; clear h; subst h1; first | subst h2 | (obtain ⟨h3, h4⟩ := h2; subst h3; subst h4))))
  repeat' (first | refine WP_seq ?_ | refine WP_block ?_ | refine regA 64 fun KQ hKQ => ?_ | refine regD 64 fun KQ hKQ => ?_ | refine opsA rfl rfl rfl rfl (nrmA ?_) | refine opsW_skip rfl (nrmA ?_) | (refine opsW_nil ⟨by kernel_rfl, hKQ _ _ _ (nrmB ?_)⟩; clear hKQ KQ) | (refine opsW_nil (hKQ _ _ _ (nrmB ?_)); clear hKQ KQ) | refine condT rfl ?_ | refine condF rfl ?_ | refine WP_skip (nrmB ?_) | refine WP_ret (nrmC ?_) | refine WP_exit (nrmC ?_))
  refine WP_loop (WPL_weaken ?_ (WPL_rec (α := List Int × Int × Int) (fun k x => nat_short.l0 k a m x.1 x.2.1 x.2.2) (r, s) (fun x => (mkE 41 [(0, .p (N a)), (1, .p (I m)), (6, .sl 0 0 x.1.length 1), (7, .p (I x.2.1)), (8, .p (I x.2.2))], [(0, .pc 3 (x.1.map I))], 1)) ?_ k (_, _, _) h))
  · exact wkA
  · clear h; try clear k
    intro k ⟨x1, x2, x3⟩ K ih h
    simp only [mkE, List.replicate, List.foldl, List.set]
    cases k with
    | zero => simp [nat_short.l0] at h
    | succ k =>
      simp only [nat_short.l0] at h
      repeat' (first | (simp only [if_true, if_false, Bool.false_eq_true, Bool.not_true, Bool.not_false, reduceIte] at h) | (split at h) | (rw [Option.bind_eq_some_iff] at h; obtain ⟨_, hbb, h⟩ := h; try (simp only [Option.some.injEq] at hbb; subst hbb)) | (cases h; done) | (simp only [Option.some.injEq, Prod.mk.injEq] at h; subst h) | (simp only [Option.some.injEq, Prod.mk.injEq] at h; (have h1 := h.1; have h2 := h.2; clear h; subst h1; first | subst h2 | (obtain ⟨h3, h4⟩ := h2; subst h3; subst h4))))
      all_goals
        repeat' (first | refine WP_seq ?_ | refine WP_block ?_ | refine regA 64 fun KQ hKQ => ?_ | refine regD 64 fun KQ hKQ => ?_ | refine opsA rfl rfl rfl rfl (nrmA ?_) | refine callA rfl rfl rfl (nrmA ?_) (hs := nat_trimmed.snd1 _ _ _ (by first | assumption | omega | rfl | (simp; omega))) | refine callA rfl rfl rfl (nrmA ?_) (hs := nat_trimmed.snd _ _ _ (by first | assumption | omega | rfl | (simp; omega))) | refine opsW_skip rfl (nrmA ?_) | (refine opsW_nil ⟨by kernel_rfl, hKQ _ _ _ (nrmB ?_)⟩; clear hKQ KQ) | (refine opsW_nil (hKQ _ _ _ (nrmB ?_)); clear hKQ KQ) | refine condT rfl ?_ | refine condF rfl ?_ | refine WP_skip (nrmB ?_) | refine WP_ret (nrmC ?_) | refine WP_exit (nrmC ?_))
        first
        | exact endA
        | (refine ih _ _ _ _ (_, _, _) (Nat.lt_succ_self _) h ?_; exact wkA)
theorem nat_Mul.snd (k : Nat) (a b : List Int) (r : List Int) (e : Int) (h : nat_Mul.f k a b = some (r, e)) : Sound Try.prog 89 [N a, N b] (.tup [N r, I e]) := by
  refine Sound.of_WP tok Try.func89 rfl rfl ?_; simp only [Try.f89, args0, List.map, List.length_cons, List.length_nil, Nat.reduceAdd, Nat.reduceSub, List.replicate, List.cons_append, List.nil_append]
  unfold nat_Mul.f at h
  repeat' (first | (simp only [if_true, if_false, Bool.false_eq_true, Bool.not_true, Bool.not_false, reduceIte] at h) | (split at h) | (rw [Option.bind_eq_some_iff] at h; obtain ⟨_, hbb, h⟩ := h; try (simp only [Option.some.injEq] at hbb; subst hbb)) | (cases h; done) | (simp only [Option.some.injEq, Prod.mk.injEq] at h; subst h) | (simp only [Option.some.injEq, Prod.mk.injEq] at h; (have h1 := h.1; have h2 := h.2; clear h; subst h1; first | subst h2 | (obtain ⟨h3, h4⟩ := h2; subst h3; subst h4))))
  all_goals (cases k with | zero => simp [nat_Mul.j0] at h | succ k => ?_)
  all_goals
    simp only [nat_Mul.j0] at h
    repeat' (first | (simp only [if_true, if_false, Bool.false_eq_true, Bool.not_true, Bool.not_false, reduceIte] at h) | (split at h) | (rw [Option.bind_eq_some_iff] at h; obtain ⟨_, hbb, h⟩ := h; try (simp only [Option.some.injEq] at hbb; subst hbb)) | (cases h; done) | (simp only [Option.some.injEq, Prod.mk.injEq] at h; subst h) | (simp only [Option.some.injEq, Prod.mk.injEq] at h; (have h1 := h.1; have h2 := h.2; clear h; subst h1; first | subst h2 | (obtain ⟨h3, h4⟩ := h2; subst h3; subst h4))))
  all_goals
    repeat' (first | refine WP_seq ?_ | refine WP_block ?_ | refine regA 64 fun KQ hKQ => ?_ | refine regD 64 fun KQ hKQ => ?_ | refine opsA rfl rfl rfl rfl (nrmA ?_) | refine callA rfl rfl rfl (nrmA ?_) (hs := nat_Valid.snd _ _ _ (by first | assumption | omega | rfl | (simp; omega))) | refine opsW_skip rfl (nrmA ?_) | (refine opsW_nil ⟨by kernel_rfl, hKQ _ _ _ (nrmB ?_)⟩; clear hKQ KQ) | (refine opsW_nil (hKQ _ _ _ (nrmB ?_)); clear hKQ KQ) | refine condT rfl ?_ | refine condF rfl ?_ | refine WP_skip (nrmB ?_) | refine WP_ret (nrmC ?_) | refine WP_exit (nrmC ?_))
    first
    | exact endA
    | (refine WP_loop (WPL_weaken ?_ (WPL_rec (α := List Int × Int × Int) (fun k x => nat_Mul.l0 k a b x.1 x.2.1 x.2.2) (r, e) (fun x => (mkE 76 [(0, .p (N a)), (1, .p (N b)), (6, .sl 0 0 x.1.length 1), (27, .p (I x.2.1)), (28, .p (I x.2.2))], [(0, .pc 3 (x.1.map I))], 1)) ?_ k (_, _, _) h)); · exact wkA)
  · clear h; try clear k
    intro k ⟨x1, x2, x3⟩ K ih h
    simp only [mkE, List.replicate, List.foldl, List.set]
    cases k with
    | zero => simp [nat_Mul.l0] at h
    | succ k =>
      simp only [nat_Mul.l0] at h
      split at h
      · repeat' (first | refine WP_seq ?_ | refine WP_block ?_ | refine regA 64 fun KQ hKQ => ?_ | refine regD 64 fun KQ hKQ => ?_ | refine opsA rfl rfl rfl rfl (nrmA ?_) | refine opsW_skip rfl (nrmA ?_) | (refine opsW_nil ⟨by kernel_rfl, hKQ _ _ _ (nrmB ?_)⟩; clear hKQ KQ) | (refine opsW_nil (hKQ _ _ _ (nrmB ?_)); clear hKQ KQ) | refine condT rfl ?_ | refine condF rfl ?_ | refine WP_skip (nrmB ?_) | refine WP_ret (nrmC ?_) | refine WP_exit (nrmC ?_))
        refine WP_loop (WPL_weaken ?_ (WPL_recB (α := List Int × Int × Int) (fun k x => nat_Mul.l1 k a b x.1 x3 x.2.1 x2 x3 (b.length : Int) x.2.2) (r, e) (fun x => (mkE 76 [(0, .p (N a)), (1, .p (N b)), (6, .sl 0 0 x.1.length 1), (7, .p (I x3)), (8, .p (I x.2.1)), (27, .p (I x2)), (28, .p (I x3)), (32, .p (I (b.length : Int))), (33, .p (I x.2.2))], [(0, .pc 3 (x.1.map I))], 1)) k ?_ k (_, _, _) (Nat.le_refl _) h))
        · exact wkA
        · clear h
          intro m ⟨y1, y2, y3⟩ K2 hle ih2 h
          simp only [mkE, List.replicate, List.foldl, List.set]
          cases m with
          | zero => simp [nat_Mul.l1] at h
          | succ m =>
            simp only [nat_Mul.l1] at h
            repeat' (first | (simp only [if_true, if_false, Bool.false_eq_true, Bool.not_true, Bool.not_false, reduceIte] at h) | (split at h) | (rw [Option.bind_eq_some_iff] at h; obtain ⟨_, hbb, h⟩ := h; try (simp only [Option.some.injEq] at hbb; subst hbb)) | (cases h; done) | (simp only [Option.some.injEq, Prod.mk.injEq] at h; subst h) | (simp only [Option.some.injEq, Prod.mk.injEq] at h; (have h1 := h.1; have h2 := h.2; clear h; subst h1; first | subst h2 | (obtain ⟨h3, h4⟩ := h2; subst h3; subst h4))))
            all_goals
              repeat' (first | refine WP_seq ?_ | refine WP_block ?_ | refine regA 64 fun KQ hKQ => ?_ | refine regD 64 fun KQ hKQ => ?_ | refine opsA rfl rfl rfl rfl (nrmA ?_) | refine opsW_skip rfl (nrmA ?_) | (refine opsW_nil ⟨by kernel_rfl, hKQ _ _ _ (nrmB ?_)⟩; clear hKQ KQ) | (refine opsW_nil (hKQ _ _ _ (nrmB ?_)); clear hKQ KQ) | refine condT rfl ?_ | refine condF rfl ?_ | refine WP_skip (nrmB ?_) | refine WP_ret (nrmC ?_) | refine WP_exit (nrmC ?_))
              first
              | (refine ih2 _ _ _ _ (_, _, _) (Nat.lt_succ_self _) h ?_; exact wkA)
              | (refine ih _ _ _ m (_, _, _) (by omega) h ?_; exact wkA)
      · repeat' (first | (simp only [if_true, if_false, Bool.false_eq_true, Bool.not_true, Bool.not_false, reduceIte] at h) | (split at h) | (rw [Option.bind_eq_some_iff] at h; obtain ⟨_, hbb, h⟩ := h; try (simp only [Option.some.injEq] at hbb; subst hbb)) | (cases h; done) | (simp only [Option.some.injEq, Prod.mk.injEq] at h; subst h) | (simp only [Option.some.injEq, Prod.mk.injEq] at h; (have h1 := h.1; have h2 := h.2; clear h; subst h1; first | subst h2 | (obtain ⟨h3, h4⟩ := h2; subst h3; subst h4))))
        repeat' (first | refine WP_seq ?_ | refine WP_block ?_ | refine regA 64 fun KQ hKQ => ?_ | refine regD 64 fun KQ hKQ => ?_ | refine opsA rfl rfl rfl rfl (nrmA ?_) | refine callA rfl rfl rfl (nrmA ?_) (hs := nat_fitted.snd _ _ _ _ (by first | assumption | omega | rfl | (simp; omega))) | refine opsW_skip rfl (nrmA ?_) | (refine opsW_nil ⟨by kernel_rfl, hKQ _ _ _ (nrmB ?_)⟩; clear hKQ KQ) | (refine opsW_nil (hKQ _ _ _ (nrmB ?_)); clear hKQ KQ) | refine condT rfl ?_ | refine condF rfl ?_ | refine WP_skip (nrmB ?_) | refine WP_ret (nrmC ?_) | refine WP_exit (nrmC ?_))
        exact endA
end Go.Proofs.Ytiondkijgpjgcaa.Pw
namespace Go.Proofs.Ytiondkijgpjgcaa.Pw
open Go Wd Px
set_option linter.unusedVariables false
set_option linter.unusedSimpArgs false
set_option maxRecDepth 100000
attribute [local irreducible] Int.tmod Int.tdiv
set_option maxHeartbeats 8000000
theorem nat_scaled.own0 (k : Nat) (l : List Int) (n : Int) (r : List Int) (h : nat_scaled.f k l n = some r) : SoundE Try.prog 64 105 ([N l, I n].map .p) (get []) 0 ⟨.sl 0 0 r.length 1, [(0, some (.pc 3 (r.map I)))], []⟩ := by
  refine SoundE.of_WP tok Try.func105 rfl rfl [] (fun b k hk => by cases hk) rfl (fun x hx => by simp at hx; subst hx; simp) ?_
  simp only [Try.f105, args0, List.map, List.length_cons, List.length_nil, Nat.reduceAdd, Nat.reduceSub, List.replicate, List.cons_append, List.nil_append]
  unfold nat_scaled.f at h
  repeat' (first | (simp only [if_true, if_false, Bool.false_eq_true, Bool.not_true, Bool.not_false, reduceIte] at h) | (split at h) | (rw [Option.bind_eq_some_iff] at h; obtain ⟨_, hbb, h⟩ := h; try (simp only [Option.some.injEq] at hbb; subst hbb)) | (cases h; done) | (simp only [Option.some.injEq, Prod.mk.injEq] at h; subst h) | (simp only [Option.some.injEq, Prod.mk.injEq] at h; (have h1 := h.1; have h2 := h.2; clear h; subst h1; first | subst h2 | (obtain ⟨h3, h4⟩ := h2; subst h3; subst h4))))
  repeat' (first | refine WP_seq ?_ | refine WP_block ?_ | refine regA 1 fun KQ hKQ => ?_ | refine regD 1 fun KQ hKQ => ?_ | refine opsA rfl rfl rfl rfl (nrmA ?_) | refine opsW_skip rfl (nrmA ?_) | (refine opsW_nil ⟨by kernel_rfl, hKQ _ _ _ (nrmB ?_)⟩; clear hKQ KQ) | (refine opsW_nil (hKQ _ _ _ (nrmB ?_)); clear hKQ KQ) | refine condT rfl ?_ | refine condF rfl ?_ | refine WP_skip (nrmB ?_) | refine WP_ret (nrmC ?_) | refine WP_exit (nrmC ?_))
  refine WP_loop (WPL_weaken ?_ (WPL_rec (α := List Int × Int × Int × Int) (fun k x => nat_scaled.l0 k l n x.1 x.2.1 x.2.2.1 x.2.2.2) r (fun x => (mkE 40 [(0, .p (N l)), (1, .p (I n)), (5, .sl 0 0 x.1.length 1), (6, .p (I x.2.1)), (14, .p (I x.2.2.1)), (15, .p (I x.2.2.2))], [(0, .pc 3 (x.1.map I))], 1)) ?_ k (_, _, _, _) h))
  · exact wkA
  · clear h; try clear k
    intro k ⟨x1, x2, x3, x4⟩ K ih h
    simp only [mkE, List.replicate, List.foldl, List.set]
    cases k with
    | zero => simp [nat_scaled.l0] at h
    | succ k =>
      simp only [nat_scaled.l0] at h
      repeat' (first | (simp only [if_true, if_false, Bool.false_eq_true, Bool.not_true, Bool.not_false, reduceIte] at h) | (split at h) | (rw [Option.bind_eq_some_iff] at h; obtain ⟨_, hbb, h⟩ := h; try (simp only [Option.some.injEq] at hbb; subst hbb)) | (cases h; done) | (simp only [Option.some.injEq, Prod.mk.injEq] at h; subst h) | (simp only [Option.some.injEq, Prod.mk.injEq] at h; (have h1 := h.1; have h2 := h.2; clear h; subst h1; first | subst h2 | (obtain ⟨h3, h4⟩ := h2; subst h3; subst h4))))
      all_goals
        repeat' (first | refine WP_seq ?_ | refine WP_block ?_ | refine regA 1 fun KQ hKQ => ?_ | refine regD 1 fun KQ hKQ => ?_ | refine opsA rfl rfl rfl rfl (nrmA ?_) | refine opsW_skip rfl (nrmA ?_) | (refine opsW_nil ⟨by kernel_rfl, hKQ _ _ _ (nrmB ?_)⟩; clear hKQ KQ) | (refine opsW_nil (hKQ _ _ _ (nrmB ?_)); clear hKQ KQ) | refine condT rfl ?_ | refine condF rfl ?_ | refine WP_skip (nrmB ?_) | refine WP_ret (nrmC ?_) | refine WP_exit (nrmC ?_))
        first
        | (refine ih _ _ _ _ (_, _, _, _) (Nat.lt_succ_self _) h ?_; exact wkA)
        | (refine ⟨by decide, ?_⟩; simp only [Res, resAll, resOne, pack, Option.bind, Option.map, List.getD_cons_succ, List.getD_cons_zero, true_and, and_self, and_true]; exact fin_one (by simp) rfl)
theorem nat_scaled.own (k : Nat) (l : List Int) (n : Int) (r : List Int) (h : nat_scaled.f k l n = some r) {σ : Store} {new : Nat} : SoundE Try.prog 64 105 [.p (N l), .p (I n)] σ new ⟨.sl (new + 0) 0 r.length 1, [(new + 0, some (.pc 3 (r.map I)))], []⟩ :=
  SoundE.fresh ⟨_, _, rfl⟩ (by decide) (nat_scaled.own0 k l n r h) σ new
theorem nat_scaled.snd (k : Nat) (l : List Int) (n : Int) (r : List Int) (h : nat_scaled.f k l n = some r) : Sound Try.prog 105 [N l, I n] (N r) := by
  refine Sound.of_WP tok Try.func105 rfl rfl ?_; simp only [Try.f105, args0, List.map, List.length_cons, List.length_nil, Nat.reduceAdd, Nat.reduceSub, List.replicate, List.cons_append, List.nil_append]
  unfold nat_scaled.f at h
  repeat' (first | (simp only [if_true, if_false, Bool.false_eq_true, Bool.not_true, Bool.not_false, reduceIte] at h) | (split at h) | (rw [Option.bind_eq_some_iff] at h; obtain ⟨_, hbb, h⟩ := h; try (simp only [Option.some.injEq] at hbb; subst hbb)) | (cases h; done) | (simp only [Option.some.injEq, Prod.mk.injEq] at h; subst h) | (simp only [Option.some.injEq, Prod.mk.injEq] at h; (have h1 := h.1; have h2 := h.2; clear h; subst h1; first | subst h2 | (obtain ⟨h3, h4⟩ := h2; subst h3; subst h4))))
  repeat' (first | refine WP_seq ?_ | refine WP_block ?_ | refine regA 64 fun KQ hKQ => ?_ | refine regD 64 fun KQ hKQ => ?_ | refine opsA rfl rfl rfl rfl (nrmA ?_) | refine opsW_skip rfl (nrmA ?_) | (refine opsW_nil ⟨by kernel_rfl, hKQ _ _ _ (nrmB ?_)⟩; clear hKQ KQ) | (refine opsW_nil (hKQ _ _ _ (nrmB ?_)); clear hKQ KQ) | refine condT rfl ?_ | refine condF rfl ?_ | refine WP_skip (nrmB ?_) | refine WP_ret (nrmC ?_) | refine WP_exit (nrmC ?_))
  refine WP_loop (WPL_weaken ?_ (WPL_rec (α := List Int × Int × Int × Int) (fun k x => nat_scaled.l0 k l n x.1 x.2.1 x.2.2.1 x.2.2.2) r (fun x => (mkE 40 [(0, .p (N l)), (1, .p (I n)), (5, .sl 0 0 x.1.length 1), (6, .p (I x.2.1)), (14, .p (I x.2.2.1)), (15, .p (I x.2.2.2))], [(0, .pc 3 (x.1.map I))], 1)) ?_ k (_, _, _, _) h))
  · exact wkA
  · clear h; try clear k
    intro k ⟨x1, x2, x3, x4⟩ K ih h
    simp only [mkE, List.replicate, List.foldl, List.set]
    cases k with
    | zero => simp [nat_scaled.l0] at h
    | succ k =>
      simp only [nat_scaled.l0] at h
      repeat' (first | (simp only [if_true, if_false, Bool.false_eq_true, Bool.not_true, Bool.not_false, reduceIte] at h) | (split at h) | (rw [Option.bind_eq_some_iff] at h; obtain ⟨_, hbb, h⟩ := h; try (simp only [Option.some.injEq] at hbb; subst hbb)) | (cases h; done) | (simp only [Option.some.injEq, Prod.mk.injEq] at h; subst h) | (simp only [Option.some.injEq, Prod.mk.injEq] at h; (have h1 := h.1; have h2 := h.2; clear h; subst h1; first | subst h2 | (obtain ⟨h3, h4⟩ := h2; subst h3; subst h4))))
      all_goals
        repeat' (first | refine WP_seq ?_ | refine WP_block ?_ | refine regA 64 fun KQ hKQ => ?_ | refine regD 64 fun KQ hKQ => ?_ | refine opsA rfl rfl rfl rfl (nrmA ?_) | refine opsW_skip rfl (nrmA ?_) | (refine opsW_nil ⟨by kernel_rfl, hKQ _ _ _ (nrmB ?_)⟩; clear hKQ KQ) | (refine opsW_nil (hKQ _ _ _ (nrmB ?_)); clear hKQ KQ) | refine condT rfl ?_ | refine condF rfl ?_ | refine WP_skip (nrmB ?_) | refine WP_ret (nrmC ?_) | refine WP_exit (nrmC ?_))
        first
        | exact endA
        | (refine ih _ _ _ _ (_, _, _, _) (Nat.lt_succ_self _) h ?_; exact wkA)
theorem nat_digit.snd (k : Nat) (u v : List Int) (r : Int) (h : nat_digit.f k u v = some r) : Sound Try.prog 106 [N u, N v] (I r) := by
  refine Sound.of_WP tok Try.func106 rfl rfl ?_; simp only [Try.f106, args0, List.map, List.length_cons, List.length_nil, Nat.reduceAdd, Nat.reduceSub, List.replicate, List.cons_append, List.nil_append]
  unfold nat_digit.f at h
  repeat' (first | (simp only [if_true, if_false, Bool.false_eq_true, Bool.not_true, Bool.not_false, reduceIte] at h) | (split at h) | (rw [Option.bind_eq_some_iff] at h; obtain ⟨_, hbb, h⟩ := h; try (simp only [Option.some.injEq] at hbb; subst hbb)) | (cases h; done) | (simp only [Option.some.injEq, Prod.mk.injEq] at h; subst h) | (simp only [Option.some.injEq, Prod.mk.injEq] at h; (have h1 := h.1; have h2 := h.2; clear h; subst h1; first | subst h2 | (obtain ⟨h3, h4⟩ := h2; subst h3; subst h4))))
  repeat' (first | refine WP_seq ?_ | refine WP_block ?_ | refine regA 64 fun KQ hKQ => ?_ | refine regD 64 fun KQ hKQ => ?_ | refine opsA rfl rfl rfl rfl (nrmA ?_) | refine opsW_skip rfl (nrmA ?_) | (refine opsW_nil ⟨by kernel_rfl, hKQ _ _ _ (nrmB ?_)⟩; clear hKQ KQ) | (refine opsW_nil (hKQ _ _ _ (nrmB ?_)); clear hKQ KQ) | refine condT rfl ?_ | refine condF rfl ?_ | refine WP_skip (nrmB ?_) | refine WP_ret (nrmC ?_) | refine WP_exit (nrmC ?_))
  refine WP_loop (WPL_weaken ?_ (WPL_rec (α := Int × Int × Int × Int) (fun k x => nat_digit.l0 k u v x.1 x.2.1 x.2.2.1 x.2.2.2) r (fun x => (mkE 70 [(0, .p (N u)), (1, .p (N v)), (5, .p (I x.1)), (6, .p (I x.2.1)), (8, .p (I x.2.2.1)), (9, .p (I x.2.2.2))], [], 0)) ?_ k (_, _, _, _) h))
  · exact wkA
  · clear h; try clear k
    intro k ⟨x1, x2, x3, x4⟩ K ih h
    simp only [mkE, List.replicate, List.foldl, List.set]
    cases k with
    | zero => simp [nat_digit.l0] at h
    | succ k =>
      simp only [nat_digit.l0] at h
      repeat' (first | (simp only [if_true, if_false, Bool.false_eq_true, Bool.not_true, Bool.not_false, reduceIte] at h) | (split at h) | (rw [Option.bind_eq_some_iff] at h; obtain ⟨_, hbb, h⟩ := h; try (simp only [Option.some.injEq] at hbb; subst hbb)) | (cases h; done) | (simp only [Option.some.injEq, Prod.mk.injEq] at h; subst h) | (simp only [Option.some.injEq, Prod.mk.injEq] at h; (have h1 := h.1; have h2 := h.2; clear h; subst h1; first | subst h2 | (obtain ⟨h3, h4⟩ := h2; subst h3; subst h4))))
      all_goals (cases k with | zero => simp [nat_digit.j1] at h | succ k => ?_)
      all_goals
        simp only [nat_digit.j1, decide_eq_true_eq] at h
        repeat' (first | (simp only [if_true, if_false, Bool.false_eq_true, Bool.not_true, Bool.not_false, reduceIte] at h) | (split at h) | (rw [Option.bind_eq_some_iff] at h; obtain ⟨_, hbb, h⟩ := h; try (simp only [Option.some.injEq] at hbb; subst hbb)) | (cases h; done) | (simp only [Option.some.injEq, Prod.mk.injEq] at h; subst h) | (simp only [Option.some.injEq, Prod.mk.injEq] at h; (have h1 := h.1; have h2 := h.2; clear h; subst h1; first | subst h2 | (obtain ⟨h3, h4⟩ := h2; subst h3; subst h4))))
      all_goals
        repeat' (first | refine WP_seq ?_ | refine WP_block ?_ | refine regA 64 fun KQ hKQ => ?_ | refine regD 64 fun KQ hKQ => ?_ | refine opsA rfl rfl rfl rfl (nrmA ?_) | refine opsW_skip rfl (nrmA ?_) | (refine opsW_nil ⟨by kernel_rfl, hKQ _ _ _ (nrmB ?_)⟩; clear hKQ KQ) | (refine opsW_nil (hKQ _ _ _ (nrmB ?_)); clear hKQ KQ) | refine condT rfl ?_ | refine condF rfl ?_ | refine WP_skip (nrmB ?_) | refine WP_ret (nrmC ?_) | refine WP_exit (nrmC ?_))
        first
        | exact endA
        | (refine ih _ _ _ _ (_, _, _, _) (by omega) h ?_; exact wkA)
end Go.Proofs.Ytiondkijgpjgcaa.Pw
namespace Go.Proofs.Ytiondkijgpjgcaa.Pw
open Go Wd Px
set_option linter.unusedVariables false
set_option linter.unusedSimpArgs false
set_option maxRecDepth 100000
attribute [local irreducible] Int.tmod Int.tdiv
set_option maxHeartbeats 8000000
theorem restore_len : ∀ (k : Nat) (x v : List Int) (c n i : Int) (r : List Int), nat_restore.l0 k x v c n i = some r → r.length = x.length := by
  intro k
  induction k with
  | zero => intro x v c n i r h; simp [nat_restore.l0] at h
  | succ k ih =>
    intro x v c n i r h
    simp only [nat_restore.l0] at h
    repeat' (split at h)
    all_goals first
    | (cases h; done)
    | (have := ih _ _ _ _ _ _ h; simpa using this)
    | (injection h with h; rw [h])
theorem reduce_len : ∀ (k : Nat) (x v : List Int) (q c n i : Int) (r : Bool × List Int), nat_reduce.l0 k x v q c n i = some r → r.2.length = x.length := by
  intro k
  induction k with
  | zero => intro x v q c n i r h; simp [nat_reduce.l0] at h
  | succ k ih =>
    intro x v q c n i r h
    simp only [nat_reduce.l0] at h
    repeat' (split at h)
    all_goals first
    | (cases h; done)
    | (have := ih _ _ _ _ _ _ _ h; simpa using this)
    | (injection h with h; rw [← h])
theorem one_st {σ : Store} {b0 new : Nat} {k0 : Blk} {e : Eff} (hσ : σ b0 = some k0) (hl : lts new k0.cells = true) (hb : b0 < new) (hr : b0 ∈ e.rd := by simp) : ∀ b k, get [(b0, k0)] b = some k → σ b = some k ∧ b ∈ e.rd ∧ b < new ∧ lts new k.cells = true := by
  intro b k h
  simp only [get] at h
  by_cases e1 : b0 = b
  · subst e1
    simp only [beq_self_eq_true, cond_true, Option.some.injEq] at h
    subst h; exact ⟨hσ, hr, hb, hl⟩
  · rw [show (b0 == b) = false by simpa using e1] at h; cases h
theorem one_up (b0 : Nat) (k0 k1 : Blk) : ∀ b k, upds (get [(b0, k0)]) [(b0, some k1)] b = some k → get [(b0, k1)] b = some k := by
  intro b k hk
  simp only [upds, upd1, get] at hk ⊢
  by_cases e : b = b0
  · subst e; simpa using hk
  · rw [if_neg e, show (b0 == b) = false by simpa using (Ne.symm e)] at hk; cases hk
theorem lts_p (n : Nat) : ∀ cs : List PV, lts n (cs.map .p) = true
  | [] => rfl
  | x :: r => by simp [lts, AV.lt, lts_p n r]
theorem nat_restore.at (k : Nat) (a b x v : List Int) (r : List Int) (h : nat_restore.f k x v = some r) {σ : Store} (hσ : σ 0 = some (.pc 3 (Mid a x b))) :
    SoundE Try.prog 64 108 [.sl 0 a.length x.length 1, .p (N v)] σ 1474 ⟨.tup [], [(0, some (.pc 3 (Mid a r b)))], [0]⟩ := by
  refine SoundE.of_WP tok Try.func108 rfl rfl [(0, .pc 3 (Mid a x b))] (one_st hσ (lts_p _ _) (by decide)) rfl (fun x hx => by simp at hx; subst hx; simp [get]) ?_
  simp only [Try.f108, args0, List.map, List.length_cons, List.length_nil, Nat.reduceAdd, Nat.reduceSub, List.replicate, List.cons_append, List.nil_append]
  unfold nat_restore.f at h
  repeat' (first | refine WP_seq ?_ | refine WP_block ?_ | refine regA 1 fun KQ hKQ => ?_ | refine regD 1 fun KQ hKQ => ?_ | refine opsA rfl rfl rfl rfl (nrmA ?_) | refine opsW_skip rfl (nrmA ?_) | (refine opsW_nil ⟨by kernel_rfl, hKQ _ _ _ (nrmB ?_)⟩; clear hKQ KQ) | (refine opsW_nil (hKQ _ _ _ (nrmB ?_)); clear hKQ KQ) | refine condT rfl ?_ | refine condF rfl ?_ | refine WP_skip (nrmB ?_) | refine WP_ret (nrmC ?_) | refine WP_exit (nrmC ?_))
  refine WP_loop (WPL_weaken ?_ (WPL_rec (α := List Int × Int × Int × Int) (fun k x => nat_restore.l0 k x.1 v x.2.1 x.2.2.1 x.2.2.2) r (fun x => (mkE 36 [(0, .sl 0 a.length x.1.length 1), (1, .p (N v)), (4, .p (I x.2.1)), (8, .p (I x.2.2.1)), (9, .p (I x.2.2.2))], [(0, .pc 3 (Mid a x.1 b))], 1474)) ?_ k (_, _, _, _) h))
  · exact wkA
  · clear h; try clear k
    intro k ⟨x1, x2, x3, x4⟩ K ih h
    simp only [mkE, List.replicate, List.foldl, List.set]
    cases k with
    | zero => simp [nat_restore.l0] at h
    | succ k =>
      simp only [nat_restore.l0] at h
      repeat' (first | (simp only [if_true, if_false, Bool.false_eq_true, Bool.not_true, Bool.not_false, reduceIte] at h) | (split at h) | (rw [Option.bind_eq_some_iff] at h; obtain ⟨_, hbb, h⟩ := h; try (simp only [Option.some.injEq] at hbb; subst hbb)) | (cases h; done) | (simp only [Option.some.injEq, Prod.mk.injEq] at h; subst h) | (simp only [Option.some.injEq, Prod.mk.injEq] at h; (have h1 := h.1; have h2 := h.2; clear h; subst h1; first | subst h2 | (obtain ⟨h3, h4⟩ := h2; subst h3; subst h4))))
      all_goals
        repeat' (first | refine WP_seq ?_ | refine WP_block ?_ | refine regA 1 fun KQ hKQ => ?_ | refine regD 1 fun KQ hKQ => ?_ | refine opsA rfl rfl rfl rfl (nrmA ?_) | refine opsW_skip rfl (nrmA ?_) | (refine opsW_nil ⟨by kernel_rfl, hKQ _ _ _ (nrmB ?_)⟩; clear hKQ KQ) | (refine opsW_nil (hKQ _ _ _ (nrmB ?_)); clear hKQ KQ) | refine condT rfl ?_ | refine condF rfl ?_ | refine WP_skip (nrmB ?_) | refine WP_ret (nrmC ?_) | refine WP_exit (nrmC ?_))
        first
        | (refine ih _ _ _ _ (_, _, _, _) (Nat.lt_succ_self _) h ?_; exact wkA)
        | (refine ⟨by decide, ?_⟩; simp only [Fin, Res, resAll, resOne, pack, Option.bind, Option.map, List.getD_cons_succ, List.getD_cons_zero, true_and, and_self, and_true]; exact one_up _ _ _)
theorem nat_reduce.at (k : Nat) (a b x v : List Int) (q : Int) (c : Bool) (r : List Int) (h : nat_reduce.f k x v q = some (c, r)) {σ : Store} (hσ : σ 0 = some (.pc 3 (Mid a x b))) :
    SoundE Try.prog 64 107 [.sl 0 a.length x.length 1, .p (N v), .p (I q)] σ 1090 ⟨.p (B c), [(0, some (.pc 3 (Mid a r b)))], [0]⟩ := by
  refine SoundE.of_WP tok Try.func107 rfl rfl [(0, .pc 3 (Mid a x b))] (one_st hσ (lts_p _ _) (by decide)) rfl (fun x hx => by simp at hx; subst hx; simp [get]) ?_
  simp only [Try.f107, args0, List.map, List.length_cons, List.length_nil, Nat.reduceAdd, Nat.reduceSub, List.replicate, List.cons_append, List.nil_append]
  unfold nat_reduce.f at h
  repeat' (first | refine WP_seq ?_ | refine WP_block ?_ | refine regA 1 fun KQ hKQ => ?_ | refine regD 1 fun KQ hKQ => ?_ | refine opsA rfl rfl rfl rfl (nrmA ?_) | refine opsW_skip rfl (nrmA ?_) | (refine opsW_nil ⟨by kernel_rfl, hKQ _ _ _ (nrmB ?_)⟩; clear hKQ KQ) | (refine opsW_nil (hKQ _ _ _ (nrmB ?_)); clear hKQ KQ) | refine condT rfl ?_ | refine condF rfl ?_ | refine WP_skip (nrmB ?_) | refine WP_ret (nrmC ?_) | refine WP_exit (nrmC ?_))
  refine WP_loop (WPL_weaken ?_ (WPL_rec (α := List Int × Int × Int × Int) (fun k x => nat_reduce.l0 k x.1 v q x.2.1 x.2.2.1 x.2.2.2) (c, r) (fun x => (mkE 51 [(0, .sl 0 a.length x.1.length 1), (1, .p (N v)), (2, .p (I q)), (7, .p (I x.2.1)), (11, .p (I x.2.2.1)), (12, .p (I x.2.2.2))], [(0, .pc 3 (Mid a x.1 b))], 1090)) ?_ k (_, _, _, _) h))
  · exact wkA
  · clear h; try clear k
    intro k ⟨x1, x2, x3, x4⟩ K ih h
    simp only [mkE, List.replicate, List.foldl, List.set]
    cases k with
    | zero => simp [nat_reduce.l0] at h
    | succ k =>
      simp only [nat_reduce.l0] at h
      repeat' (first | (simp only [if_true, if_false, Bool.false_eq_true, Bool.not_true, Bool.not_false, reduceIte] at h) | (split at h) | (rw [Option.bind_eq_some_iff] at h; obtain ⟨_, hbb, h⟩ := h; try (simp only [Option.some.injEq] at hbb; subst hbb)) | (cases h; done) | (simp only [Option.some.injEq, Prod.mk.injEq] at h; subst h) | (simp only [Option.some.injEq, Prod.mk.injEq] at h; (have h1 := h.1; have h2 := h.2; clear h; subst h1; first | subst h2 | (obtain ⟨h3, h4⟩ := h2; subst h3; subst h4))))
      all_goals
        repeat' (first | refine WP_seq ?_ | refine WP_block ?_ | refine regA 1 fun KQ hKQ => ?_ | refine regD 1 fun KQ hKQ => ?_ | refine opsA rfl rfl rfl rfl (nrmA ?_) | refine opsW_skip rfl (nrmA ?_) | (refine opsW_nil ⟨by kernel_rfl, hKQ _ _ _ (nrmB ?_)⟩; clear hKQ KQ) | (refine opsW_nil (hKQ _ _ _ (nrmB ?_)); clear hKQ KQ) | refine condT rfl ?_ | refine condF rfl ?_ | refine WP_skip (nrmB ?_) | refine WP_ret (nrmC ?_) | refine WP_exit (nrmC ?_))
        first
        | (refine ih _ _ _ _ (_, _, _, _) (Nat.lt_succ_self _) h ?_; exact wkA)
        | (refine ⟨by decide, ?_⟩; simp only [Fin, Res, resAll, resOne, pack, Option.bind, Option.map, List.getD_cons_succ, List.getD_cons_zero, true_and, and_self, and_true]; first | exact one_up _ _ _ | exact ⟨rfl, one_up _ _ _⟩)
end Go.Proofs.Ytiondkijgpjgcaa.Pw
namespace Go.Proofs.Ytiondkijgpjgcaa.Pw
open Go Wd Px
set_option linter.unusedVariables false
set_option linter.unusedSimpArgs false
set_option maxRecDepth 100000
attribute [local irreducible] Int.tmod Int.tdiv
set_option maxHeartbeats 8000000
theorem nat_divide.snd (k : Nat) (a b : List Int) (r s : List Int) (h : nat_divide.f k a b = some (r, s)) : Sound Try.prog 102 [N a, N b] (.tup [N r, N s]) := by
  refine Sound.of_WP tok Try.func102 rfl rfl ?_; simp only [Try.f102, args0, List.map, List.length_cons, List.length_nil, Nat.reduceAdd, Nat.reduceSub, List.replicate, List.cons_append, List.nil_append]
  unfold nat_divide.f at h
  split at h
  · rename_i hc
    obtain ⟨c1, c2, c3, c4, c5⟩ := hc
    have g1 : 0 ≤ (b.length : Int) - 1 := by omega
    have g2 : (b.length : Int) - 1 < b.length := by omega
    have w1 : wrap64 ((b.length : Int) - 1) = (b.length : Int) - 1 := w64 (by omega) (by omega)
    generalize hd : rd b ((b.length : Int) - 1) = d at *
    have w2 : wrap64 (d + 1) = d + 1 := w64 (by omega) (by omega)
    have w3 : Int.tdiv 1000000000 (d + 1) = 1000000000 / (d + 1) := Int.tdiv_eq_ediv_of_nonneg (by omega)
    have w4 : wrap64 (1000000000 / (d + 1)) = 1000000000 / (d + 1) := w64 (by have := Int.ediv_nonneg (a := 1000000000) (b := d + 1) (by omega) (by omega); omega) (by have := Int.ediv_le_self (a := 1000000000) (d + 1) (by omega); omega)
    have w5 : wrap64 ((a.length : Int) - (b.length : Int)) = ((a.length - b.length : Nat) : Int) := by rw [w64 (by omega) (by omega)]; omega
    obtain ⟨n1, hn1⟩ : ∃ n1, a.length - b.length + 1 = n1 := ⟨_, rfl⟩
    rw [hn1] at h
    have w6 : wrap64 (((a.length - b.length : Nat) : Int) + 1) = (n1 : Int) := by rw [w64 (by omega) (by omega)]; omega
    generalize hm : 1000000000 / (d + 1) = m at *
    have w7 : wrap64 ((n1 : Int) - 1) = ((a.length - b.length : Nat) : Int) := by rw [w64 (by omega) (by omega)]; omega
    rw [Option.bind_eq_some_iff] at h; obtain ⟨u, hu, h⟩ := h
    rw [Option.bind_eq_some_iff] at h; obtain ⟨v, hv, h⟩ := h
    split at h
    · rename_i hl
      obtain ⟨hl1, hl2⟩ := hl
      repeat' (first | refine WP_seq ?_ | refine WP_block ?_ | refine regA 64 fun KQ hKQ => ?_ | refine regD 64 fun KQ hKQ => ?_ | refine opsA rfl rfl rfl rfl (nrmA ?_) | refine callA rfl rfl rfl (nrmA ?_) (hs := (nat_scaled.snd k b m v hv)) | refine callE rfl rfl rfl (nrmA ?_) (hs := (nat_scaled.own k a m u hu)) | refine opsW_skip rfl (nrmA ?_) | (refine opsW_nil ⟨by kernel_rfl, hKQ _ _ _ (nrmB ?_)⟩; clear hKQ KQ) | (refine opsW_nil (hKQ _ _ _ (nrmB ?_)); clear hKQ KQ) | refine condT rfl ?_ | refine condF rfl ?_ | refine WP_skip (nrmB ?_) | refine WP_ret (nrmC ?_) | refine WP_exit (nrmC ?_))
      rw [Option.bind_eq_some_iff] at h; obtain ⟨p, hp, h⟩ := h
      rw [show ((a.length : Int) - b.length) = ((a.length - b.length : Nat) : Int) by omega] at hp
      refine WP_loop (WPL_weaken ?_ (WPL_rec (α := List Int × List Int × Int) (fun k x => if x.1.length = a.length + 1 ∧ x.2.1.length = n1 ∧ x.2.2 ≤ ((a.length - b.length : Nat) : Int) ∧ -1 ≤ x.2.2 then nat_divide.l0 k (v.take b.length) x.1 x.2.1 x.2.2 else none) p
        (fun x => (mkE 83 [(0, .p (N a)), (1, .p (N b)), (6, .p (I m)), (7, .sl 0 0 (a.length + 1) 1), (8, .p (.lst b.length ((v.take b.length).map I))), (9, .p (I (b.length : Int))), (10, .sl 1 0 n1 1), (11, .p (I x.2.2))], [(0, .pc 3 (x.1.map I)), (1, .pc 3 (x.2.1.map I))], 2)) ?_ k (u, List.replicate n1 0, ((a.length - b.length : Nat) : Int))
        (by simp only [hl1, List.length_replicate, Int.le_refl, true_and]; rw [if_pos (by omega)]; exact hp)))
      · exact wkA
      · rw [Option.bind_eq_some_iff] at h; obtain ⟨t, ht, h⟩ := h
        rw [Option.bind_eq_some_iff] at h; obtain ⟨dd, hdd, h⟩ := h
        rw [Option.bind_eq_some_iff] at h; obtain ⟨qq, hqq, h⟩ := h
        injection h with h; injection h with h1 h2; subst h1; subst h2
        clear hp
        intro k ⟨x1, x2, x3⟩ K ih h
        simp only [mkE, List.replicate, List.foldl, List.set]
        split at h
        · rename_i hi
          dsimp only at hi h
          obtain ⟨i1, i2, i3, i4⟩ := hi
          cases k with
          | zero => simp [nat_divide.l0] at h
          | succ k =>
            simp only [nat_divide.l0] at h
            split at h
            · have z1 : wrap64 (x3 + (b.length : Int)) = x3 + (b.length : Int) := w64 (by omega) (by omega)
              have z2 : wrap64 (x3 + (b.length : Int) + 1) = x3 + (b.length : Int) + 1 := w64 (by omega) (by omega)
              rw [Option.bind_eq_some_iff] at h; obtain ⟨q, hq, h⟩ := h
              rw [Option.bind_eq_some_iff] at h; obtain ⟨⟨c, rr⟩, hr, h⟩ := h
              have z3 : (x3 + (b.length : Int) + 1 - x3).toNat = b.length + 1 := by omega
              have l1 : ((x1.drop x3.toNat).take (b.length + 1)).length = b.length + 1 := by simp; omega
              have l2 : (v.take b.length).length = b.length := by simp; omega
              have sd : Sound Try.prog 106 [.lst (b.length + 1) (((x1.drop x3.toNat).take (b.length + 1)).map I), .lst b.length ((v.take b.length).map I)] (I q) := by
                have := nat_digit.snd _ _ _ _ hq
                simp only [N, l2] at this
                rw [l1] at this
                exact this
              have l3 : (x1.take x3.toNat).length = x3.toNat := by simp; omega
              have sr : ∀ σ : Store, σ 0 = some (.pc 3 (x1.map I)) → SoundE Try.prog 64 107 [.sl 0 x3.toNat (b.length + 1) 1, .p (.lst b.length ((v.take b.length).map I)), .p (I q)] σ 1090 ⟨.p (B c), [(0, some (.pc 3 (Mid (x1.take x3.toNat) rr (x1.drop (x3.toNat + (b.length + 1))))))], [0]⟩ := fun σ hσ => by
                have e1 : x1 = x1.take x3.toNat ++ ((x1.drop x3.toNat).take (b.length + 1) ++ x1.drop (x3.toNat + (b.length + 1))) := by
                  rw [← List.drop_drop, List.take_append_drop, List.take_append_drop]
                rw [l2] at hr
                have := nat_reduce.at (σ := σ) _ (x1.take x3.toNat) (x1.drop (x3.toNat + (b.length + 1))) _ _ q c rr hr (by rw [hσ]; unfold Mid; rw [← e1])
                simp only [N, l2] at this
                rw [l1, l3] at this
                exact this
              cases c
              all_goals simp only [if_true, if_false, Bool.false_eq_true, reduceIte] at h
              · repeat' (first | refine WP_seq ?_ | refine WP_block ?_ | refine regA 64 fun KQ hKQ => ?_ | refine regD 64 fun KQ hKQ => ?_ | refine opsA rfl rfl rfl rfl (nrmA ?_) | refine callA rfl rfl rfl (nrmA ?_) (hs := sd) | refine callE rfl rfl rfl (nrmA ?_) (hs := (sr _ rfl)) | refine opsW_skip rfl (nrmA ?_) | (refine opsW_nil ⟨by kernel_rfl, hKQ _ _ _ (nrmB ?_)⟩; clear hKQ KQ) | (refine opsW_nil (hKQ _ _ _ (nrmB ?_)); clear hKQ KQ) | refine condT rfl ?_ | refine condF rfl ?_ | refine WP_skip (nrmB ?_) | refine WP_ret (nrmC ?_) | refine WP_exit (nrmC ?_))
                have l5 : rr.length = b.length + 1 := (reduce_len _ _ _ _ _ _ _ _ hr).trans (by rw [l2]; exact l1)
                have wi : wrap64 (x3 - 1) = x3 - 1 := w64 (by omega) (by omega)
                rw [show ∀ u w, Mid u rr w = (u ++ rr ++ w).map I from fun u w => by simp [Mid], wi]
                refine ih _ _ _ _ (x1.take x3.toNat ++ rr ++ x1.drop (x3.toNat + (b.length + 1)), x2.set x3.toNat q, x3 - 1) (Nat.lt_succ_self _) (by rw [if_pos ⟨by simp [l5]; omega, by simp; omega, by dsimp only; omega, by dsimp only; omega⟩]; rw [l2] at h; exact h) ?_
                exact wkA
              · rw [Option.bind_eq_some_iff] at h; obtain ⟨p2, hp2, h⟩ := h
                have l5 : rr.length = b.length + 1 := (reduce_len _ _ _ _ _ _ _ _ hr).trans (by rw [l2]; exact l1)
                have st : ∀ σ : Store, σ 0 = some (.pc 3 (Mid (x1.take x3.toNat) rr (x1.drop (x3.toNat + (b.length + 1))))) → SoundE Try.prog 64 108 [.sl 0 x3.toNat (b.length + 1) 1, .p (.lst b.length ((v.take b.length).map I))] σ 1474 ⟨.tup [], [(0, some (.pc 3 (Mid (x1.take x3.toNat) p2 (x1.drop (x3.toNat + (b.length + 1))))))], [0]⟩ := fun σ hσ => by
                  have := nat_restore.at (σ := σ) _ (x1.take x3.toNat) (x1.drop (x3.toNat + (b.length + 1))) rr _ p2 hp2 hσ
                  simp only [N, l2] at this
                  rw [l5, l3] at this
                  exact this
                repeat' (first | refine WP_seq ?_ | refine WP_block ?_ | refine regA 64 fun KQ hKQ => ?_ | refine regD 64 fun KQ hKQ => ?_ | refine opsA rfl rfl rfl rfl (nrmA ?_) | refine callA rfl rfl rfl (nrmA ?_) (hs := sd) | refine callE rfl rfl rfl (nrmA ?_) (hs := (sr _ rfl)) | refine callE rfl rfl rfl (nrmA ?_) (hs := (st _ rfl)) | refine opsW_skip rfl (nrmA ?_) | (refine opsW_nil ⟨by kernel_rfl, hKQ _ _ _ (nrmB ?_)⟩; clear hKQ KQ) | (refine opsW_nil (hKQ _ _ _ (nrmB ?_)); clear hKQ KQ) | refine condT rfl ?_ | refine condF rfl ?_ | refine WP_skip (nrmB ?_) | refine WP_ret (nrmC ?_) | refine WP_exit (nrmC ?_))
                have l6 : p2.length = b.length + 1 := (restore_len _ _ _ _ _ _ _ hp2).trans l5
                have wi : wrap64 (x3 - 1) = x3 - 1 := w64 (by omega) (by omega)
                rw [show ∀ u w, Mid u p2 w = (u ++ p2 ++ w).map I from fun u w => by simp [Mid], wi]
                refine ih _ _ _ _ (x1.take x3.toNat ++ p2 ++ x1.drop (x3.toNat + (b.length + 1)), x2.set x3.toNat (wrap64 (q - 1)), x3 - 1) (Nat.lt_succ_self _) (by rw [if_pos ⟨by simp [l6]; omega, by simp; omega, by dsimp only; omega, by dsimp only; omega⟩]; rw [l2] at h; exact h) ?_
                exact wkA
            · injection h with h
              subst h
              dsimp only at ht hqq
              have l7 : (x1.take b.length).length = b.length := by simp; omega
              have s1 : Sound Try.prog 84 [.lst b.length ((x1.take b.length).map I)] (N t) := by
                have := nat_trimmed.snd _ _ _ ht
                simp only [N, l7] at this
                exact this
              have s2 : Sound Try.prog 84 [.lst n1 ((x2.take n1).map I)] (N qq) := by
                have := nat_trimmed.snd _ _ _ hqq
                simp only [N, i2] at this
                rw [List.take_of_length_le (by omega)]
                exact this
              have s3 : Sound Try.prog 101 [N t, I m] (.tup [N dd.1, N dd.2]) := nat_short.snd _ _ _ _ _ hdd
              repeat' (first | refine WP_seq ?_ | refine WP_block ?_ | refine regA 64 fun KQ hKQ => ?_ | refine regD 64 fun KQ hKQ => ?_ | refine opsA rfl rfl rfl rfl (nrmA ?_) | refine callA rfl rfl rfl (nrmA ?_) (hs := s1) | refine callA rfl rfl rfl (nrmA ?_) (hs := s2) | refine callA rfl rfl rfl (nrmA ?_) (hs := s3) | refine opsW_skip rfl (nrmA ?_) | (refine opsW_nil ⟨by kernel_rfl, hKQ _ _ _ (nrmB ?_)⟩; clear hKQ KQ) | (refine opsW_nil (hKQ _ _ _ (nrmB ?_)); clear hKQ KQ) | refine condT rfl ?_ | refine condF rfl ?_ | refine WP_skip (nrmB ?_) | refine WP_ret (nrmC ?_) | refine WP_exit (nrmC ?_))
              exact endA
        · cases h
    · cases h
  · cases h
end Go.Proofs.Ytiondkijgpjgcaa.Pw
namespace Go.Proofs.Ytiondkijgpjgcaa.Pw
open Go Wd Px
set_option linter.unusedVariables false
set_option linter.unusedSimpArgs false
set_option maxRecDepth 100000
attribute [local irreducible] Int.tmod Int.tdiv
set_option maxHeartbeats 8000000
theorem getI0 {l : List Int} (h : (0 : Int) < l.length) : (l.map I).getD 0 default = I (rd l 0) := getI (i := 0) (Int.le_refl _) h
theorem nat_divided.snd (k : Nat) (a b : List Int) (r s : List Int) (h : nat_divided.f k a b = some (r, s)) : Sound Try.prog 83 [N a, N b] (.tup [N r, N s]) := by
  refine Sound.of_WP tok Try.func83 rfl rfl ?_; simp only [Try.f83, args0, List.map, List.length_cons, List.length_nil, Nat.reduceAdd, Nat.reduceSub, List.replicate, List.cons_append, List.nil_append]
  unfold nat_divided.f at h
  repeat' (first | (simp only [if_true, if_false, Bool.false_eq_true, Bool.not_true, Bool.not_false, reduceIte] at h) | (split at h) | (rw [Option.bind_eq_some_iff] at h; obtain ⟨_, hbb, h⟩ := h; try (simp only [Option.some.injEq] at hbb; subst hbb)) | (cases h; done) | (simp only [Option.some.injEq, Prod.mk.injEq] at h; subst h) | (simp only [Option.some.injEq, Prod.mk.injEq] at h; (have h1 := h.1; have h2 := h.2; clear h; subst h1; first | subst h2 | (obtain ⟨h3, h4⟩ := h2; subst h3; subst h4))))
  all_goals (try (have hg0 := getI0 (l := b) (by assumption)))
  all_goals
    repeat' (first | refine WP_seq ?_ | refine WP_block ?_ | refine regA 64 fun KQ hKQ => ?_ | refine regD 64 fun KQ hKQ => ?_ | refine opsA rfl rfl rfl rfl (nrmA ?_) | refine callA rfl rfl rfl (nrmA ?_) (hs := nat_compare.snd _ _ _ _ (by first | assumption | omega | rfl | (simp; omega))) | refine callA rfl rfl rfl (nrmA ?_) (hs := nat_padded.snd _ _ _ (by first | assumption | omega | rfl | (simp; omega))) | refine callA rfl rfl rfl (nrmA ?_) (hs := nat_trimmed.snd _ _ _ (by first | assumption | omega | rfl | (simp; omega))) | refine callA rfl rfl rfl (nrmA ?_) (hs := nat_short.snd _ _ _ _ _ (by first | assumption | omega | rfl | (simp; omega))) | refine callA rfl rfl rfl (nrmA ?_) (hs := nat_divide.snd _ _ _ _ _ (by first | assumption | omega | rfl | (simp; omega))) | refine opsW_skip rfl (nrmA ?_) | (refine opsW_nil ⟨by kernel_rfl, hKQ _ _ _ (nrmB ?_)⟩; clear hKQ KQ) | (refine opsW_nil (hKQ _ _ _ (nrmB ?_)); clear hKQ KQ) | refine condT rfl ?_ | refine condF rfl ?_ | refine WP_skip (nrmB ?_) | refine WP_ret (nrmC ?_) | refine WP_exit (nrmC ?_))
    exact endA
theorem nat_DivMod.snd (k : Nat) (a b : List Int) (r s : List Int) (e : Int) (h : nat_DivMod.f k a b = some (r, s, e)) : Sound Try.prog 94 [N a, N b] (.tup [N r, N s, I e]) := by
  refine Sound.of_WP tok Try.func94 rfl rfl ?_; simp only [Try.f94, args0, List.map, List.length_cons, List.length_nil, Nat.reduceAdd, Nat.reduceSub, List.replicate, List.cons_append, List.nil_append]
  unfold nat_DivMod.f at h
  repeat' (first | (simp only [if_true, if_false, Bool.false_eq_true, Bool.not_true, Bool.not_false, reduceIte] at h) | (split at h) | (rw [Option.bind_eq_some_iff] at h; obtain ⟨_, hbb, h⟩ := h; try (simp only [Option.some.injEq] at hbb; subst hbb)) | (cases h; done) | (simp only [Option.some.injEq, Prod.mk.injEq] at h; subst h) | (simp only [Option.some.injEq, Prod.mk.injEq] at h; (have h1 := h.1; have h2 := h.2; clear h; subst h1; first | subst h2 | (obtain ⟨h3, h4⟩ := h2; subst h3; subst h4))))
  all_goals (cases k with | zero => simp [nat_DivMod.j0] at h | succ k => ?_)
  all_goals
    simp only [nat_DivMod.j0] at h
    repeat' (first | (simp only [if_true, if_false, Bool.false_eq_true, Bool.not_true, Bool.not_false, reduceIte] at h) | (split at h) | (rw [Option.bind_eq_some_iff] at h; obtain ⟨_, hbb, h⟩ := h; try (simp only [Option.some.injEq] at hbb; subst hbb)) | (cases h; done) | (simp only [Option.some.injEq, Prod.mk.injEq] at h; subst h) | (simp only [Option.some.injEq, Prod.mk.injEq] at h; (have h1 := h.1; have h2 := h.2; clear h; subst h1; first | subst h2 | (obtain ⟨h3, h4⟩ := h2; subst h3; subst h4))))
  all_goals
    repeat' (first | refine WP_seq ?_ | refine WP_block ?_ | refine regA 64 fun KQ hKQ => ?_ | refine regD 64 fun KQ hKQ => ?_ | refine opsA rfl rfl rfl rfl (nrmA ?_) | refine callA rfl rfl rfl (nrmA ?_) (hs := nat_Valid.snd _ _ _ (by first | assumption | omega | rfl | (simp; omega))) | refine callA rfl rfl rfl (nrmA ?_) (hs := nat_divided.snd _ _ _ _ _ (by first | assumption | omega | rfl | (simp; omega))) | refine opsW_skip rfl (nrmA ?_) | (refine opsW_nil ⟨by kernel_rfl, hKQ _ _ _ (nrmB ?_)⟩; clear hKQ KQ) | (refine opsW_nil (hKQ _ _ _ (nrmB ?_)); clear hKQ KQ) | refine condT rfl ?_ | refine condF rfl ?_ | refine WP_skip (nrmB ?_) | refine WP_ret (nrmC ?_) | refine WP_exit (nrmC ?_))
    exact endA
theorem nat_Gcd.snd (k : Nat) (a b : List Int) (r : List Int) (e : Int) (h : nat_Gcd.f k a b = some (r, e)) : Sound Try.prog 60 [N a, N b] (.tup [N r, I e]) := by
  refine Sound.of_WP tok Try.func60 rfl rfl ?_; simp only [Try.f60, args0, List.map, List.length_cons, List.length_nil, Nat.reduceAdd, Nat.reduceSub, List.replicate, List.cons_append, List.nil_append]
  unfold nat_Gcd.f at h
  repeat' (first | (simp only [if_true, if_false, Bool.false_eq_true, Bool.not_true, Bool.not_false, reduceIte] at h) | (split at h) | (rw [Option.bind_eq_some_iff] at h; obtain ⟨_, hbb, h⟩ := h; try (simp only [Option.some.injEq] at hbb; subst hbb)) | (cases h; done) | (simp only [Option.some.injEq, Prod.mk.injEq] at h; subst h) | (simp only [Option.some.injEq, Prod.mk.injEq] at h; (have h1 := h.1; have h2 := h.2; clear h; subst h1; first | subst h2 | (obtain ⟨h3, h4⟩ := h2; subst h3; subst h4))))
  all_goals (cases k with | zero => simp [nat_Gcd.j0] at h | succ k => ?_)
  all_goals
    simp only [nat_Gcd.j0] at h
    repeat' (first | (simp only [if_true, if_false, Bool.false_eq_true, Bool.not_true, Bool.not_false, reduceIte] at h) | (split at h) | (rw [Option.bind_eq_some_iff] at h; obtain ⟨_, hbb, h⟩ := h; try (simp only [Option.some.injEq] at hbb; subst hbb)) | (cases h; done) | (simp only [Option.some.injEq, Prod.mk.injEq] at h; subst h) | (simp only [Option.some.injEq, Prod.mk.injEq] at h; (have h1 := h.1; have h2 := h.2; clear h; subst h1; first | subst h2 | (obtain ⟨h3, h4⟩ := h2; subst h3; subst h4))))
  all_goals
    repeat' (first | refine WP_seq ?_ | refine WP_block ?_ | refine regA 64 fun KQ hKQ => ?_ | refine regD 64 fun KQ hKQ => ?_ | refine opsA rfl rfl rfl rfl (nrmA ?_) | refine callA rfl rfl rfl (nrmA ?_) (hs := nat_Valid.snd _ _ _ (by first | assumption | omega | rfl | (simp; omega))) | refine opsW_skip rfl (nrmA ?_) | (refine opsW_nil ⟨by kernel_rfl, hKQ _ _ _ (nrmB ?_)⟩; clear hKQ KQ) | (refine opsW_nil (hKQ _ _ _ (nrmB ?_)); clear hKQ KQ) | refine condT rfl ?_ | refine condF rfl ?_ | refine WP_skip (nrmB ?_) | refine WP_ret (nrmC ?_) | refine WP_exit (nrmC ?_))
    first
    | exact endA
    | (refine WP_loop (WPL_weaken ?_ (WPL_rec (α := List Int × List Int) (fun k x => nat_Gcd.l0 k x.1 x.2) (r, e) (fun x => (mkE 61 [(0, .p (N x.1)), (1, .p (N x.2))], [], 0)) ?_ k (_, _) h)); · exact wkA)
    | skip
  · clear h; try clear k
    intro k ⟨x1, x2⟩ K ih h
    simp only [mkE, List.replicate, List.foldl, List.set]
    cases k with
    | zero => simp [nat_Gcd.l0] at h
    | succ k =>
      simp only [nat_Gcd.l0] at h
      repeat' (first | (simp only [if_true, if_false, Bool.false_eq_true, Bool.not_true, Bool.not_false, reduceIte] at h) | (split at h) | (rw [Option.bind_eq_some_iff] at h; obtain ⟨_, hbb, h⟩ := h; try (simp only [Option.some.injEq] at hbb; subst hbb)) | (cases h; done) | (simp only [Option.some.injEq, Prod.mk.injEq] at h; subst h) | (simp only [Option.some.injEq, Prod.mk.injEq] at h; (have h1 := h.1; have h2 := h.2; clear h; subst h1; first | subst h2 | (obtain ⟨h3, h4⟩ := h2; subst h3; subst h4))))
      all_goals (try (cases k with | zero => simp [nat_Gcd.j2] at h | succ k => ?_))
      all_goals
        try simp only [nat_Gcd.j2] at h
        repeat' (first | (simp only [if_true, if_false, Bool.false_eq_true, Bool.not_true, Bool.not_false, reduceIte] at h) | (split at h) | (rw [Option.bind_eq_some_iff] at h; obtain ⟨_, hbb, h⟩ := h; try (simp only [Option.some.injEq] at hbb; subst hbb)) | (cases h; done) | (simp only [Option.some.injEq, Prod.mk.injEq] at h; subst h) | (simp only [Option.some.injEq, Prod.mk.injEq] at h; (have h1 := h.1; have h2 := h.2; clear h; subst h1; first | subst h2 | (obtain ⟨h3, h4⟩ := h2; subst h3; subst h4))))
      all_goals (try (exfalso; omega))
      all_goals
        repeat' (first | refine WP_seq ?_ | refine WP_block ?_ | refine regA 64 fun KQ hKQ => ?_ | refine regD 64 fun KQ hKQ => ?_ | refine opsA rfl rfl rfl rfl (nrmA ?_) | refine callA rfl rfl rfl (nrmA ?_) (hs := nat_divided.snd _ _ _ _ _ (by first | assumption | omega | rfl | (simp; omega))) | refine callA rfl rfl rfl (nrmA ?_) (hs := nat_small.snd _ _ _ (by first | assumption | omega | rfl | (simp; omega))) | refine callA rfl rfl rfl (nrmA ?_) (hs := nat_padded.snd _ _ _ (by first | assumption | omega | rfl | (simp; omega))) | refine callA rfl rfl rfl (nrmA ?_) (hs := nat_trimmed.snd _ _ _ (by first | assumption | omega | rfl | (simp; omega))) | refine opsW_skip rfl (nrmA ?_) | (refine opsW_nil ⟨by kernel_rfl, hKQ _ _ _ (nrmB ?_)⟩; clear hKQ KQ) | (refine opsW_nil (hKQ _ _ _ (nrmB ?_)); clear hKQ KQ) | refine condT rfl ?_ | refine condF rfl ?_ | refine WP_skip (nrmB ?_) | refine WP_ret (nrmC ?_) | refine WP_exit (nrmC ?_))
        first
        | exact endA
        | (refine ih _ _ _ _ (_, _) (by omega) h ?_; exact wkA)
        | skip
      refine WP_loop (WPL_weaken ?_ (WPL_rec (α := Int × Int) (fun k x => nat_Gcd.l1 k x.1 x.2) (r, e) (fun x => (mkE 61 [(8, .p (I x.1)), (9, .p (I x.2))], [], 0)) ?_ k (_, _) h))
      · exact wkA
      · clear ih
        · clear h; try clear k
          intro k ⟨x1, x2⟩ K ih h
          simp only [mkE, List.replicate, List.foldl, List.set]
          cases k with
          | zero => simp [nat_Gcd.l1] at h
          | succ k =>
            simp only [nat_Gcd.l1] at h
            repeat' (first | (simp only [if_true, if_false, Bool.false_eq_true, Bool.not_true, Bool.not_false, reduceIte] at h) | (split at h) | (rw [Option.bind_eq_some_iff] at h; obtain ⟨_, hbb, h⟩ := h; try (simp only [Option.some.injEq] at hbb; subst hbb)) | (cases h; done) | (simp only [Option.some.injEq, Prod.mk.injEq] at h; subst h) | (simp only [Option.some.injEq, Prod.mk.injEq] at h; (have h1 := h.1; have h2 := h.2; clear h; subst h1; first | subst h2 | (obtain ⟨h3, h4⟩ := h2; subst h3; subst h4))))
            all_goals
              repeat' (first | refine WP_seq ?_ | refine WP_block ?_ | refine regA 64 fun KQ hKQ => ?_ | refine regD 64 fun KQ hKQ => ?_ | refine opsA rfl rfl rfl rfl (nrmA ?_) | refine callA rfl rfl rfl (nrmA ?_) (hs := nat_Of.snd _ _ _ _ (by first | assumption | omega | rfl | (simp; omega))) | refine opsW_skip rfl (nrmA ?_) | (refine opsW_nil ⟨by kernel_rfl, hKQ _ _ _ (nrmB ?_)⟩; clear hKQ KQ) | (refine opsW_nil (hKQ _ _ _ (nrmB ?_)); clear hKQ KQ) | refine condT rfl ?_ | refine condF rfl ?_ | refine WP_skip (nrmB ?_) | refine WP_ret (nrmC ?_) | refine WP_exit (nrmC ?_))
              first
              | exact endA
              | (refine ih _ _ _ _ (_, _) (Nat.lt_succ_self _) h ?_; exact wkA)
end Go.Proofs.Ytiondkijgpjgcaa.Pw
namespace Go.Proofs.Ytiondkijgpjgcaa.Px
open Go.Proofs.Ytiondkijgpjgcaa.Wd
set_option linter.unusedVariables false
mutual
def papermillref02_Valid.j0 : Nat → List Int → Bool → Option (Bool)
  | 0, _, _ => none
  | k + 1, x0, x20 => if x20 = true then (some false) else (papermillref02_Valid.l0 k x0 0)
def papermillref02_Valid.l0 : Nat → List Int → Int → Option (Bool)
  | 0, _, _ => none
  | k + 1, x0, x3 => if x3 < (x0.length : Int) then (if 0 ≤ x3 then (if (rd x0 x3) < 0 then (some false) else (if (rd x0 x3) ≥ 1000000000 then (some false) else (papermillref02_Valid.l0 k x0 (wrap64 (x3 + 1))))) else (none)) else (some true)
end
def papermillref02_Valid.f (k : Nat) (l0 : List Int) : Option (Bool) := if (l0.length : Int) > 48 then (papermillref02_Valid.j0 k l0 true) else (if (l0.length : Int) > 0 then (if 0 ≤ (wrap64 ((l0.length : Int) - 1)) then (if (wrap64 ((l0.length : Int) - 1)) < (l0.length : Int) then (papermillref02_Valid.j0 k l0 ((rd l0 (wrap64 ((l0.length : Int) - 1))) == 0)) else (none)) else (none)) else (papermillref02_Valid.j0 k l0 false))
def papermillref02_fit.l0 : Nat → List Int → Int → Option (List Int × Int)
  | 0, _, _ => none
  | k + 1, x0, x4 => if x4 > 0 then (if 0 ≤ (wrap64 (x4 - 1)) then (if (wrap64 (x4 - 1)) < (x0.length : Int) then (if (rd x0 (wrap64 (x4 - 1))) = 0 then (papermillref02_fit.l0 k x0 (wrap64 (x4 - 1))) else (if x4 > 48 then (some (([] : List Int), 2)) else ((some (([] : List Int) : List Int)).bind fun y262 => (if 0 ≤ x4 then (if x4 ≤ (x0.length : Int) then (if y262.length + (x0.take (x4 : Int).toNat).length < 17592186044416 then (some ((y262 ++ (x0.take (x4 : Int).toNat)), 0)) else (none)) else (none)) else (none))))) else (none)) else (none)) else (if x4 > 48 then (some (([] : List Int), 2)) else ((some (([] : List Int) : List Int)).bind fun y269 => (if 0 ≤ x4 then (if x4 ≤ (x0.length : Int) then (if y269.length + (x0.take (x4 : Int).toNat).length < 17592186044416 then (some ((y269 ++ (x0.take (x4 : Int).toNat)), 0)) else (none)) else (none)) else (none))))
def papermillref02_fit.f (k : Nat) (l0 : List Int) : Option (List Int × Int) := papermillref02_fit.l0 k l0 (l0.length : Int)
def papermillref02_compare.l0 : Nat → List Int → List Int → Int → Option (Int)
  | 0, _, _, _ => none
  | k + 1, x0, x1, x5 => if x5 ≥ 0 then (if 0 ≤ x5 then (if x5 < (x0.length : Int) then (if x5 < (x1.length : Int) then (if (rd x0 x5) < (rd x1 x5) then (some (-1)) else (if (rd x0 x5) > (rd x1 x5) then (some 1) else (papermillref02_compare.l0 k x0 x1 (wrap64 (x5 - 1))))) else (none)) else (none)) else (none)) else (some 0)
def papermillref02_compare.f (k : Nat) (l0 : List Int) (l1 : List Int) : Option (Int) := if (l0.length : Int) = (l1.length : Int) then (papermillref02_compare.l0 k l0 l1 (wrap64 ((l0.length : Int) - 1))) else (if (l0.length : Int) < (l1.length : Int) then (some (-1)) else (some 1))
def papermillref02_at.f (l0 : List Int) (a1 : Int) : Option (Int) := if a1 < (l0.length : Int) then (if 0 ≤ a1 then (some (rd l0 a1)) else (none)) else (some 0)
mutual
def papermillref02_Add.j0 : Nat → List Int → List Int → Bool → Option (List Int × Int)
  | 0, _, _, _ => none
  | k + 1, x0, x1, x17 => if x17 = true then (some (([] : List Int), 3)) else (papermillref02_Add.l0 k x0 x1 ([] : List Int) 0 0)
def papermillref02_Add.l0 : Nat → List Int → List Int → List Int → Int → Int → Option (List Int × Int)
  | 0, _, _, _, _, _ => none
  | k + 1, x0, x1, x6, x7, x8 => if x8 < (x0.length : Int) then (papermillref02_Add.j2 k x0 x1 x6 x7 x8 true) else (if x8 < (x1.length : Int) then (papermillref02_Add.j2 k x0 x1 x6 x7 x8 true) else (papermillref02_Add.j2 k x0 x1 x6 x7 x8 (decide (x7 > 0))))
def papermillref02_Add.j2 : Nat → List Int → List Int → List Int → Int → Int → Bool → Option (List Int × Int)
  | 0, _, _, _, _, _, _ => none
  | k + 1, x0, x1, x6, x7, x8, x31 => if x31 = true then ((papermillref02_at.f x0 x8).bind fun t279 => ((papermillref02_at.f x1 x8).bind fun t280 => (if x6.length < 17592186044416 then (papermillref02_Add.l0 k x0 x1 (x6 ++ [Int.tmod (wrap64 ((wrap64 (t279 + t280)) + x7)) 1000000000]) (wrap64 (Int.tdiv (wrap64 ((wrap64 (t279 + t280)) + x7)) 1000000000)) (wrap64 (x8 + 1))) else (none)))) else ((papermillref02_fit.f k x6).bind fun bt284 => (some (bt284.1, bt284.2)))
end
def papermillref02_Add.f (k : Nat) (l0 : List Int) (l1 : List Int) : Option (List Int × Int) := (papermillref02_Valid.f k l0).bind fun t277 => (if t277 = true then ((papermillref02_Valid.f k l1).bind fun t278 => (papermillref02_Add.j0 k l0 l1 (!t278))) else (papermillref02_Add.j0 k l0 l1 true))
def papermillref02_minus.l0 : Nat → List Int → List Int → List Int → Int → Int → Option (List Int)
  | 0, _, _, _, _, _ => none
  | k + 1, x0, x1, x5, x6, x7 => if x7 < (x0.length : Int) then (if 0 ≤ x7 then ((papermillref02_at.f x1 x7).bind fun t289 => (if (wrap64 ((wrap64 ((rd x0 x7) - t289)) - x6)) < 0 then (if x5.length < 17592186044416 then (papermillref02_minus.l0 k x0 x1 (x5 ++ [wrap64 ((wrap64 ((wrap64 ((rd x0 x7) - t289)) - x6)) + 1000000000)]) 1 (wrap64 (x7 + 1))) else (none)) else (if x5.length < 17592186044416 then (papermillref02_minus.l0 k x0 x1 (x5 ++ [wrap64 ((wrap64 ((rd x0 x7) - t289)) - x6)]) 0 (wrap64 (x7 + 1))) else (none)))) else (none)) else ((papermillref02_fit.f k x5).bind fun bt296 => (some bt296.1))
def papermillref02_minus.f (k : Nat) (l0 : List Int) (l1 : List Int) : Option (List Int) := papermillref02_minus.l0 k l0 l1 ([] : List Int) 0 0
def papermillref02_Sub.j0 : Nat → List Int → List Int → Bool → Option (List Int × Int)
  | 0, _, _, _ => none
  | k + 1, x0, x1, x13 => if x13 = true then (some (([] : List Int), 3)) else ((papermillref02_compare.f k x0 x1).bind fun t306 => (if t306 < 0 then (some (([] : List Int), 1)) else ((papermillref02_minus.f k x0 x1).bind fun t307 => (some (t307, 0)))))
def papermillref02_Sub.f (k : Nat) (l0 : List Int) (l1 : List Int) : Option (List Int × Int) := (papermillref02_Valid.f k l0).bind fun t304 => (if t304 = true then ((papermillref02_Valid.f k l1).bind fun t305 => (papermillref02_Sub.j0 k l0 l1 (!t305))) else (papermillref02_Sub.j0 k l0 l1 true))
mutual
def papermillref02_times.l0 : Nat → List Int → List Int → List Int → Int → Option (List Int)
  | 0, _, _, _, _ => none
  | k + 1, x0, x1, x5, x6 => if x6 < (x0.length : Int) then (papermillref02_times.l1 k x0 x1 x5 x6 0 0) else (papermillref02_times.l2 k x5 (x5.length : Int))
def papermillref02_times.l1 : Nat → List Int → List Int → List Int → Int → Int → Int → Option (List Int)
  | 0, _, _, _, _, _, _ => none
  | k + 1, x0, x1, x5, x6, x7, x8 => if x8 < (x1.length : Int) then (if 0 ≤ (wrap64 (x6 + x8)) then (if (wrap64 (x6 + x8)) < (x5.length : Int) then (if 0 ≤ x6 then (if x6 < (x0.length : Int) then ((papermillref02_at.f x1 x8).bind fun t315 => (papermillref02_times.l1 k x0 x1 (x5.set ((wrap64 (x6 + x8)) : Int).toNat (Int.tmod (wrap64 ((wrap64 ((rd x5 (wrap64 (x6 + x8))) + (wrap64 ((rd x0 x6) * t315)))) + x7)) 1000000000)) x6 (wrap64 (Int.tdiv (wrap64 ((wrap64 ((rd x5 (wrap64 (x6 + x8))) + (wrap64 ((rd x0 x6) * t315)))) + x7)) 1000000000)) (wrap64 (x8 + 1)))) else (none)) else (none)) else (none)) else (none)) else (if x7 > 0 then (if 0 ≤ (wrap64 (x6 + x8)) then (if (wrap64 (x6 + x8)) < (x5.length : Int) then (if 0 ≤ x6 then (if x6 < (x0.length : Int) then ((papermillref02_at.f x1 x8).bind fun t319 => (papermillref02_times.l1 k x0 x1 (x5.set ((wrap64 (x6 + x8)) : Int).toNat (Int.tmod (wrap64 ((wrap64 ((rd x5 (wrap64 (x6 + x8))) + (wrap64 ((rd x0 x6) * t319)))) + x7)) 1000000000)) x6 (wrap64 (Int.tdiv (wrap64 ((wrap64 ((rd x5 (wrap64 (x6 + x8))) + (wrap64 ((rd x0 x6) * t319)))) + x7)) 1000000000)) (wrap64 (x8 + 1)))) else (none)) else (none)) else (none)) else (none)) else (papermillref02_times.l0 k x0 x1 x5 (wrap64 (x6 + 1))))
def papermillref02_times.l2 : Nat → List Int → Int → Option (List Int)
  | 0, _, _ => none
  | k + 1, x5, x10 => if x10 > 0 then (if 0 ≤ (wrap64 (x10 - 1)) then (if (wrap64 (x10 - 1)) < (x5.length : Int) then (if (rd x5 (wrap64 (x10 - 1))) = 0 then (papermillref02_times.l2 k x5 (wrap64 (x10 - 1))) else (if 0 ≤ x10 then (if x10 ≤ (x5.length : Int) then (some (x5.take (x10 : Int).toNat)) else (none)) else (none))) else (none)) else (none)) else (if 0 ≤ x10 then (if x10 ≤ (x5.length : Int) then (some (x5.take (x10 : Int).toNat)) else (none)) else (none))
end
def papermillref02_times.f (k : Nat) (l0 : List Int) (l1 : List Int) : Option (List Int) := if 0 ≤ (wrap64 ((l0.length : Int) + (l1.length : Int))) then (if (wrap64 ((l0.length : Int) + (l1.length : Int)) : Int).toNat ≤ 35184372088832 then (papermillref02_times.l0 k l0 l1 (List.replicate (wrap64 ((l0.length : Int) + (l1.length : Int)) : Int).toNat 0) 0) else (none)) else (none)
def papermillref02_Mul.j0 : Nat → List Int → List Int → Bool → Option (List Int × Int)
  | 0, _, _, _ => none
  | k + 1, x0, x1, x13 => if x13 = true then (some (([] : List Int), 3)) else ((papermillref02_times.f k x0 x1).bind fun t330 => ((papermillref02_fit.f k t330).bind fun bt333 => (some (bt333.1, bt333.2))))
def papermillref02_Mul.f (k : Nat) (l0 : List Int) (l1 : List Int) : Option (List Int × Int) := (papermillref02_Valid.f k l0).bind fun t328 => (if t328 = true then ((papermillref02_Valid.f k l1).bind fun t329 => (papermillref02_Mul.j0 k l0 l1 (!t329))) else (papermillref02_Mul.j0 k l0 l1 true))
def papermillref02_digit.l0 : Nat → List Int → List Int → Int → Int → Option (Int)
  | 0, _, _, _, _ => none
  | k + 1, x0, x1, x5, x6 => if x5 < x6 then ((papermillref02_times.f k x1 (([wrap64 (Int.tdiv (wrap64 ((wrap64 (x5 + x6)) + 1)) 2)] : List Int))).bind fun t340 => ((papermillref02_compare.f k t340 x0).bind fun t343 => (if t343 ≤ 0 then (papermillref02_digit.l0 k x0 x1 (wrap64 (Int.tdiv (wrap64 ((wrap64 (x5 + x6)) + 1)) 2)) x6) else (papermillref02_digit.l0 k x0 x1 x5 (wrap64 ((wrap64 (Int.tdiv (wrap64 ((wrap64 (x5 + x6)) + 1)) 2)) - 1)))))) else (some x5)
def papermillref02_digit.f (k : Nat) (l0 : List Int) (l1 : List Int) : Option (Int) := papermillref02_digit.l0 k l0 l1 0 999999999
mutual
def papermillref02_DivMod.j0 : Nat → List Int → List Int → Bool → Option (List Int × List Int × Int)
  | 0, _, _, _ => none
  | k + 1, x0, x1, x18 => if x18 = true then (some (([] : List Int), ([] : List Int), 3)) else (if (x1.length : Int) = 0 then (some (([] : List Int), ([] : List Int), 16)) else (if 0 ≤ (x0.length : Int) then (if ((x0.length : Int) : Int).toNat ≤ 35184372088832 then (papermillref02_DivMod.l0 k x0 x1 (List.replicate ((x0.length : Int) : Int).toNat 0) ([] : List Int) (wrap64 ((x0.length : Int) - 1))) else (none)) else (none)))
def papermillref02_DivMod.l0 : Nat → List Int → List Int → List Int → List Int → Int → Option (List Int × List Int × Int)
  | 0, _, _, _, _, _ => none
  | k + 1, x0, x1, x7, x8, x9 => if x9 ≥ 0 then (if 0 ≤ x9 then (if x9 < (x0.length : Int) then ((some (([rd x0 x9] : List Int) : List Int)).bind fun y354 => (if y354.length + x8.length < 17592186044416 then ((some (y354 ++ x8 : List Int)).bind fun y357 => (if 0 ≤ (wrap64 ((y357.length : Int) - 1)) then (if (wrap64 ((y357.length : Int) - 1)) < (y357.length : Int) then (if (rd y357 (wrap64 ((y357.length : Int) - 1))) = 0 then (papermillref02_DivMod.j2 k x0 x1 x7 ([] : List Int) x9) else (papermillref02_DivMod.j2 k x0 x1 x7 y357 x9)) else (none)) else (none))) else (none))) else (none)) else (none)) else ((papermillref02_fit.f k x7).bind fun bt349 => (some (bt349.1, x8, 0)))
def papermillref02_DivMod.j2 : Nat → List Int → List Int → List Int → List Int → Int → Option (List Int × List Int × Int)
  | 0, _, _, _, _, _ => none
  | k + 1, x0, x1, x7, x8, x9 => (papermillref02_digit.f k x8 x1).bind fun t361 => (if 0 ≤ x9 then (if x9 < (x7.length : Int) then ((some (x7.set (x9 : Int).toNat t361 : List Int)).bind fun y362 => (if t361 > 0 then ((papermillref02_times.f k x1 (([t361] : List Int))).bind fun t366 => ((papermillref02_minus.f k x8 t366).bind fun t369 => (papermillref02_DivMod.l0 k x0 x1 y362 t369 (wrap64 (x9 - 1))))) else (papermillref02_DivMod.l0 k x0 x1 y362 x8 (wrap64 (x9 - 1))))) else (none)) else (none))
end
def papermillref02_DivMod.f (k : Nat) (l0 : List Int) (l1 : List Int) : Option (List Int × List Int × Int) := (papermillref02_Valid.f k l0).bind fun t344 => (if t344 = true then ((papermillref02_Valid.f k l1).bind fun t345 => (papermillref02_DivMod.j0 k l0 l1 (!t345))) else (papermillref02_DivMod.j0 k l0 l1 true))
mutual
def papermillref02_Gcd.j0 : Nat → List Int → List Int → Bool → Option (List Int × Int)
  | 0, _, _, _ => none
  | k + 1, x0, x1, x16 => if x16 = true then (some (([] : List Int), 3)) else ((some (([] : List Int) : List Int)).bind fun y374 => (if y374.length + x0.length < 17592186044416 then (papermillref02_Gcd.l0 k (y374 ++ x0) x1) else (none)))
def papermillref02_Gcd.l0 : Nat → List Int → List Int → Option (List Int × Int)
  | 0, _, _ => none
  | k + 1, x0, x1 => if (x1.length : Int) > 0 then ((papermillref02_DivMod.f k x0 x1).bind fun bt380 => ((some (([] : List Int) : List Int)).bind fun y387 => (if y387.length + x1.length < 17592186044416 then (papermillref02_Gcd.l0 k (y387 ++ x1) bt380.2.1) else (none)))) else (some (x0, 0))
end
def papermillref02_Gcd.f (k : Nat) (l0 : List Int) (l1 : List Int) : Option (List Int × Int) := (papermillref02_Valid.f k l0).bind fun t372 => (if t372 = true then ((papermillref02_Valid.f k l1).bind fun t373 => (papermillref02_Gcd.j0 k l0 l1 (!t373))) else (papermillref02_Gcd.j0 k l0 l1 true))
def papermillref02_Of.l0 : Nat → Int → List Int → Option (List Int × Int)
  | 0, _, _ => none
  | k + 1, x0, x4 => if x0 > 0 then (if x4.length < 17592186044416 then (papermillref02_Of.l0 k (wrap64 (Int.tdiv x0 1000000000)) (x4 ++ [Int.tmod x0 1000000000])) else (none)) else (some (x4, 0))
def papermillref02_Of.f (k : Nat) (a0 : Int) : Option (List Int × Int) := if a0 < 0 then (some (([] : List Int), 1)) else (papermillref02_Of.l0 k a0 ([] : List Int))
def papermillref02_Cmp.f (k : Nat) (l0 : List Int) (l1 : List Int) : Option (Int × Int) := (papermillref02_Valid.f k l0).bind fun t396 => (if t396 = true then ((papermillref02_Valid.f k l1).bind fun t397 => (if t397 = true then ((papermillref02_compare.f k l0 l1).bind fun t398 => (some (t398, 0))) else (some (0, 3)))) else (some (0, 3)))
def papermillref02_Same.l0 : Nat → List Int → List Int → Int → Option (Bool)
  | 0, _, _, _ => none
  | k + 1, x0, x1, x5 => if x5 < (x0.length : Int) then (if 0 ≤ x5 then (if x5 < (x1.length : Int) then (if (rd x0 x5) = (rd x1 x5) then (papermillref02_Same.l0 k x0 x1 (wrap64 (x5 + 1))) else (some false)) else (none)) else (none)) else (some true)
def papermillref02_Same.f (k : Nat) (l0 : List Int) (l1 : List Int) : Option (Bool) := if (l0.length : Int) = (l1.length : Int) then (papermillref02_Same.l0 k l0 l1 0) else (some false)
def papermillref03_limbs.l0 : Nat → List Int → List Int → Int → Option (Bool)
  | 0, _, _, _ => none
  | k + 1, x0, x1, x5 => if x5 < (x0.length : Int) then (if 0 ≤ x5 then (if x5 < (x1.length : Int) then (if (rd x0 x5) = (rd x1 x5) then (papermillref03_limbs.l0 k x0 x1 (wrap64 (x5 + 1))) else (some false)) else (none)) else (none)) else (some true)
def papermillref03_limbs.f (k : Nat) (l0 : List Int) (l1 : List Int) : Option (Bool) := if (l0.length : Int) = (l1.length : Int) then (papermillref03_limbs.l0 k l0 l1 0) else (some false)
end Go.Proofs.Ytiondkijgpjgcaa.Px
namespace Go.Proofs.Ytiondkijgpjgcaa.Pw
open Go Wd Px
set_option linter.unusedVariables false
set_option linter.unusedSimpArgs false
set_option maxRecDepth 100000
attribute [local irreducible] Int.tmod Int.tdiv
set_option maxHeartbeats 8000000
theorem ref_Valid.snd (k : Nat) (l : List Int) (r : Bool) (h : papermillref02_Valid.f k l = some r) : Sound Try.prog 48 [N l] (B r) := by
  refine Sound.of_WP tok Try.func48 rfl rfl ?_; simp only [Try.f48, args0, List.map, List.length_cons, List.length_nil, Nat.reduceAdd, Nat.reduceSub, List.replicate, List.cons_append, List.nil_append]
  unfold papermillref02_Valid.f at h
  repeat' (first | (simp only [if_true, if_false, Bool.false_eq_true, Bool.not_true, Bool.not_false, reduceIte] at h) | (split at h) | (rw [Option.bind_eq_some_iff] at h; obtain ⟨_, hbb, h⟩ := h; try (simp only [Option.some.injEq] at hbb; subst hbb)) | (cases h; done) | (simp only [Option.some.injEq, Prod.mk.injEq] at h; subst h) | (simp only [Option.some.injEq, Prod.mk.injEq] at h; (have h1 := h.1; have h2 := h.2; clear h; subst h1; first | subst h2 | (obtain ⟨h3, h4⟩ := h2; subst h3; subst h4))))
  all_goals (cases k with | zero => simp [papermillref02_Valid.j0] at h | succ k => ?_)
  all_goals
    simp only [papermillref02_Valid.j0] at h
    repeat' (first | (simp only [if_true, if_false, Bool.false_eq_true, Bool.not_true, Bool.not_false, reduceIte] at h) | (split at h) | (rw [Option.bind_eq_some_iff] at h; obtain ⟨_, hbb, h⟩ := h; try (simp only [Option.some.injEq] at hbb; subst hbb)) | (cases h; done) | (simp only [Option.some.injEq, Prod.mk.injEq] at h; subst h) | (simp only [Option.some.injEq, Prod.mk.injEq] at h; (have h1 := h.1; have h2 := h.2; clear h; subst h1; first | subst h2 | (obtain ⟨h3, h4⟩ := h2; subst h3; subst h4))))
  all_goals (try (rename_i hbq; simp only [beq_iff_eq] at hbq))
  all_goals
    repeat' (first | refine WP_seq ?_ | refine WP_block ?_ | refine regA 64 fun KQ hKQ => ?_ | refine regD 64 fun KQ hKQ => ?_ | refine opsA rfl rfl rfl rfl (nrmA ?_) | refine opsW_skip rfl (nrmA ?_) | (refine opsW_nil ⟨by kernel_rfl, hKQ _ _ _ (nrmB ?_)⟩; clear hKQ KQ) | (refine opsW_nil (hKQ _ _ _ (nrmB ?_)); clear hKQ KQ) | refine condT rfl ?_ | refine condF rfl ?_ | refine WP_skip (nrmB ?_) | refine WP_ret (nrmC ?_) | refine WP_exit (nrmC ?_))
    first
    | exact endA
    | (refine WP_loop (WPL_weaken ?_ (WPL_rec (α := Int) (fun k x => papermillref02_Valid.l0 k l x) r (fun x => (mkE 39 [(0, .p (N l)), (3, .p (I x))], [], 0)) ?_ k _ h)); · exact wkA)
    | skip
  all_goals
    · clear h; try clear k
      intro k x K ih h
      simp only [mkE, List.replicate, List.foldl, List.set]
      cases k with
      | zero => simp [papermillref02_Valid.l0] at h
      | succ k =>
        simp only [papermillref02_Valid.l0] at h
        repeat' (first | (simp only [if_true, if_false, Bool.false_eq_true, Bool.not_true, Bool.not_false, reduceIte] at h) | (split at h) | (rw [Option.bind_eq_some_iff] at h; obtain ⟨_, hbb, h⟩ := h; try (simp only [Option.some.injEq] at hbb; subst hbb)) | (cases h; done) | (simp only [Option.some.injEq, Prod.mk.injEq] at h; subst h) | (simp only [Option.some.injEq, Prod.mk.injEq] at h; (have h1 := h.1; have h2 := h.2; clear h; subst h1; first | subst h2 | (obtain ⟨h3, h4⟩ := h2; subst h3; subst h4))))
        all_goals
          repeat' (first | refine WP_seq ?_ | refine WP_block ?_ | refine regA 64 fun KQ hKQ => ?_ | refine regD 64 fun KQ hKQ => ?_ | refine opsA rfl rfl rfl rfl (nrmA ?_) | refine opsW_skip rfl (nrmA ?_) | (refine opsW_nil ⟨by kernel_rfl, hKQ _ _ _ (nrmB ?_)⟩; clear hKQ KQ) | (refine opsW_nil (hKQ _ _ _ (nrmB ?_)); clear hKQ KQ) | refine condT rfl ?_ | refine condF rfl ?_ | refine WP_skip (nrmB ?_) | refine WP_ret (nrmC ?_) | refine WP_exit (nrmC ?_))
          first
          | exact endA
          | (refine ih _ _ _ _ _ (Nat.lt_succ_self _) h ?_; exact wkA)
theorem ref_fit.snd (k : Nat) (l : List Int) (r : List Int) (e : Int) (h : papermillref02_fit.f k l = some (r, e)) : Sound Try.prog 77 [N l] (.tup [N r, I e]) := by
  refine Sound.of_WP tok Try.func77 rfl rfl ?_; simp only [Try.f77, args0, List.map, List.length_cons, List.length_nil, Nat.reduceAdd, Nat.reduceSub, List.replicate, List.cons_append, List.nil_append]
  unfold papermillref02_fit.f at h
  repeat' (first | refine WP_seq ?_ | refine WP_block ?_ | refine regA 64 fun KQ hKQ => ?_ | refine regD 64 fun KQ hKQ => ?_ | refine opsA rfl rfl rfl rfl (nrmA ?_) | refine opsW_skip rfl (nrmA ?_) | (refine opsW_nil ⟨by kernel_rfl, hKQ _ _ _ (nrmB ?_)⟩; clear hKQ KQ) | (refine opsW_nil (hKQ _ _ _ (nrmB ?_)); clear hKQ KQ) | refine condT rfl ?_ | refine condF rfl ?_ | refine WP_skip (nrmB ?_) | refine WP_ret (nrmC ?_) | refine WP_exit (nrmC ?_))
  refine WP_loop (WPL_weaken ?_ (WPL_rec (α := Int) (fun k x => papermillref02_fit.l0 k l x) (r, e) (fun x => (mkE 26 [(0, .p (N l)), (4, .p (I x))], [], 0)) ?_ k _ h))
  · exact wkA
  · clear h; try clear k
    intro k x K ih h
    simp only [mkE, List.replicate, List.foldl, List.set]
    cases k with
    | zero => simp [papermillref02_fit.l0] at h
    | succ k =>
      simp only [papermillref02_fit.l0] at h
      repeat' (first | (simp only [if_true, if_false, Bool.false_eq_true, Bool.not_true, Bool.not_false, reduceIte] at h) | (split at h) | (rw [Option.bind_eq_some_iff] at h; obtain ⟨_, hbb, h⟩ := h; try (simp only [Option.some.injEq] at hbb; subst hbb)) | (cases h; done) | (simp only [Option.some.injEq, Prod.mk.injEq] at h; subst h) | (simp only [Option.some.injEq, Prod.mk.injEq] at h; (have h1 := h.1; have h2 := h.2; clear h; subst h1; first | subst h2 | (obtain ⟨h3, h4⟩ := h2; subst h3; subst h4))))
      all_goals
        repeat' (first | refine WP_seq ?_ | refine WP_block ?_ | refine regA 64 fun KQ hKQ => ?_ | refine regD 64 fun KQ hKQ => ?_ | refine opsA rfl rfl rfl rfl (nrmA ?_) | refine opsW_skip rfl (nrmA ?_) | (refine opsW_nil ⟨by kernel_rfl, hKQ _ _ _ (nrmB ?_)⟩; clear hKQ KQ) | (refine opsW_nil (hKQ _ _ _ (nrmB ?_)); clear hKQ KQ) | refine condT rfl ?_ | refine condF rfl ?_ | refine WP_skip (nrmB ?_) | refine WP_ret (nrmC ?_) | refine WP_exit (nrmC ?_))
        first
        | exact endA
        | (refine ih _ _ _ _ _ (Nat.lt_succ_self _) h ?_; exact wkA)
theorem ref_compare.snd (k : Nat) (a b : List Int) (r : Int) (h : papermillref02_compare.f k a b = some r) : Sound Try.prog 79 [N a, N b] (I r) := by
  refine Sound.of_WP tok Try.func79 rfl rfl ?_; simp only [Try.f79, args0, List.map, List.length_cons, List.length_nil, Nat.reduceAdd, Nat.reduceSub, List.replicate, List.cons_append, List.nil_append]
  unfold papermillref02_compare.f at h
  split at h
  · repeat' (first | refine WP_seq ?_ | refine WP_block ?_ | refine regA 64 fun KQ hKQ => ?_ | refine regD 64 fun KQ hKQ => ?_ | refine opsA rfl rfl rfl rfl (nrmA ?_) | refine opsW_skip rfl (nrmA ?_) | (refine opsW_nil ⟨by kernel_rfl, hKQ _ _ _ (nrmB ?_)⟩; clear hKQ KQ) | (refine opsW_nil (hKQ _ _ _ (nrmB ?_)); clear hKQ KQ) | refine condT rfl ?_ | refine condF rfl ?_ | refine WP_skip (nrmB ?_) | refine WP_ret (nrmC ?_) | refine WP_exit (nrmC ?_))
    refine WP_loop (WPL_weaken ?_ (WPL_rec (α := Int) (fun k x => papermillref02_compare.l0 k a b x) r (fun x => (mkE 41 [(0, .p (N a)), (1, .p (N b)), (5, .p (I x))], [], 0)) ?_ k _ h))
    · exact wkA
    · clear h; try clear k
      intro k x K ih h
      simp only [mkE, List.replicate, List.foldl, List.set]
      cases k with
      | zero => simp [papermillref02_compare.l0] at h
      | succ k =>
        simp only [papermillref02_compare.l0] at h
        repeat' (first | (simp only [if_true, if_false, Bool.false_eq_true, Bool.not_true, Bool.not_false, reduceIte] at h) | (split at h) | (rw [Option.bind_eq_some_iff] at h; obtain ⟨_, hbb, h⟩ := h; try (simp only [Option.some.injEq] at hbb; subst hbb)) | (cases h; done) | (simp only [Option.some.injEq, Prod.mk.injEq] at h; subst h) | (simp only [Option.some.injEq, Prod.mk.injEq] at h; (have h1 := h.1; have h2 := h.2; clear h; subst h1; first | subst h2 | (obtain ⟨h3, h4⟩ := h2; subst h3; subst h4))))
        all_goals
          repeat' (first | refine WP_seq ?_ | refine WP_block ?_ | refine regA 64 fun KQ hKQ => ?_ | refine regD 64 fun KQ hKQ => ?_ | refine opsA rfl rfl rfl rfl (nrmA ?_) | refine opsW_skip rfl (nrmA ?_) | (refine opsW_nil ⟨by kernel_rfl, hKQ _ _ _ (nrmB ?_)⟩; clear hKQ KQ) | (refine opsW_nil (hKQ _ _ _ (nrmB ?_)); clear hKQ KQ) | refine condT rfl ?_ | refine condF rfl ?_ | refine WP_skip (nrmB ?_) | refine WP_ret (nrmC ?_) | refine WP_exit (nrmC ?_))
          first
          | exact endA
          | (refine ih _ _ _ _ _ (Nat.lt_succ_self _) h ?_; exact wkA)
  · repeat' (first | (simp only [if_true, if_false, Bool.false_eq_true, Bool.not_true, Bool.not_false, reduceIte] at h) | (split at h) | (rw [Option.bind_eq_some_iff] at h; obtain ⟨_, hbb, h⟩ := h; try (simp only [Option.some.injEq] at hbb; subst hbb)) | (cases h; done) | (simp only [Option.some.injEq, Prod.mk.injEq] at h; subst h) | (simp only [Option.some.injEq, Prod.mk.injEq] at h; (have h1 := h.1; have h2 := h.2; clear h; subst h1; first | subst h2 | (obtain ⟨h3, h4⟩ := h2; subst h3; subst h4))))
    all_goals
      repeat' (first | refine WP_seq ?_ | refine WP_block ?_ | refine regA 64 fun KQ hKQ => ?_ | refine regD 64 fun KQ hKQ => ?_ | refine opsA rfl rfl rfl rfl (nrmA ?_) | refine opsW_skip rfl (nrmA ?_) | (refine opsW_nil ⟨by kernel_rfl, hKQ _ _ _ (nrmB ?_)⟩; clear hKQ KQ) | (refine opsW_nil (hKQ _ _ _ (nrmB ?_)); clear hKQ KQ) | refine condT rfl ?_ | refine condF rfl ?_ | refine WP_skip (nrmB ?_) | refine WP_ret (nrmC ?_) | refine WP_exit (nrmC ?_))
      exact endA
theorem ref_at.snd (l : List Int) (i r : Int) (h : papermillref02_at.f l i = some r) : Sound Try.prog 98 [N l, I i] (I r) := by
  refine Sound.of_WP tok Try.func98 rfl rfl ?_; simp only [Try.f98, args0, List.map, List.length_cons, List.length_nil, Nat.reduceAdd, Nat.reduceSub, List.replicate, List.cons_append, List.nil_append]
  unfold papermillref02_at.f at h
  repeat' (first | (simp only [if_true, if_false, Bool.false_eq_true, Bool.not_true, Bool.not_false, reduceIte] at h) | (split at h) | (rw [Option.bind_eq_some_iff] at h; obtain ⟨_, hbb, h⟩ := h; try (simp only [Option.some.injEq] at hbb; subst hbb)) | (cases h; done) | (simp only [Option.some.injEq, Prod.mk.injEq] at h; subst h) | (simp only [Option.some.injEq, Prod.mk.injEq] at h; (have h1 := h.1; have h2 := h.2; clear h; subst h1; first | subst h2 | (obtain ⟨h3, h4⟩ := h2; subst h3; subst h4))))
  all_goals
    repeat' (first | refine WP_seq ?_ | refine WP_block ?_ | refine regA 64 fun KQ hKQ => ?_ | refine regD 64 fun KQ hKQ => ?_ | refine opsA rfl rfl rfl rfl (nrmA ?_) | refine opsW_skip rfl (nrmA ?_) | (refine opsW_nil ⟨by kernel_rfl, hKQ _ _ _ (nrmB ?_)⟩; clear hKQ KQ) | (refine opsW_nil (hKQ _ _ _ (nrmB ?_)); clear hKQ KQ) | refine condT rfl ?_ | refine condF rfl ?_ | refine WP_skip (nrmB ?_) | refine WP_ret (nrmC ?_) | refine WP_exit (nrmC ?_))
    exact endA
theorem ref_Same.snd (k : Nat) (a b : List Int) (r : Bool) (h : papermillref02_Same.f k a b = some r) : Sound Try.prog 55 [N a, N b] (B r) := by
  refine Sound.of_WP tok Try.func55 rfl rfl ?_; simp only [Try.f55, args0, List.map, List.length_cons, List.length_nil, Nat.reduceAdd, Nat.reduceSub, List.replicate, List.cons_append, List.nil_append]
  unfold papermillref02_Same.f at h
  split at h
  · repeat' (first | refine WP_seq ?_ | refine WP_block ?_ | refine regA 64 fun KQ hKQ => ?_ | refine regD 64 fun KQ hKQ => ?_ | refine opsA rfl rfl rfl rfl (nrmA ?_) | refine opsW_skip rfl (nrmA ?_) | (refine opsW_nil ⟨by kernel_rfl, hKQ _ _ _ (nrmB ?_)⟩; clear hKQ KQ) | (refine opsW_nil (hKQ _ _ _ (nrmB ?_)); clear hKQ KQ) | refine condT rfl ?_ | refine condF rfl ?_ | refine WP_skip (nrmB ?_) | refine WP_ret (nrmC ?_) | refine WP_exit (nrmC ?_))
    refine WP_loop (WPL_weaken ?_ (WPL_rec (α := Int) (fun k x => papermillref02_Same.l0 k a b x) r (fun x => (mkE 26 [(0, .p (N a)), (1, .p (N b)), (5, .p (I x))], [], 0)) ?_ k _ h))
    · exact wkA
    rename_i hl; clear hl
    · clear h; try clear k
      intro k x K ih h
      simp only [mkE, List.replicate, List.foldl, List.set]
      cases k with
      | zero => simp [papermillref02_Same.l0] at h
      | succ k =>
        simp only [papermillref02_Same.l0] at h
        repeat' (first | (simp only [if_true, if_false, Bool.false_eq_true, Bool.not_true, Bool.not_false, reduceIte] at h) | (split at h) | (rw [Option.bind_eq_some_iff] at h; obtain ⟨_, hbb, h⟩ := h; try (simp only [Option.some.injEq] at hbb; subst hbb)) | (cases h; done) | (simp only [Option.some.injEq, Prod.mk.injEq] at h; subst h) | (simp only [Option.some.injEq, Prod.mk.injEq] at h; (have h1 := h.1; have h2 := h.2; clear h; subst h1; first | subst h2 | (obtain ⟨h3, h4⟩ := h2; subst h3; subst h4))))
        all_goals
          repeat' (first | refine WP_seq ?_ | refine WP_block ?_ | refine regA 64 fun KQ hKQ => ?_ | refine regD 64 fun KQ hKQ => ?_ | refine opsA rfl rfl rfl rfl (nrmA ?_) | refine opsW_skip rfl (nrmA ?_) | (refine opsW_nil ⟨by kernel_rfl, hKQ _ _ _ (nrmB ?_)⟩; clear hKQ KQ) | (refine opsW_nil (hKQ _ _ _ (nrmB ?_)); clear hKQ KQ) | refine condT rfl ?_ | refine condF rfl ?_ | refine WP_skip (nrmB ?_) | refine WP_ret (nrmC ?_) | refine WP_exit (nrmC ?_))
          first
          | exact endA
          | (refine ih _ _ _ _ _ (Nat.lt_succ_self _) h ?_; exact wkA)
  · repeat' (first | (simp only [if_true, if_false, Bool.false_eq_true, Bool.not_true, Bool.not_false, reduceIte] at h) | (split at h) | (rw [Option.bind_eq_some_iff] at h; obtain ⟨_, hbb, h⟩ := h; try (simp only [Option.some.injEq] at hbb; subst hbb)) | (cases h; done) | (simp only [Option.some.injEq, Prod.mk.injEq] at h; subst h) | (simp only [Option.some.injEq, Prod.mk.injEq] at h; (have h1 := h.1; have h2 := h.2; clear h; subst h1; first | subst h2 | (obtain ⟨h3, h4⟩ := h2; subst h3; subst h4))))
    all_goals
      repeat' (first | refine WP_seq ?_ | refine WP_block ?_ | refine regA 64 fun KQ hKQ => ?_ | refine regD 64 fun KQ hKQ => ?_ | refine opsA rfl rfl rfl rfl (nrmA ?_) | refine opsW_skip rfl (nrmA ?_) | (refine opsW_nil ⟨by kernel_rfl, hKQ _ _ _ (nrmB ?_)⟩; clear hKQ KQ) | (refine opsW_nil (hKQ _ _ _ (nrmB ?_)); clear hKQ KQ) | refine condT rfl ?_ | refine condF rfl ?_ | refine WP_skip (nrmB ?_) | refine WP_ret (nrmC ?_) | refine WP_exit (nrmC ?_))
      exact endA
end Go.Proofs.Ytiondkijgpjgcaa.Pw
