/- The functions of the program as functions of values, part 5: a proof's lemmas, with no condition of their own. -/
import Derived.Test.YtiondkijgpjgcaaSac
import Derived.Test.YtiondkijgpjgcaaSad
set_option linter.unusedVariables false
set_option linter.unusedSimpArgs false
namespace Go.Proofs.Ytiondkijgpjgcaa.Pw
open Go Wd Px
set_option linter.unusedVariables false
set_option linter.unusedSimpArgs false
set_option maxRecDepth 100000
attribute [local irreducible] Int.tmod Int.tdiv
set_option maxHeartbeats 8000000
theorem ref_Of.snd (k : Nat) (n : Int) (r : List Int) (e : Int) (h : papermillref02_Of.f k n = some (r, e)) : Sound Try.prog 80 [I n] (.tup [N r, I e]) := by
  refine Sound.of_WP tok Try.func80 rfl rfl ?_; simp only [Try.f80, args0, List.map, List.length_cons, List.length_nil, Nat.reduceAdd, Nat.reduceSub, List.replicate, List.cons_append, List.nil_append]
  unfold papermillref02_Of.f at h
  split at h
  · repeat' (first | (simp only [if_true, if_false, Bool.false_eq_true, Bool.not_true, Bool.not_false, reduceIte] at h) | (split at h) | (rw [Option.bind_eq_some_iff] at h; obtain ⟨_, hbb, h⟩ := h; try (simp only [Option.some.injEq] at hbb; subst hbb)) | (cases h; done) | (simp only [Option.some.injEq, Prod.mk.injEq] at h; subst h) | (simp only [Option.some.injEq, Prod.mk.injEq] at h; (have h1 := h.1; have h2 := h.2; clear h; subst h1; first | subst h2 | (obtain ⟨h3, h4⟩ := h2; subst h3; subst h4))))
    repeat' (first | refine WP_seq ?_ | refine WP_block ?_ | refine regA 64 fun KQ hKQ => ?_ | refine regD 64 fun KQ hKQ => ?_ | refine opsA rfl rfl rfl rfl (nrmA ?_) | refine opsW_skip rfl (nrmA ?_) | (refine opsW_nil ⟨by kernel_rfl, hKQ _ _ _ (nrmB ?_)⟩; clear hKQ KQ) | (refine opsW_nil (hKQ _ _ _ (nrmB ?_)); clear hKQ KQ) | refine condT rfl ?_ | refine condF rfl ?_ | refine WP_skip (nrmB ?_) | refine WP_ret (nrmC ?_) | refine WP_exit (nrmC ?_))
    exact endA
  · repeat' (first | refine WP_seq ?_ | refine WP_block ?_ | refine regA 64 fun KQ hKQ => ?_ | refine regD 64 fun KQ hKQ => ?_ | refine opsA rfl rfl rfl rfl (nrmA ?_) | refine opsW_skip rfl (nrmA ?_) | (refine opsW_nil ⟨by kernel_rfl, hKQ _ _ _ (nrmB ?_)⟩; clear hKQ KQ) | (refine opsW_nil (hKQ _ _ _ (nrmB ?_)); clear hKQ KQ) | refine condT rfl ?_ | refine condF rfl ?_ | refine WP_skip (nrmB ?_) | refine WP_ret (nrmC ?_) | refine WP_exit (nrmC ?_))
    refine WP_loop (WPL_weaken ?_ (WPL_rec (α := Int × List Int) (fun k x => papermillref02_Of.l0 k x.1 x.2) (r, e) (fun x => (mkE 17 [(0, .p (I x.1)), (4, .sl 0 0 x.2.length 1)], [(0, .pc 3 (x.2.map I))], 1)) ?_ k (_, _) h))
    · exact wkA
    · clear h; try clear k
      intro k ⟨x1, x2⟩ K ih h
      simp only [mkE, List.replicate, List.foldl, List.set]
      cases k with
      | zero => simp [papermillref02_Of.l0] at h
      | succ k =>
        simp only [papermillref02_Of.l0] at h
        repeat' (first | (simp only [if_true, if_false, Bool.false_eq_true, Bool.not_true, Bool.not_false, reduceIte] at h) | (split at h) | (rw [Option.bind_eq_some_iff] at h; obtain ⟨_, hbb, h⟩ := h; try (simp only [Option.some.injEq] at hbb; subst hbb)) | (cases h; done) | (simp only [Option.some.injEq, Prod.mk.injEq] at h; subst h) | (simp only [Option.some.injEq, Prod.mk.injEq] at h; (have h1 := h.1; have h2 := h.2; clear h; subst h1; first | subst h2 | (obtain ⟨h3, h4⟩ := h2; subst h3; subst h4))))
        all_goals
          repeat' (first | refine WP_seq ?_ | refine WP_block ?_ | refine regA 64 fun KQ hKQ => ?_ | refine regD 64 fun KQ hKQ => ?_ | refine opsA rfl rfl rfl rfl (nrmA ?_) | refine opsW_skip rfl (nrmA ?_) | (refine opsW_nil ⟨by kernel_rfl, hKQ _ _ _ (nrmB ?_)⟩; clear hKQ KQ) | (refine opsW_nil (hKQ _ _ _ (nrmB ?_)); clear hKQ KQ) | refine condT rfl ?_ | refine condF rfl ?_ | refine WP_skip (nrmB ?_) | refine WP_ret (nrmC ?_) | refine WP_exit (nrmC ?_))
          first
          | exact endA
          | (refine ih _ _ _ _ (_, _) (Nat.lt_succ_self _) h ?_; exact wkA)
theorem ref_Cmp.snd (k : Nat) (a b : List Int) (r e : Int) (h : papermillref02_Cmp.f k a b = some (r, e)) : Sound Try.prog 53 [N a, N b] (.tup [I r, I e]) := by
  refine Sound.of_WP tok Try.func53 rfl rfl ?_; simp only [Try.f53, args0, List.map, List.length_cons, List.length_nil, Nat.reduceAdd, Nat.reduceSub, List.replicate, List.cons_append, List.nil_append]
  unfold papermillref02_Cmp.f at h
  repeat' (first | (simp only [if_true, if_false, Bool.false_eq_true, Bool.not_true, Bool.not_false, reduceIte] at h) | (split at h) | (rw [Option.bind_eq_some_iff] at h; obtain ⟨_, hbb, h⟩ := h; try (simp only [Option.some.injEq] at hbb; subst hbb)) | (cases h; done) | (simp only [Option.some.injEq, Prod.mk.injEq] at h; subst h) | (simp only [Option.some.injEq, Prod.mk.injEq] at h; (have h1 := h.1; have h2 := h.2; clear h; subst h1; first | subst h2 | (obtain ⟨h3, h4⟩ := h2; subst h3; subst h4))))
  all_goals
    repeat' (first | refine WP_seq ?_ | refine WP_block ?_ | refine regA 64 fun KQ hKQ => ?_ | refine regD 64 fun KQ hKQ => ?_ | refine opsA rfl rfl rfl rfl (nrmA ?_) | refine callA rfl rfl rfl (nrmA ?_) (hs := ref_Valid.snd _ _ _ (by first | assumption | omega | rfl | (simp; omega))) | refine callA rfl rfl rfl (nrmA ?_) (hs := ref_compare.snd _ _ _ _ (by first | assumption | omega | rfl | (simp; omega))) | refine opsW_skip rfl (nrmA ?_) | (refine opsW_nil ⟨by kernel_rfl, hKQ _ _ _ (nrmB ?_)⟩; clear hKQ KQ) | (refine opsW_nil (hKQ _ _ _ (nrmB ?_)); clear hKQ KQ) | refine condT rfl ?_ | refine condF rfl ?_ | refine WP_skip (nrmB ?_) | refine WP_ret (nrmC ?_) | refine WP_exit (nrmC ?_))
    exact endA
theorem ref_Add.snd (k : Nat) (a b : List Int) (r : List Int) (e : Int) (h : papermillref02_Add.f k a b = some (r, e)) : Sound Try.prog 99 [N a, N b] (.tup [N r, I e]) := by
  refine Sound.of_WP tok Try.func99 rfl rfl ?_; simp only [Try.f99, args0, List.map, List.length_cons, List.length_nil, Nat.reduceAdd, Nat.reduceSub, List.replicate, List.cons_append, List.nil_append]
  unfold papermillref02_Add.f at h
  repeat' (first | (simp only [if_true, if_false, Bool.false_eq_true, Bool.not_true, Bool.not_false, reduceIte] at h) | (split at h) | (rw [Option.bind_eq_some_iff] at h; obtain ⟨_, hbb, h⟩ := h; try (simp only [Option.some.injEq] at hbb; subst hbb)) | (cases h; done) | (simp only [Option.some.injEq, Prod.mk.injEq] at h; subst h) | (simp only [Option.some.injEq, Prod.mk.injEq] at h; (have h1 := h.1; have h2 := h.2; clear h; subst h1; first | subst h2 | (obtain ⟨h3, h4⟩ := h2; subst h3; subst h4))))
  all_goals (cases k with | zero => simp [papermillref02_Add.j0] at h | succ k => ?_)
  all_goals
    simp only [papermillref02_Add.j0] at h
    repeat' (first | (simp only [if_true, if_false, Bool.false_eq_true, Bool.not_true, Bool.not_false, reduceIte] at h) | (split at h) | (rw [Option.bind_eq_some_iff] at h; obtain ⟨_, hbb, h⟩ := h; try (simp only [Option.some.injEq] at hbb; subst hbb)) | (cases h; done) | (simp only [Option.some.injEq, Prod.mk.injEq] at h; subst h) | (simp only [Option.some.injEq, Prod.mk.injEq] at h; (have h1 := h.1; have h2 := h.2; clear h; subst h1; first | subst h2 | (obtain ⟨h3, h4⟩ := h2; subst h3; subst h4))))
  all_goals
    repeat' (first | refine WP_seq ?_ | refine WP_block ?_ | refine regA 64 fun KQ hKQ => ?_ | refine regD 64 fun KQ hKQ => ?_ | refine opsA rfl rfl rfl rfl (nrmA ?_) | refine callA rfl rfl rfl (nrmA ?_) (hs := ref_Valid.snd _ _ _ (by first | assumption | omega | rfl | (simp; omega))) | refine opsW_skip rfl (nrmA ?_) | (refine opsW_nil ⟨by kernel_rfl, hKQ _ _ _ (nrmB ?_)⟩; clear hKQ KQ) | (refine opsW_nil (hKQ _ _ _ (nrmB ?_)); clear hKQ KQ) | refine condT rfl ?_ | refine condF rfl ?_ | refine WP_skip (nrmB ?_) | refine WP_ret (nrmC ?_) | refine WP_exit (nrmC ?_))
    first
    | exact endA
    | (refine WP_loop (WPL_weaken ?_ (WPL_rec (α := List Int × Int × Int) (fun k x => papermillref02_Add.l0 k a b x.1 x.2.1 x.2.2) (r, e) (fun x => (mkE 54 [(0, .p (N a)), (1, .p (N b)), (6, .sl 0 0 x.1.length 1), (7, .p (I x.2.1)), (8, .p (I x.2.2))], [(0, .pc 3 (x.1.map I))], 1)) ?_ k (_, _, _) h)); · exact wkA)
    | skip
  · clear h; try clear k
    intro k ⟨x1, x2, x3⟩ K ih h
    simp only [mkE, List.replicate, List.foldl, List.set]
    cases k with
    | zero => simp [papermillref02_Add.l0] at h
    | succ k =>
      simp only [papermillref02_Add.l0] at h
      repeat' (first | (simp only [if_true, if_false, Bool.false_eq_true, Bool.not_true, Bool.not_false, reduceIte] at h) | (split at h) | (rw [Option.bind_eq_some_iff] at h; obtain ⟨_, hbb, h⟩ := h; try (simp only [Option.some.injEq] at hbb; subst hbb)) | (cases h; done) | (simp only [Option.some.injEq, Prod.mk.injEq] at h; subst h) | (simp only [Option.some.injEq, Prod.mk.injEq] at h; (have h1 := h.1; have h2 := h.2; clear h; subst h1; first | subst h2 | (obtain ⟨h3, h4⟩ := h2; subst h3; subst h4))))
      all_goals (cases k with | zero => simp [papermillref02_Add.j2] at h | succ k => ?_)
      all_goals
        simp only [papermillref02_Add.j2, decide_eq_true_eq] at h
        repeat' (first | (simp only [if_true, if_false, Bool.false_eq_true, Bool.not_true, Bool.not_false, reduceIte] at h) | (split at h) | (rw [Option.bind_eq_some_iff] at h; obtain ⟨_, hbb, h⟩ := h; try (simp only [Option.some.injEq] at hbb; subst hbb)) | (cases h; done) | (simp only [Option.some.injEq, Prod.mk.injEq] at h; subst h) | (simp only [Option.some.injEq, Prod.mk.injEq] at h; (have h1 := h.1; have h2 := h.2; clear h; subst h1; first | subst h2 | (obtain ⟨h3, h4⟩ := h2; subst h3; subst h4))))
      all_goals
        repeat' (first | refine WP_seq ?_ | refine WP_block ?_ | refine regA 64 fun KQ hKQ => ?_ | refine regD 64 fun KQ hKQ => ?_ | refine opsA rfl rfl rfl rfl (nrmA ?_) | refine callA rfl rfl rfl (nrmA ?_) (hs := ref_at.snd _ _ _ (by first | assumption | omega | rfl | (simp; omega))) | refine callA rfl rfl rfl (nrmA ?_) (hs := ref_fit.snd _ _ _ _ (by first | assumption | omega | rfl | (simp; omega))) | refine opsW_skip rfl (nrmA ?_) | (refine opsW_nil ⟨by kernel_rfl, hKQ _ _ _ (nrmB ?_)⟩; clear hKQ KQ) | (refine opsW_nil (hKQ _ _ _ (nrmB ?_)); clear hKQ KQ) | refine condT rfl ?_ | refine condF rfl ?_ | refine WP_skip (nrmB ?_) | refine WP_ret (nrmC ?_) | refine WP_exit (nrmC ?_))
        first
        | exact endA
        | (refine ih _ _ _ _ (_, _, _) (by omega) h ?_; exact wkA)
        | skip
theorem ref_minus.snd (k : Nat) (a b : List Int) (r : List Int) (h : papermillref02_minus.f k a b = some r) : Sound Try.prog 97 [N a, N b] (N r) := by
  refine Sound.of_WP tok Try.func97 rfl rfl ?_; simp only [Try.f97, args0, List.map, List.length_cons, List.length_nil, Nat.reduceAdd, Nat.reduceSub, List.replicate, List.cons_append, List.nil_append]
  unfold papermillref02_minus.f at h
  repeat' (first | refine WP_seq ?_ | refine WP_block ?_ | refine regA 64 fun KQ hKQ => ?_ | refine regD 64 fun KQ hKQ => ?_ | refine opsA rfl rfl rfl rfl (nrmA ?_) | refine opsW_skip rfl (nrmA ?_) | (refine opsW_nil ⟨by kernel_rfl, hKQ _ _ _ (nrmB ?_)⟩; clear hKQ KQ) | (refine opsW_nil (hKQ _ _ _ (nrmB ?_)); clear hKQ KQ) | refine condT rfl ?_ | refine condF rfl ?_ | refine WP_skip (nrmB ?_) | refine WP_ret (nrmC ?_) | refine WP_exit (nrmC ?_))
  refine WP_loop (WPL_weaken ?_ (WPL_rec (α := List Int × Int × Int) (fun k x => papermillref02_minus.l0 k a b x.1 x.2.1 x.2.2) r (fun x => (mkE 39 [(0, .p (N a)), (1, .p (N b)), (5, .sl 0 0 x.1.length 1), (6, .p (I x.2.1)), (7, .p (I x.2.2))], [(0, .pc 3 (x.1.map I))], 1)) ?_ k (_, _, _) h))
  · exact wkA
  · clear h; try clear k
    intro k ⟨x1, x2, x3⟩ K ih h
    simp only [mkE, List.replicate, List.foldl, List.set]
    cases k with
    | zero => simp [papermillref02_minus.l0] at h
    | succ k =>
      simp only [papermillref02_minus.l0] at h
      repeat' (first | (simp only [if_true, if_false, Bool.false_eq_true, Bool.not_true, Bool.not_false, reduceIte] at h) | (split at h) | (rw [Option.bind_eq_some_iff] at h; obtain ⟨_, hbb, h⟩ := h; try (simp only [Option.some.injEq] at hbb; subst hbb)) | (cases h; done) | (simp only [Option.some.injEq, Prod.mk.injEq] at h; subst h) | (simp only [Option.some.injEq, Prod.mk.injEq] at h; (have h1 := h.1; have h2 := h.2; clear h; subst h1; first | subst h2 | (obtain ⟨h3, h4⟩ := h2; subst h3; subst h4))))
      all_goals
        repeat' (first | refine WP_seq ?_ | refine WP_block ?_ | refine regA 64 fun KQ hKQ => ?_ | refine regD 64 fun KQ hKQ => ?_ | refine opsA rfl rfl rfl rfl (nrmA ?_) | refine callA rfl rfl rfl (nrmA ?_) (hs := ref_at.snd _ _ _ (by first | assumption | omega | rfl | (simp; omega))) | refine callA rfl rfl rfl (nrmA ?_) (hs := ref_fit.snd _ _ _ _ (by first | assumption | omega | rfl | (simp; omega))) | refine opsW_skip rfl (nrmA ?_) | (refine opsW_nil ⟨by kernel_rfl, hKQ _ _ _ (nrmB ?_)⟩; clear hKQ KQ) | (refine opsW_nil (hKQ _ _ _ (nrmB ?_)); clear hKQ KQ) | refine condT rfl ?_ | refine condF rfl ?_ | refine WP_skip (nrmB ?_) | refine WP_ret (nrmC ?_) | refine WP_exit (nrmC ?_))
        first
        | exact endA
        | (refine ih _ _ _ _ (_, _, _) (Nat.lt_succ_self _) h ?_; exact wkA)
theorem ref_Sub.snd (k : Nat) (a b : List Int) (r : List Int) (e : Int) (h : papermillref02_Sub.f k a b = some (r, e)) : Sound Try.prog 100 [N a, N b] (.tup [N r, I e]) := by
  refine Sound.of_WP tok Try.func100 rfl rfl ?_; simp only [Try.f100, args0, List.map, List.length_cons, List.length_nil, Nat.reduceAdd, Nat.reduceSub, List.replicate, List.cons_append, List.nil_append]
  unfold papermillref02_Sub.f at h
  repeat' (first | (simp only [if_true, if_false, Bool.false_eq_true, Bool.not_true, Bool.not_false, reduceIte] at h) | (split at h) | (rw [Option.bind_eq_some_iff] at h; obtain ⟨_, hbb, h⟩ := h; try (simp only [Option.some.injEq] at hbb; subst hbb)) | (cases h; done) | (simp only [Option.some.injEq, Prod.mk.injEq] at h; subst h) | (simp only [Option.some.injEq, Prod.mk.injEq] at h; (have h1 := h.1; have h2 := h.2; clear h; subst h1; first | subst h2 | (obtain ⟨h3, h4⟩ := h2; subst h3; subst h4))))
  all_goals (cases k with | zero => simp [papermillref02_Sub.j0] at h | succ k => ?_)
  all_goals
    simp only [papermillref02_Sub.j0] at h
    repeat' (first | (simp only [if_true, if_false, Bool.false_eq_true, Bool.not_true, Bool.not_false, reduceIte] at h) | (split at h) | (rw [Option.bind_eq_some_iff] at h; obtain ⟨_, hbb, h⟩ := h; try (simp only [Option.some.injEq] at hbb; subst hbb)) | (cases h; done) | (simp only [Option.some.injEq, Prod.mk.injEq] at h; subst h) | (simp only [Option.some.injEq, Prod.mk.injEq] at h; (have h1 := h.1; have h2 := h.2; clear h; subst h1; first | subst h2 | (obtain ⟨h3, h4⟩ := h2; subst h3; subst h4))))
  all_goals
    repeat' (first | refine WP_seq ?_ | refine WP_block ?_ | refine regA 64 fun KQ hKQ => ?_ | refine regD 64 fun KQ hKQ => ?_ | refine opsA rfl rfl rfl rfl (nrmA ?_) | refine callA rfl rfl rfl (nrmA ?_) (hs := ref_Valid.snd _ _ _ (by first | assumption | omega | rfl | (simp; omega))) | refine callA rfl rfl rfl (nrmA ?_) (hs := ref_compare.snd _ _ _ _ (by first | assumption | omega | rfl | (simp; omega))) | refine callA rfl rfl rfl (nrmA ?_) (hs := ref_minus.snd _ _ _ _ (by first | assumption | omega | rfl | (simp; omega))) | refine opsW_skip rfl (nrmA ?_) | (refine opsW_nil ⟨by kernel_rfl, hKQ _ _ _ (nrmB ?_)⟩; clear hKQ KQ) | (refine opsW_nil (hKQ _ _ _ (nrmB ?_)); clear hKQ KQ) | refine condT rfl ?_ | refine condF rfl ?_ | refine WP_skip (nrmB ?_) | refine WP_ret (nrmC ?_) | refine WP_exit (nrmC ?_))
    exact endA
end Go.Proofs.Ytiondkijgpjgcaa.Pw
namespace Go.Proofs.Ytiondkijgpjgcaa.Pw
open Go Wd Px
set_option linter.unusedVariables false
set_option linter.unusedSimpArgs false
set_option maxRecDepth 100000
attribute [local irreducible] Int.tmod Int.tdiv
set_option maxHeartbeats 8000000
theorem ref_times.snd (k : Nat) (a b : List Int) (r : List Int) (h : papermillref02_times.f k a b = some r) : Sound Try.prog 78 [N a, N b] (N r) := by
  refine Sound.of_WP tok Try.func78 rfl rfl ?_; simp only [Try.f78, args0, List.map, List.length_cons, List.length_nil, Nat.reduceAdd, Nat.reduceSub, List.replicate, List.cons_append, List.nil_append]
  unfold papermillref02_times.f at h
  repeat' (first | (simp only [if_true, if_false, Bool.false_eq_true, Bool.not_true, Bool.not_false, reduceIte] at h) | (split at h) | (rw [Option.bind_eq_some_iff] at h; obtain ⟨_, hbb, h⟩ := h; try (simp only [Option.some.injEq] at hbb; subst hbb)) | (cases h; done) | (simp only [Option.some.injEq, Prod.mk.injEq] at h; subst h) | (simp only [Option.some.injEq, Prod.mk.injEq] at h; (have h1 := h.1; have h2 := h.2; clear h; subst h1; first | subst h2 | (obtain ⟨h3, h4⟩ := h2; subst h3; subst h4))))
  repeat' (first | refine WP_seq ?_ | refine WP_block ?_ | refine regA 64 fun KQ hKQ => ?_ | refine regD 64 fun KQ hKQ => ?_ | refine opsA rfl rfl rfl rfl (nrmA ?_) | refine opsW_skip rfl (nrmA ?_) | (refine opsW_nil ⟨by kernel_rfl, hKQ _ _ _ (nrmB ?_)⟩; clear hKQ KQ) | (refine opsW_nil (hKQ _ _ _ (nrmB ?_)); clear hKQ KQ) | refine condT rfl ?_ | refine condF rfl ?_ | refine WP_skip (nrmB ?_) | refine WP_ret (nrmC ?_) | refine WP_exit (nrmC ?_))
  refine WP_loop (WPL_weaken ?_ (WPL_rec (α := List Int × Int) (fun k x => papermillref02_times.l0 k a b x.1 x.2) r (fun x => (mkE 76 [(0, .p (N a)), (1, .p (N b)), (5, .sl 0 0 x.1.length 1), (6, .p (I x.2))], [(0, .pc 3 (x.1.map I))], 1)) ?_ k (_, _) h))
  · exact wkA
  · clear h; try clear k
    intro k ⟨x1, x2⟩ K ih h
    simp only [mkE, List.replicate, List.foldl, List.set]
    cases k with
    | zero => simp [papermillref02_times.l0] at h
    | succ k =>
      simp only [papermillref02_times.l0] at h
      split at h
      · repeat' (first | refine WP_seq ?_ | refine WP_block ?_ | refine regA 64 fun KQ hKQ => ?_ | refine regD 64 fun KQ hKQ => ?_ | refine opsA rfl rfl rfl rfl (nrmA ?_) | refine opsW_skip rfl (nrmA ?_) | (refine opsW_nil ⟨by kernel_rfl, hKQ _ _ _ (nrmB ?_)⟩; clear hKQ KQ) | (refine opsW_nil (hKQ _ _ _ (nrmB ?_)); clear hKQ KQ) | refine condT rfl ?_ | refine condF rfl ?_ | refine WP_skip (nrmB ?_) | refine WP_ret (nrmC ?_) | refine WP_exit (nrmC ?_))
        refine WP_loop (WPL_weaken ?_ (WPL_recB (α := List Int × Int × Int) (fun k x => papermillref02_times.l1 k a b x.1 x2 x.2.1 x.2.2) r (fun x => (mkE 76 [(0, .p (N a)), (1, .p (N b)), (5, .sl 0 0 x.1.length 1), (6, .p (I x2)), (7, .p (I x.2.1)), (8, .p (I x.2.2))], [(0, .pc 3 (x.1.map I))], 1)) k ?_ k (_, _, _) (Nat.le_refl _) h))
        · exact wkA
        · clear h
          intro m ⟨y1, y2, y3⟩ K2 hle ih2 h
          simp only [mkE, List.replicate, List.foldl, List.set]
          cases m with
          | zero => simp [papermillref02_times.l1] at h
          | succ m =>
            simp only [papermillref02_times.l1] at h
            repeat' (first | (simp only [if_true, if_false, Bool.false_eq_true, Bool.not_true, Bool.not_false, reduceIte] at h) | (split at h) | (rw [Option.bind_eq_some_iff] at h; obtain ⟨_, hbb, h⟩ := h; try (simp only [Option.some.injEq] at hbb; subst hbb)) | (cases h; done) | (simp only [Option.some.injEq, Prod.mk.injEq] at h; subst h) | (simp only [Option.some.injEq, Prod.mk.injEq] at h; (have h1 := h.1; have h2 := h.2; clear h; subst h1; first | subst h2 | (obtain ⟨h3, h4⟩ := h2; subst h3; subst h4))))
            all_goals
              repeat' (first | refine WP_seq ?_ | refine WP_block ?_ | refine regA 64 fun KQ hKQ => ?_ | refine regD 64 fun KQ hKQ => ?_ | refine opsA rfl rfl rfl rfl (nrmA ?_) | refine callA rfl rfl rfl (nrmA ?_) (hs := ref_at.snd _ _ _ (by first | assumption | omega | rfl | (simp; omega))) | refine opsW_skip rfl (nrmA ?_) | (refine opsW_nil ⟨by kernel_rfl, hKQ _ _ _ (nrmB ?_)⟩; clear hKQ KQ) | (refine opsW_nil (hKQ _ _ _ (nrmB ?_)); clear hKQ KQ) | refine condT rfl ?_ | refine condF rfl ?_ | refine WP_skip (nrmB ?_) | refine WP_ret (nrmC ?_) | refine WP_exit (nrmC ?_))
              first
              | (refine ih2 _ _ _ _ (_, _, _) (Nat.lt_succ_self _) h ?_; exact wkA)
              | (refine ih _ _ _ m (_, _) (by omega) h ?_; exact wkA)
      · repeat' (first | refine WP_seq ?_ | refine WP_block ?_ | refine regA 64 fun KQ hKQ => ?_ | refine regD 64 fun KQ hKQ => ?_ | refine opsA rfl rfl rfl rfl (nrmA ?_) | refine opsW_skip rfl (nrmA ?_) | (refine opsW_nil ⟨by kernel_rfl, hKQ _ _ _ (nrmB ?_)⟩; clear hKQ KQ) | (refine opsW_nil (hKQ _ _ _ (nrmB ?_)); clear hKQ KQ) | refine condT rfl ?_ | refine condF rfl ?_ | refine WP_skip (nrmB ?_) | refine WP_ret (nrmC ?_) | refine WP_exit (nrmC ?_))
        refine WP_loop (WPL_weaken ?_ (WPL_rec (α := Int) (fun k x => papermillref02_times.l2 k x1 x) r (fun x => (mkE 76 [(5, .sl 0 0 x1.length 1), (10, .p (I x))], [(0, .pc 3 (x1.map I))], 1)) ?_ k _ h))
        · exact wkA
        · clear ih
          · clear h; try clear k
            intro k x K ih h
            simp only [mkE, List.replicate, List.foldl, List.set]
            cases k with
            | zero => simp [papermillref02_times.l2] at h
            | succ k =>
              simp only [papermillref02_times.l2] at h
              repeat' (first | (simp only [if_true, if_false, Bool.false_eq_true, Bool.not_true, Bool.not_false, reduceIte] at h) | (split at h) | (rw [Option.bind_eq_some_iff] at h; obtain ⟨_, hbb, h⟩ := h; try (simp only [Option.some.injEq] at hbb; subst hbb)) | (cases h; done) | (simp only [Option.some.injEq, Prod.mk.injEq] at h; subst h) | (simp only [Option.some.injEq, Prod.mk.injEq] at h; (have h1 := h.1; have h2 := h.2; clear h; subst h1; first | subst h2 | (obtain ⟨h3, h4⟩ := h2; subst h3; subst h4))))
              all_goals
                repeat' (first | refine WP_seq ?_ | refine WP_block ?_ | refine regA 64 fun KQ hKQ => ?_ | refine regD 64 fun KQ hKQ => ?_ | refine opsA rfl rfl rfl rfl (nrmA ?_) | refine opsW_skip rfl (nrmA ?_) | (refine opsW_nil ⟨by kernel_rfl, hKQ _ _ _ (nrmB ?_)⟩; clear hKQ KQ) | (refine opsW_nil (hKQ _ _ _ (nrmB ?_)); clear hKQ KQ) | refine condT rfl ?_ | refine condF rfl ?_ | refine WP_skip (nrmB ?_) | refine WP_ret (nrmC ?_) | refine WP_exit (nrmC ?_))
                first
                | exact endA
                | (refine ih _ _ _ _ _ (Nat.lt_succ_self _) h ?_; exact wkA)
theorem ref_Mul.snd (k : Nat) (a b : List Int) (r : List Int) (e : Int) (h : papermillref02_Mul.f k a b = some (r, e)) : Sound Try.prog 52 [N a, N b] (.tup [N r, I e]) := by
  refine Sound.of_WP tok Try.func52 rfl rfl ?_; simp only [Try.f52, args0, List.map, List.length_cons, List.length_nil, Nat.reduceAdd, Nat.reduceSub, List.replicate, List.cons_append, List.nil_append]
  unfold papermillref02_Mul.f at h
  repeat' (first | (simp only [if_true, if_false, Bool.false_eq_true, Bool.not_true, Bool.not_false, reduceIte] at h) | (split at h) | (rw [Option.bind_eq_some_iff] at h; obtain ⟨_, hbb, h⟩ := h; try (simp only [Option.some.injEq] at hbb; subst hbb)) | (cases h; done) | (simp only [Option.some.injEq, Prod.mk.injEq] at h; subst h) | (simp only [Option.some.injEq, Prod.mk.injEq] at h; (have h1 := h.1; have h2 := h.2; clear h; subst h1; first | subst h2 | (obtain ⟨h3, h4⟩ := h2; subst h3; subst h4))))
  all_goals (cases k with | zero => simp [papermillref02_Mul.j0] at h | succ k => ?_)
  all_goals
    simp only [papermillref02_Mul.j0] at h
    repeat' (first | (simp only [if_true, if_false, Bool.false_eq_true, Bool.not_true, Bool.not_false, reduceIte] at h) | (split at h) | (rw [Option.bind_eq_some_iff] at h; obtain ⟨_, hbb, h⟩ := h; try (simp only [Option.some.injEq] at hbb; subst hbb)) | (cases h; done) | (simp only [Option.some.injEq, Prod.mk.injEq] at h; subst h) | (simp only [Option.some.injEq, Prod.mk.injEq] at h; (have h1 := h.1; have h2 := h.2; clear h; subst h1; first | subst h2 | (obtain ⟨h3, h4⟩ := h2; subst h3; subst h4))))
  all_goals
    repeat' (first | refine WP_seq ?_ | refine WP_block ?_ | refine regA 64 fun KQ hKQ => ?_ | refine regD 64 fun KQ hKQ => ?_ | refine opsA rfl rfl rfl rfl (nrmA ?_) | refine callA rfl rfl rfl (nrmA ?_) (hs := ref_Valid.snd _ _ _ (by first | assumption | omega | rfl | (simp; omega))) | refine callA rfl rfl rfl (nrmA ?_) (hs := ref_times.snd _ _ _ _ (by first | assumption | omega | rfl | (simp; omega))) | refine callA rfl rfl rfl (nrmA ?_) (hs := ref_fit.snd _ _ _ _ (by first | assumption | omega | rfl | (simp; omega))) | refine opsW_skip rfl (nrmA ?_) | (refine opsW_nil ⟨by kernel_rfl, hKQ _ _ _ (nrmB ?_)⟩; clear hKQ KQ) | (refine opsW_nil (hKQ _ _ _ (nrmB ?_)); clear hKQ KQ) | refine condT rfl ?_ | refine condF rfl ?_ | refine WP_skip (nrmB ?_) | refine WP_ret (nrmC ?_) | refine WP_exit (nrmC ?_))
    exact endA
theorem ref_digit.snd (k : Nat) (a b : List Int) (r : Int) (h : papermillref02_digit.f k a b = some r) : Sound Try.prog 96 [N a, N b] (I r) := by
  refine Sound.of_WP tok Try.func96 rfl rfl ?_; simp only [Try.f96, args0, List.map, List.length_cons, List.length_nil, Nat.reduceAdd, Nat.reduceSub, List.replicate, List.cons_append, List.nil_append]
  unfold papermillref02_digit.f at h
  repeat' (first | refine WP_seq ?_ | refine WP_block ?_ | refine regA 64 fun KQ hKQ => ?_ | refine regD 64 fun KQ hKQ => ?_ | refine opsA rfl rfl rfl rfl (nrmA ?_) | refine opsW_skip rfl (nrmA ?_) | (refine opsW_nil ⟨by kernel_rfl, hKQ _ _ _ (nrmB ?_)⟩; clear hKQ KQ) | (refine opsW_nil (hKQ _ _ _ (nrmB ?_)); clear hKQ KQ) | refine condT rfl ?_ | refine condF rfl ?_ | refine WP_skip (nrmB ?_) | refine WP_ret (nrmC ?_) | refine WP_exit (nrmC ?_))
  refine WP_loop (WPL_weaken ?_ (WPL_rec (α := Int × Int) (fun k x => papermillref02_digit.l0 k a b x.1 x.2) r (fun x => (mkE 27 [(0, .p (N a)), (1, .p (N b)), (5, .p (I x.1)), (6, .p (I x.2))], [], 0)) ?_ k (_, _) h))
  · exact wkA
  · clear h; try clear k
    intro k ⟨x1, x2⟩ K ih h
    simp only [mkE, List.replicate, List.foldl, List.set]
    cases k with
    | zero => simp [papermillref02_digit.l0] at h
    | succ k =>
      simp only [papermillref02_digit.l0] at h
      split at h
      · rw [Option.bind_eq_some_iff] at h; obtain ⟨t1, ht, h⟩ := h
        have c1 := ref_times.snd _ _ _ _ ht
        repeat' (first | (simp only [if_true, if_false, Bool.false_eq_true, Bool.not_true, Bool.not_false, reduceIte] at h) | (split at h) | (rw [Option.bind_eq_some_iff] at h; obtain ⟨_, hbb, h⟩ := h; try (simp only [Option.some.injEq] at hbb; subst hbb)) | (cases h; done) | (simp only [Option.some.injEq, Prod.mk.injEq] at h; subst h) | (simp only [Option.some.injEq, Prod.mk.injEq] at h; (have h1 := h.1; have h2 := h.2; clear h; subst h1; first | subst h2 | (obtain ⟨h3, h4⟩ := h2; subst h3; subst h4))))
        all_goals
          repeat' (first | refine WP_seq ?_ | refine WP_block ?_ | refine regA 64 fun KQ hKQ => ?_ | refine regD 64 fun KQ hKQ => ?_ | refine opsA rfl rfl rfl rfl (nrmA ?_) | refine callA rfl rfl rfl (nrmA ?_) (hs := c1) | refine callA rfl rfl rfl (nrmA ?_) (hs := ref_compare.snd _ _ _ _ (by first | assumption | omega | rfl | (simp; omega))) | refine opsW_skip rfl (nrmA ?_) | (refine opsW_nil ⟨by kernel_rfl, hKQ _ _ _ (nrmB ?_)⟩; clear hKQ KQ) | (refine opsW_nil (hKQ _ _ _ (nrmB ?_)); clear hKQ KQ) | refine condT rfl ?_ | refine condF rfl ?_ | refine WP_skip (nrmB ?_) | refine WP_ret (nrmC ?_) | refine WP_exit (nrmC ?_))
          first
          | (refine ih _ _ _ _ (_, _) (Nat.lt_succ_self _) h ?_; exact wkA)
      · repeat' (first | (simp only [if_true, if_false, Bool.false_eq_true, Bool.not_true, Bool.not_false, reduceIte] at h) | (split at h) | (rw [Option.bind_eq_some_iff] at h; obtain ⟨_, hbb, h⟩ := h; try (simp only [Option.some.injEq] at hbb; subst hbb)) | (cases h; done) | (simp only [Option.some.injEq, Prod.mk.injEq] at h; subst h) | (simp only [Option.some.injEq, Prod.mk.injEq] at h; (have h1 := h.1; have h2 := h.2; clear h; subst h1; first | subst h2 | (obtain ⟨h3, h4⟩ := h2; subst h3; subst h4))))
        repeat' (first | refine WP_seq ?_ | refine WP_block ?_ | refine regA 64 fun KQ hKQ => ?_ | refine regD 64 fun KQ hKQ => ?_ | refine opsA rfl rfl rfl rfl (nrmA ?_) | refine opsW_skip rfl (nrmA ?_) | (refine opsW_nil ⟨by kernel_rfl, hKQ _ _ _ (nrmB ?_)⟩; clear hKQ KQ) | (refine opsW_nil (hKQ _ _ _ (nrmB ?_)); clear hKQ KQ) | refine condT rfl ?_ | refine condF rfl ?_ | refine WP_skip (nrmB ?_) | refine WP_ret (nrmC ?_) | refine WP_exit (nrmC ?_))
        exact endA
end Go.Proofs.Ytiondkijgpjgcaa.Pw
namespace Go.Proofs.Ytiondkijgpjgcaa.Pw
open Go Go.RowKit
theorem Wk.trans {base : Nat} {env env' env'' : List AV} {st st' st'' : Stores} {nx nx' nx'' : Nat} (h : Wk base env st nx env' st' nx') (k : Wk base env' st' nx' env'' st'' nx'') : Wk base env st nx env'' st'' nx'' := fun hb => by
  obtain ⟨h1, h2⟩ := h hb
  obtain ⟨k1, k2⟩ := k h1
  refine ⟨k1, fun F μ W a hA => ?_⟩
  obtain ⟨μ1, a1, a2⟩ := h2 F μ W a hA
  obtain ⟨μ2, b1, b2⟩ := k2 F μ1 W a a1
  exact ⟨μ2, b1, a2.trans b2⟩
def delL (st : Stores) : List Nat → Stores
  | [] => st
  | b :: r => delL (del b st) r
theorem get_delL : ∀ (rd : List Nat) (st : Stores), get (delL st rd) = dels (get st) rd
  | [], st => by funext b; simp [delL, dels]
  | a :: r, st => by
    rw [delL, get_delL r]
    funext b
    simp only [dels, List.mem_cons, get_del]
    by_cases h : b ∈ r <;> by_cases e : b = a <;> simp [h, e]
theorem Wk.frz {base : Nat} {env : List AV} {st : Stores} {nx : Nat} (t : Nat) (x : PV) (rd : List Nat) (h : Pw.frz (get st) 9 (env.getD t .any) = some (x, rd)) : Wk base env st nx (env.set t (.p x)) (delL st rd) nx := fun hb => ⟨hb, fun F μ W a hA => by
  obtain ⟨h1, h2⟩ := hA.rs.dels rd
  refine ⟨μ, ⟨by rw [get_delL]; exact h1, ⟨by simpa using hA.re.1, fun s y hy => ?_, ?_⟩, hA.df, fun b hb' => ⟨(hA.fr b hb').1, ?_⟩⟩, ?_⟩
  · rw [get_delL]
    simp only [List.getElem?_set] at hy
    split at hy
    · rename_i e
      subst e
      split at hy
      · rename_i hlt
        injection hy with hy; subst hy
        have hr : RepA (Mut F μ (get st)) μ W (env.getD t .any) (a.tmps.getD t undef) := by
          rw [List.getD_eq_getElem?_getD, List.getElem?_eq_getElem hlt]
          exact hA.re.2.1 t _ (List.getElem?_eq_getElem hlt)
        exact .p _ _ ((frz_both hA.rs rd 9).1 _ _ _ _ h (fun b hb => hb) hr)
      · cases hy
    · exact (hA.re.2.1 s y hy).mut fun B hB => mut_dels hB
  · rw [get_delL]; exact hA.re.2.2.mut fun B hB => mut_dels hB
  · rw [get_delL]; unfold dels; split
    · rfl
    · exact (hA.fr b hb').2
  · rw [get_delL]
    exact h2.to base fun _ _ => rfl⟩
end Go.Proofs.Ytiondkijgpjgcaa.Pw
namespace Go.Proofs.Ytiondkijgpjgcaa.Pw
open Go Wd Px
set_option linter.unusedVariables false
set_option linter.unusedSimpArgs false
set_option maxRecDepth 100000
attribute [local irreducible] Int.tmod Int.tdiv
set_option maxHeartbeats 8000000
theorem limbs.snd (k : Nat) (a b : List Int) (r : Bool) (h : papermillref03_limbs.f k a b = some r) : Sound Try.prog 50 [N a, N b] (B r) := by
  refine Sound.of_WP tok Try.func50 rfl rfl ?_; simp only [Try.f50, args0, List.map, List.length_cons, List.length_nil, Nat.reduceAdd, Nat.reduceSub, List.replicate, List.cons_append, List.nil_append]
  unfold papermillref03_limbs.f at h
  split at h
  · repeat' (first | refine WP_seq ?_ | refine WP_block ?_ | refine regA 64 fun KQ hKQ => ?_ | refine regD 64 fun KQ hKQ => ?_ | refine opsA rfl rfl rfl rfl (nrmA ?_) | refine opsW_skip rfl (nrmA ?_) | (refine opsW_nil ⟨by kernel_rfl, hKQ _ _ _ (nrmB ?_)⟩; clear hKQ KQ) | (refine opsW_nil (hKQ _ _ _ (nrmB ?_)); clear hKQ KQ) | refine condT rfl ?_ | refine condF rfl ?_ | refine WP_skip (nrmB ?_) | refine WP_ret (nrmC ?_) | refine WP_exit (nrmC ?_))
    refine WP_loop (WPL_weaken ?_ (WPL_rec (α := Int) (fun k x => papermillref03_limbs.l0 k a b x) r (fun x => (mkE 26 [(0, .p (N a)), (1, .p (N b)), (5, .p (I x))], [], 0)) ?_ k _ h))
    · exact wkA
    rename_i hl; clear hl
    · clear h; try clear k
      intro k x K ih h
      simp only [mkE, List.replicate, List.foldl, List.set]
      cases k with
      | zero => simp [papermillref03_limbs.l0] at h
      | succ k =>
        simp only [papermillref03_limbs.l0] at h
        repeat' (first | (simp only [if_true, if_false, Bool.false_eq_true, Bool.not_true, Bool.not_false, reduceIte] at h) | (split at h) | (rw [Option.bind_eq_some_iff] at h; obtain ⟨_, hbb, h⟩ := h; try (simp only [Option.some.injEq] at hbb; subst hbb)) | (cases h; done) | (simp only [Option.some.injEq, Prod.mk.injEq] at h; subst h) | (simp only [Option.some.injEq, Prod.mk.injEq] at h; (have h1 := h.1; have h2 := h.2; clear h; subst h1; first | subst h2 | (obtain ⟨h3, h4⟩ := h2; subst h3; subst h4))))
        all_goals
          repeat' (first | refine WP_seq ?_ | refine WP_block ?_ | refine regA 64 fun KQ hKQ => ?_ | refine regD 64 fun KQ hKQ => ?_ | refine opsA rfl rfl rfl rfl (nrmA ?_) | refine opsW_skip rfl (nrmA ?_) | (refine opsW_nil ⟨by kernel_rfl, hKQ _ _ _ (nrmB ?_)⟩; clear hKQ KQ) | (refine opsW_nil (hKQ _ _ _ (nrmB ?_)); clear hKQ KQ) | refine condT rfl ?_ | refine condF rfl ?_ | refine WP_skip (nrmB ?_) | refine WP_ret (nrmC ?_) | refine WP_exit (nrmC ?_))
          first
          | exact endA
          | (refine ih _ _ _ _ _ (Nat.lt_succ_self _) h ?_; exact wkA)
  · repeat' (first | (simp only [if_true, if_false, Bool.false_eq_true, Bool.not_true, Bool.not_false, reduceIte] at h) | (split at h) | (rw [Option.bind_eq_some_iff] at h; obtain ⟨_, hbb, h⟩ := h; try (simp only [Option.some.injEq] at hbb; subst hbb)) | (cases h; done) | (simp only [Option.some.injEq, Prod.mk.injEq] at h; subst h) | (simp only [Option.some.injEq, Prod.mk.injEq] at h; (have h1 := h.1; have h2 := h.2; clear h; subst h1; first | subst h2 | (obtain ⟨h3, h4⟩ := h2; subst h3; subst h4))))
    all_goals
      repeat' (first | refine WP_seq ?_ | refine WP_block ?_ | refine regA 64 fun KQ hKQ => ?_ | refine regD 64 fun KQ hKQ => ?_ | refine opsA rfl rfl rfl rfl (nrmA ?_) | refine opsW_skip rfl (nrmA ?_) | (refine opsW_nil ⟨by kernel_rfl, hKQ _ _ _ (nrmB ?_)⟩; clear hKQ KQ) | (refine opsW_nil (hKQ _ _ _ (nrmB ?_)); clear hKQ KQ) | refine condT rfl ?_ | refine condF rfl ?_ | refine WP_skip (nrmB ?_) | refine WP_ret (nrmC ?_) | refine WP_exit (nrmC ?_))
      exact endA
theorem ref_DivMod.snd (k : Nat) (a b : List Int) (r s : List Int) (e : Int) (h : papermillref02_DivMod.f k a b = some (r, s, e)) : Sound Try.prog 76 [N a, N b] (.tup [N r, N s, I e]) := by
  refine Sound.of_WP tok Try.func76 rfl rfl ?_; simp only [Try.f76, args0, List.map, List.length_cons, List.length_nil, Nat.reduceAdd, Nat.reduceSub, List.replicate, List.cons_append, List.nil_append]
  unfold papermillref02_DivMod.f at h
  repeat' (first | (simp only [if_true, if_false, Bool.false_eq_true, Bool.not_true, Bool.not_false, reduceIte] at h) | (split at h) | (rw [Option.bind_eq_some_iff] at h; obtain ⟨_, hbb, h⟩ := h; try (simp only [Option.some.injEq] at hbb; subst hbb)) | (cases h; done) | (simp only [Option.some.injEq, Prod.mk.injEq] at h; subst h) | (simp only [Option.some.injEq, Prod.mk.injEq] at h; (have h1 := h.1; have h2 := h.2; clear h; subst h1; first | subst h2 | (obtain ⟨h3, h4⟩ := h2; subst h3; subst h4))))
  all_goals (cases k with | zero => simp [papermillref02_DivMod.j0] at h | succ k => ?_)
  all_goals
    simp only [papermillref02_DivMod.j0] at h
    repeat' (first | (simp only [if_true, if_false, Bool.false_eq_true, Bool.not_true, Bool.not_false, reduceIte] at h) | (split at h) | (rw [Option.bind_eq_some_iff] at h; obtain ⟨_, hbb, h⟩ := h; try (simp only [Option.some.injEq] at hbb; subst hbb)) | (cases h; done) | (simp only [Option.some.injEq, Prod.mk.injEq] at h; subst h) | (simp only [Option.some.injEq, Prod.mk.injEq] at h; (have h1 := h.1; have h2 := h.2; clear h; subst h1; first | subst h2 | (obtain ⟨h3, h4⟩ := h2; subst h3; subst h4))))
  all_goals
    repeat' (first | refine WP_seq ?_ | refine WP_block ?_ | refine regA 64 fun KQ hKQ => ?_ | refine regD 64 fun KQ hKQ => ?_ | refine opsA rfl rfl rfl rfl (nrmA ?_) | refine callA rfl rfl rfl (nrmA ?_) (hs := ref_Valid.snd _ _ _ (by first | assumption | omega | rfl | (simp; omega))) | refine opsW_skip rfl (nrmA ?_) | (refine opsW_nil ⟨by kernel_rfl, hKQ _ _ _ (nrmB ?_)⟩; clear hKQ KQ) | (refine opsW_nil (hKQ _ _ _ (nrmB ?_)); clear hKQ KQ) | refine condT rfl ?_ | refine condF rfl ?_ | refine WP_skip (nrmB ?_) | refine WP_ret (nrmC ?_) | refine WP_exit (nrmC ?_))
    first
    | exact endA
    | (refine WP_loop (WPL_weaken ?_ (WPL_rec (α := List Int × List Int × Int) (fun k x => papermillref02_DivMod.l0 k a b x.1 x.2.1 x.2.2) (r, s, e) (fun x => (mkE 68 [(0, .p (N a)), (1, .p (N b)), (7, .sl 0 0 x.1.length 1), (8, .p (N x.2.1)), (9, .p (I x.2.2))], [(0, .pc 3 (x.1.map I))], 1)) ?_ k (_, _, _) h)); · (refine Wk.trans (Wk.frz 8 (N []) [] rfl) ?_; simp only [delL, List.set]; exact wkA))
  · clear h; try clear k
    intro k ⟨x1, x2, x3⟩ K ih h
    simp only [mkE, List.replicate, List.foldl, List.set]
    cases k with
    | zero => simp [papermillref02_DivMod.l0] at h
    | succ k =>
      simp only [papermillref02_DivMod.l0] at h
      by_cases hc0 : 0 ≤ x3
      · repeat' (first | (simp only [if_true, if_false, Bool.false_eq_true, Bool.not_true, Bool.not_false, reduceIte] at h) | (split at h) | (rw [Option.bind_eq_some_iff] at h; obtain ⟨_, hbb, h⟩ := h; try (simp only [Option.some.injEq] at hbb; subst hbb)) | (cases h; done) | (simp only [Option.some.injEq, Prod.mk.injEq] at h; subst h) | (simp only [Option.some.injEq, Prod.mk.injEq] at h; (have h1 := h.1; have h2 := h.2; clear h; subst h1; first | subst h2 | (obtain ⟨h3, h4⟩ := h2; subst h3; subst h4))))
        all_goals (try (exfalso; omega))
        all_goals
          rename_i hlim _ _ _
          have hm : I (rd a x3) :: List.map I (List.take x2.length x2) = List.map I (rd a x3 :: x2) := by rw [List.take_length]; rfl
          have hq : 1 + x2.length = (rd a x3 :: x2).length := by simp; omega
          have hlim' : 1 + x2.length < 17592186044416 := by simpa using hlim
          simp only [List.cons_append, List.nil_append] at *
          generalize (rd a x3 :: x2) = y at *
          cases k with
          | zero => simp [papermillref02_DivMod.j2] at h
          | succ k =>
            simp only [papermillref02_DivMod.j2] at h
            repeat' (first | (simp only [if_true, if_false, Bool.false_eq_true, Bool.not_true, Bool.not_false, reduceIte] at h) | (split at h) | (rw [Option.bind_eq_some_iff] at h; obtain ⟨_, hbb, h⟩ := h; try (simp only [Option.some.injEq] at hbb; subst hbb)) | (cases h; done) | (simp only [Option.some.injEq, Prod.mk.injEq] at h; subst h) | (simp only [Option.some.injEq, Prod.mk.injEq] at h; (have h1 := h.1; have h2 := h.2; clear h; subst h1; first | subst h2 | (obtain ⟨h3, h4⟩ := h2; subst h3; subst h4))))
            all_goals
              first
              | (rename_i dd hdd hpos t1 ht t2; have c1 := ref_times.snd _ _ _ _ ht; have c2 := ref_digit.snd _ _ _ _ hdd; have c3 := ref_minus.snd _ _ _ _ hbb)
              | (have c2 := ref_digit.snd _ _ _ _ hbb; have c1 : True := trivial; have c3 : True := trivial)
              repeat' (first | refine WP_seq ?_ | refine WP_block ?_ | refine regA 64 fun KQ hKQ => ?_ | refine regD 64 fun KQ hKQ => ?_ | refine opsA rfl rfl rfl rfl (nrmA ?_) | refine callA rfl rfl rfl (nrmA ?_) (hs := c1) | refine callA rfl rfl rfl (nrmA ?_) (hs := c2) | refine callA rfl rfl rfl (nrmA ?_) (hs := c3) | refine opsW_skip rfl (nrmA ?_) | (refine opsW_nil ⟨by kernel_rfl, hKQ _ _ _ (nrmB ?_)⟩; clear hKQ KQ) | (refine opsW_nil (hKQ _ _ _ (nrmB ?_)); clear hKQ KQ) | refine condT rfl ?_ | refine condF rfl ?_ | refine WP_skip (nrmB ?_) | refine WP_ret (nrmC ?_) | refine WP_exit (nrmC ?_))
              first
              | (refine ih _ _ _ _ (_, _, _) (by omega) h (Wk.trans (Wk.frz 8 (N []) [] rfl) ?_); simp only [delL, List.set]; exact wkA)
              | (refine ih _ _ _ _ (_, _, _) (by omega) h (Wk.trans (Wk.frz 8 (N y) [513] ?_) ?_); (focus (simp [frz, get, List.take_of_length_le]; done)); simp only [delL, List.set, del, beq_self_eq_true, Nat.reduceBEq, cond_true, cond_false]; exact wkA)
              | (refine ih _ _ _ _ (_, _, _) (by omega) h ?_; exact wkA)
      · repeat' (first | (simp only [if_true, if_false, Bool.false_eq_true, Bool.not_true, Bool.not_false, reduceIte] at h) | (split at h) | (rw [Option.bind_eq_some_iff] at h; obtain ⟨_, hbb, h⟩ := h; try (simp only [Option.some.injEq] at hbb; subst hbb)) | (cases h; done) | (simp only [Option.some.injEq, Prod.mk.injEq] at h; subst h) | (simp only [Option.some.injEq, Prod.mk.injEq] at h; (have h1 := h.1; have h2 := h.2; clear h; subst h1; first | subst h2 | (obtain ⟨h3, h4⟩ := h2; subst h3; subst h4))))
        all_goals (try (exfalso; omega))
        repeat' (first | refine WP_seq ?_ | refine WP_block ?_ | refine regA 64 fun KQ hKQ => ?_ | refine regD 64 fun KQ hKQ => ?_ | refine opsA rfl rfl rfl rfl (nrmA ?_) | refine callA rfl rfl rfl (nrmA ?_) (hs := ref_fit.snd _ _ _ _ (by first | assumption | omega | rfl | (simp; omega))) | refine opsW_skip rfl (nrmA ?_) | (refine opsW_nil ⟨by kernel_rfl, hKQ _ _ _ (nrmB ?_)⟩; clear hKQ KQ) | (refine opsW_nil (hKQ _ _ _ (nrmB ?_)); clear hKQ KQ) | refine condT rfl ?_ | refine condF rfl ?_ | refine WP_skip (nrmB ?_) | refine WP_ret (nrmC ?_) | refine WP_exit (nrmC ?_))
        exact endA
theorem ref_Gcd.snd (k : Nat) (a b : List Int) (r : List Int) (e : Int) (h : papermillref02_Gcd.f k a b = some (r, e)) : Sound Try.prog 49 [N a, N b] (.tup [N r, I e]) := by
  refine Sound.of_WP tok Try.func49 rfl rfl ?_; simp only [Try.f49, args0, List.map, List.length_cons, List.length_nil, Nat.reduceAdd, Nat.reduceSub, List.replicate, List.cons_append, List.nil_append]
  unfold papermillref02_Gcd.f at h
  repeat' (first | (simp only [if_true, if_false, Bool.false_eq_true, Bool.not_true, Bool.not_false, reduceIte] at h) | (split at h) | (rw [Option.bind_eq_some_iff] at h; obtain ⟨_, hbb, h⟩ := h; try (simp only [Option.some.injEq] at hbb; subst hbb)) | (cases h; done) | (simp only [Option.some.injEq, Prod.mk.injEq] at h; subst h) | (simp only [Option.some.injEq, Prod.mk.injEq] at h; (have h1 := h.1; have h2 := h.2; clear h; subst h1; first | subst h2 | (obtain ⟨h3, h4⟩ := h2; subst h3; subst h4))))
  all_goals (cases k with | zero => simp [papermillref02_Gcd.j0] at h | succ k => ?_)
  all_goals
    simp only [papermillref02_Gcd.j0] at h
    repeat' (first | (simp only [if_true, if_false, Bool.false_eq_true, Bool.not_true, Bool.not_false, reduceIte] at h) | (split at h) | (rw [Option.bind_eq_some_iff] at h; obtain ⟨_, hbb, h⟩ := h; try (simp only [Option.some.injEq] at hbb; subst hbb)) | (cases h; done) | (simp only [Option.some.injEq, Prod.mk.injEq] at h; subst h) | (simp only [Option.some.injEq, Prod.mk.injEq] at h; (have h1 := h.1; have h2 := h.2; clear h; subst h1; first | subst h2 | (obtain ⟨h3, h4⟩ := h2; subst h3; subst h4))))
  all_goals (try simp only [List.nil_append, List.length_nil, Nat.zero_add] at *)
  all_goals
    repeat' (first | refine WP_seq ?_ | refine WP_block ?_ | refine regA 64 fun KQ hKQ => ?_ | refine regD 64 fun KQ hKQ => ?_ | refine opsA rfl rfl rfl rfl (nrmA ?_) | refine callA rfl rfl rfl (nrmA ?_) (hs := ref_Valid.snd _ _ _ (by first | assumption | omega | rfl | (simp; omega))) | refine opsW_skip rfl (nrmA ?_) | (refine opsW_nil ⟨by kernel_rfl, hKQ _ _ _ (nrmB ?_)⟩; clear hKQ KQ) | (refine opsW_nil (hKQ _ _ _ (nrmB ?_)); clear hKQ KQ) | refine condT rfl ?_ | refine condF rfl ?_ | refine WP_skip (nrmB ?_) | refine WP_ret (nrmC ?_) | refine WP_exit (nrmC ?_))
    first
    | exact endA
    | (refine WP_loop (WPL_weaken ?_ (WPL_rec (α := List Int × List Int) (fun k x => papermillref02_Gcd.l0 k x.1 x.2) (r, e) (fun x => (mkE 35 [(0, .sl 0 0 x.1.length 1), (1, .p (N x.2))], [(0, .pc 3 (x.1.map I))], 1)) ?_ k (_, _) h)); · exact wkA)
  · clear h; try clear k
    intro k ⟨x1, x2⟩ K ih h
    simp only [mkE, List.replicate, List.foldl, List.set]
    cases k with
    | zero => simp [papermillref02_Gcd.l0] at h
    | succ k =>
      simp only [papermillref02_Gcd.l0] at h
      repeat' (first | (simp only [if_true, if_false, Bool.false_eq_true, Bool.not_true, Bool.not_false, reduceIte] at h) | (split at h) | (rw [Option.bind_eq_some_iff] at h; obtain ⟨_, hbb, h⟩ := h; try (simp only [Option.some.injEq] at hbb; subst hbb)) | (cases h; done) | (simp only [Option.some.injEq, Prod.mk.injEq] at h; subst h) | (simp only [Option.some.injEq, Prod.mk.injEq] at h; (have h1 := h.1; have h2 := h.2; clear h; subst h1; first | subst h2 | (obtain ⟨h3, h4⟩ := h2; subst h3; subst h4))))
      all_goals (try simp only [List.nil_append, List.length_nil, Nat.zero_add] at *)
      all_goals
        repeat' (first | refine WP_seq ?_ | refine WP_block ?_ | refine regA 64 fun KQ hKQ => ?_ | refine regD 64 fun KQ hKQ => ?_ | refine opsA rfl rfl rfl rfl (nrmA ?_) | refine callA rfl rfl rfl (nrmA ?_) (hs := ref_DivMod.snd _ _ _ _ _ _ (by first | assumption | omega | rfl | (simp; omega))) | refine opsW_skip rfl (nrmA ?_) | (refine opsW_nil ⟨by kernel_rfl, hKQ _ _ _ (nrmB ?_)⟩; clear hKQ KQ) | (refine opsW_nil (hKQ _ _ _ (nrmB ?_)); clear hKQ KQ) | refine condT rfl ?_ | refine condF rfl ?_ | refine WP_skip (nrmB ?_) | refine WP_ret (nrmC ?_) | refine WP_exit (nrmC ?_))
        first
        | exact endA
        | (refine ih _ _ _ _ (_, _) (Nat.lt_succ_self _) h ?_; exact wkA)
end Go.Proofs.Ytiondkijgpjgcaa.Pw
namespace Go.Proofs.Ytiondkijgpjgcaa.Mat
open Go.Proofs.Ytiondkijgpjgcaa.Wd
set_option linter.unusedVariables false


def val : List Int → Int
  | [] => 0
  | d :: l => d + 1000000000 * val l
def pw (n : Nat) : Int := 1000000000 ^ n
theorem pw_zero : pw 0 = 1 := rfl
theorem pw_succ (n : Nat) : pw (n + 1) = 1000000000 * pw n := by unfold pw; rw [Int.pow_succ]; omega
theorem pw_one : pw 1 = 1000000000 := by rw [pw_succ, pw_zero]; rfl
theorem pw_two : pw 2 = 1000000000000000000 := by rw [pw_succ, pw_one]; rfl
theorem pw_pos (n : Nat) : 0 < pw n := by
  induction n with
  | zero => decide
  | succ n ih => rw [pw_succ]; omega
theorem pw_add (m n : Nat) : pw (m + n) = pw m * pw n := by
  induction m with
  | zero => simp [pw_zero]
  | succ m ih => rw [Nat.succ_add, pw_succ, pw_succ, ih]; grind
theorem pw_le {m n : Nat} (h : m ≤ n) : pw m ≤ pw n := by
  obtain ⟨d, rfl⟩ := Nat.exists_eq_add_of_le h
  induction d with
  | zero => exact Int.le_refl _
  | succ d ih => rw [← Nat.add_assoc, pw_succ]; have := pw_pos (m + d); have := ih (by omega); omega
theorem pw_lt {m n : Nat} (h : m < n) : pw m < pw n := by
  have h1 := pw_le (show m + 1 ≤ n from h)
  rw [pw_succ] at h1
  have := pw_pos m
  omega

def Dig (l : List Int) : Prop := ∀ d, d ∈ l → 0 ≤ d ∧ d < 1000000000
theorem Dig.nil : Dig [] := fun d h => by simp at h
theorem Dig.cons {d : Int} {l : List Int} (h : 0 ≤ d ∧ d < 1000000000) (hl : Dig l) : Dig (d :: l) := by
  intro x hx
  rcases List.mem_cons.1 hx with rfl | hx
  · exact h
  · exact hl x hx
theorem Dig.tail {d : Int} {l : List Int} (h : Dig (d :: l)) : Dig l := fun x hx => h x (List.mem_cons_of_mem _ hx)
theorem Dig.head {d : Int} {l : List Int} (h : Dig (d :: l)) : 0 ≤ d ∧ d < 1000000000 := h d List.mem_cons_self
theorem Dig.append {a b : List Int} (ha : Dig a) (hb : Dig b) : Dig (a ++ b) := by
  intro x hx
  rcases List.mem_append.1 hx with hx | hx
  · exact ha x hx
  · exact hb x hx
theorem Dig.take {l : List Int} (h : Dig l) (n : Nat) : Dig (l.take n) := fun x hx => h x (List.mem_of_mem_take hx)
theorem Dig.drop {l : List Int} (h : Dig l) (n : Nat) : Dig (l.drop n) := fun x hx => h x (List.mem_of_mem_drop hx)
theorem Dig.left {a b : List Int} (h : Dig (a ++ b)) : Dig a := fun x hx => h x (List.mem_append.2 (.inl hx))
theorem Dig.right {a b : List Int} (h : Dig (a ++ b)) : Dig b := fun x hx => h x (List.mem_append.2 (.inr hx))
theorem Dig.rep (n : Nat) : Dig (List.replicate n 0) := by
  intro x hx
  have := List.eq_of_mem_replicate hx
  omega
theorem Dig.set {l : List Int} (h : Dig l) (n : Nat) {x : Int} (hx : 0 ≤ x ∧ x < 1000000000) : Dig (l.set n x) := by
  intro y hy
  rcases List.mem_or_eq_of_mem_set hy with hy | rfl
  · exact h y hy
  · exact hx
theorem rd_lt {l : List Int} {i : Int} (h : i.toNat < l.length) : rd l i = l[i.toNat] := by
  unfold rd
  rw [List.getD_eq_getElem?_getD, List.getElem?_eq_getElem h]; rfl
theorem rd_ge {l : List Int} {i : Int} (h : l.length ≤ i.toNat) : rd l i = 0 := by
  unfold rd
  rw [List.getD_eq_getElem?_getD, List.getElem?_eq_none h]; rfl
theorem Dig.rd {l : List Int} (h : Dig l) (i : Int) : 0 ≤ rd l i ∧ rd l i < 1000000000 := by
  by_cases hi : i.toNat < l.length
  · rw [rd_lt hi]; exact h _ (List.getElem_mem hi)
  · rw [rd_ge (by omega)]; omega
theorem rd_set_eq {l : List Int} {i : Int} (x : Int) (h : i.toNat < l.length) : rd (l.set i.toNat x) i = x := by
  rw [rd_lt (by simpa using h)]; simp
theorem rd_set_ne {l : List Int} {i j : Int} (x : Int) (h : i.toNat ≠ j.toNat) : rd (l.set i.toNat x) j = rd l j := by
  unfold rd
  rw [List.getD_eq_getElem?_getD, List.getElem?_set_ne h, List.getD_eq_getElem?_getD]
theorem rd_append_left {a b : List Int} {i : Int} (h : i.toNat < a.length) : rd (a ++ b) i = rd a i := by
  unfold rd
  rw [List.getD_eq_getElem?_getD, List.getElem?_append_left h, List.getD_eq_getElem?_getD]
theorem rd_append_right {a b : List Int} (j : Nat) : rd (a ++ b) ((a.length : Int) + j) = rd b j := by
  unfold rd
  rw [List.getD_eq_getElem?_getD, List.getElem?_append_right (by omega), List.getD_eq_getElem?_getD]
  congr 2; omega
theorem drop_rd {l : List Int} {i : Int} (h0 : 0 ≤ i) (h : i < l.length) : l.drop i.toNat = rd l i :: l.drop (i.toNat + 1) := by
  rw [rd_lt (by omega)]
  exact List.drop_eq_getElem_cons (by omega)

theorem val_append (a b : List Int) : val (a ++ b) = val a + pw a.length * val b := by
  induction a with
  | nil => simp [val, pw_zero]
  | cons d l ih => simp only [List.cons_append, val, ih, List.length_cons, pw_succ]; grind
theorem val_nonneg {l : List Int} (h : Dig l) : 0 ≤ val l := by
  induction l with
  | nil => simp [val]
  | cons d l ih => have := ih h.tail; have := h.head; simp only [val]; omega
theorem val_lt {l : List Int} (h : Dig l) : val l < pw l.length := by
  induction l with
  | nil => simp [val, pw_zero]
  | cons d l ih => have := ih h.tail; have := h.head; simp only [val, List.length_cons, pw_succ]; omega
theorem val_rep (n : Nat) : val (List.replicate n 0) = 0 := by
  induction n with
  | zero => rfl
  | succ n ih => rw [List.replicate_succ, val, ih]; rfl
theorem val_pad (l : List Int) (n : Nat) : val (l ++ List.replicate n 0) = val l := by rw [val_append, val_rep]; simp
theorem val_split (l : List Int) (n : Nat) (h : n ≤ l.length) : val l = val (l.take n) + pw n * val (l.drop n) := by
  have := val_append (l.take n) (l.drop n)
  rw [List.take_append_drop, List.length_take, Nat.min_eq_left h] at this
  exact this
theorem val_set {l : List Int} {i : Int} (x : Int) (h0 : 0 ≤ i) (h : i < l.length) : val (l.set i.toNat x) = val l + (x - rd l i) * pw i.toNat := by
  have h1 := val_split l i.toNat (by omega)
  have h2 := val_split (l.set i.toNat x) i.toNat (by rw [List.length_set]; omega)
  rw [drop_rd h0 h] at h1
  rw [drop_rd h0 (by rw [List.length_set]; exact h), rd_set_eq x (by omega), List.take_set_of_le (Nat.le_refl _), List.drop_set_of_lt (by omega)] at h2
  simp only [val] at h1 h2
  grind
theorem val_drop {l : List Int} {i : Int} (h0 : 0 ≤ i) (h : i < l.length) : val (l.drop i.toNat) = rd l i + 1000000000 * val (l.drop (i.toNat + 1)) := by
  rw [drop_rd h0 h]; rfl

/-! ### the one list of a number -/
def dgN (n : Nat) : List Int := if h : n = 0 then [] else ((n % 1000000000 : Nat) : Int) :: dgN (n / 1000000000)
termination_by n
decreasing_by omega
def dg (n : Int) : List Int := dgN n.toNat
theorem dgN_zero : dgN 0 = [] := by unfold dgN; simp
theorem dgN_pos {n : Nat} (h : n ≠ 0) : dgN n = ((n % 1000000000 : Nat) : Int) :: dgN (n / 1000000000) := by
  rw [dgN, dif_neg h]
theorem dg_zero : dg 0 = [] := dgN_zero
theorem dg_pos {n : Int} (h : 0 < n) : dg n = n % 1000000000 :: dg (n / 1000000000) := by
  unfold dg
  rw [dgN_pos (by omega)]
  congr 1
  · omega
  · congr 1; omega
def Nrm (l : List Int) : Prop := Dig l ∧ ∀ h : l ≠ [], l.getLast h ≠ 0
theorem val_dgN (n : Nat) : val (dgN n) = n := by
  induction n using Nat.strongRecOn with
  | _ n ih =>
    by_cases h : n = 0
    · subst h; rw [dgN_zero]; rfl
    · rw [dgN_pos h, val, ih (n / 1000000000) (by omega)]; omega
theorem dgN_ne {n : Nat} (h : n ≠ 0) : dgN n ≠ [] := by rw [dgN_pos h]; simp
theorem nrm_dgN (n : Nat) : Nrm (dgN n) := by
  induction n using Nat.strongRecOn with
  | _ n ih =>
    by_cases h : n = 0
    · subst h; rw [dgN_zero]; exact ⟨Dig.nil, fun h => absurd rfl h⟩
    · have h2 := ih (n / 1000000000) (by omega)
      refine ⟨?_, fun hne => ?_⟩
      · rw [dgN_pos h]; exact Dig.cons (by omega) h2.1
      · have e := dgN_pos h
        have : (dgN n).getLast hne = (((n % 1000000000 : Nat) : Int) :: dgN (n / 1000000000)).getLast (by simp) := by congr 1
        rw [this]
        by_cases h3 : n / 1000000000 = 0
        · have e2 : dgN (n / 1000000000) = [] := by rw [h3, dgN_zero]
          simp only [e2, List.getLast_singleton]; omega
        · rw [List.getLast_cons (dgN_ne h3)]; exact h2.2 _
theorem val_dg {n : Int} (h : 0 ≤ n) : val (dg n) = n := by unfold dg; rw [val_dgN]; omega
theorem nrm_dg (n : Int) : Nrm (dg n) := nrm_dgN _
theorem nrm_tail {d : Int} {l : List Int} (h : Nrm (d :: l)) : Nrm l := by
  refine ⟨h.1.tail, fun hne => ?_⟩
  have := h.2 (by simp)
  rwa [List.getLast_cons hne] at this
theorem val_pos {l : List Int} (h : Nrm l) (hne : l ≠ []) : 0 < val l := by
  induction l with
  | nil => exact absurd rfl hne
  | cons d l ih =>
    have hd := h.1.head
    by_cases hl : l = []
    · subst hl
      have := h.2 (by simp)
      simp only [List.getLast_singleton] at this
      simp only [val]; omega
    · have := ih (nrm_tail h) hl
      simp only [val]; omega
theorem dg_val {l : List Int} (h : Nrm l) : dg (val l) = l := by
  induction l with
  | nil => exact dg_zero
  | cons d l ih =>
    have hd := h.1.head
    have hp := val_pos h (by simp)
    have hv := val_nonneg h.1.tail
    rw [dg_pos hp]
    have e1 : val (d :: l) % 1000000000 = d := by simp only [val]; omega
    have e2 : val (d :: l) / 1000000000 = val l := by simp only [val]; omega
    rw [e1, e2, ih (nrm_tail h)]
theorem nrm_inj {a b : List Int} (ha : Nrm a) (hb : Nrm b) (h : val a = val b) : a = b := by rw [← dg_val ha, ← dg_val hb, h]
theorem dg_nil {n : Int} (h0 : 0 ≤ n) : dg n = [] ↔ n = 0 := by
  constructor
  · intro h
    have := val_dg h0
    rw [h] at this
    exact this.symm
  · rintro rfl; exact dg_zero
theorem nil_iff {l : List Int} (h : Nrm l) : l = [] ↔ val l = 0 := by
  constructor
  · rintro rfl; rfl
  · intro hv
    by_cases hne : l = []
    · exact hne
    · have := val_pos h hne; omega
/-- A number of n limbs is at least the n-1st power. -/
theorem pw_le_val {l : List Int} (h : Nrm l) (hne : l ≠ []) : pw (l.length - 1) ≤ val l := by
  induction l with
  | nil => exact absurd rfl hne
  | cons d l ih =>
    have hd := h.1.head
    by_cases hl : l = []
    · subst hl
      have := val_pos h (by simp)
      simp only [List.length_cons, List.length_nil, Nat.zero_add, Nat.sub_self, pw_zero]; omega
    · have h1 := ih (nrm_tail h) hl
      have h2 : (d :: l).length - 1 = (l.length - 1) + 1 := by
        have : l.length ≠ 0 := fun e => hl (List.eq_nil_of_length_eq_zero e)
        simp only [List.length_cons]; omega
      rw [h2, pw_succ]
      simp only [val]; omega
theorem len_le {l : List Int} (h : Nrm l) {n : Nat} : l.length ≤ n ↔ val l < pw n := by
  constructor
  · intro hl
    exact Int.lt_of_lt_of_le (val_lt h.1) (pw_le hl)
  · intro hv
    by_cases hne : l = []
    · subst hne; simp
    · have h1 := pw_le_val h hne
      by_cases hc : l.length ≤ n
      · exact hc
      · have h2 := pw_le (show n ≤ l.length - 1 by omega)
        omega
theorem dg_len {n : Int} (h0 : 0 ≤ n) {m : Nat} : (dg n).length ≤ m ↔ n < pw m := by
  rw [len_le (nrm_dg n), val_dg h0]
theorem len_lt_val {a b : List Int} (ha : Nrm a) (hb : Nrm b) (h : a.length < b.length) : val a < val b := by
  have hne : b ≠ [] := by rintro rfl; simp at h
  have h1 := pw_le_val hb hne
  have h2 := val_lt ha.1
  have h3 := pw_le (show a.length ≤ b.length - 1 by omega)
  omega
theorem nrm_of_last {l : List Int} (h : Dig l) (hl : ∀ i : Int, i = (l.length : Int) - 1 → 0 ≤ i → rd l i ≠ 0) : Nrm l := by
  refine ⟨h, fun hne => ?_⟩
  have hp : 0 < l.length := List.length_pos_iff.2 hne
  have := hl ((l.length : Int) - 1) rfl (by omega)
  rw [rd_lt (by omega)] at this
  rw [List.getLast_eq_getElem]
  have e : ((l.length : Int) - 1).toNat = l.length - 1 := by omega
  simpa only [e] using this
theorem nrm_last {l : List Int} (h : Nrm l) {i : Int} (hi : i = (l.length : Int) - 1) (h0 : 0 ≤ i) : rd l i ≠ 0 := by
  have hne : l ≠ [] := by rintro rfl; simp at hi; omega
  have := h.2 hne
  rw [List.getLast_eq_getElem] at this
  rw [rd_lt (by omega)]
  have e : i.toNat = l.length - 1 := by omega
  simpa only [e] using this
theorem nrm_nil : Nrm [] := ⟨Dig.nil, fun h => absurd rfl h⟩
theorem nrm_one {d : Int} (h : 0 < d ∧ d < 1000000000) : Nrm [d] := ⟨Dig.cons (by omega) Dig.nil, fun _ => by simp; omega⟩

/-! ### valid numbers -/
def digB (l : List Int) : Bool := l.all fun d => decide (0 ≤ d) && decide (d < 1000000000)
theorem digB_iff {l : List Int} : digB l = true ↔ Dig l := by
  unfold digB Dig
  rw [List.all_eq_true]
  simp
def okN (l : List Int) : Bool := decide (l.length ≤ 48) && digB l && (l.isEmpty || (rd l ((l.length : Int) - 1) != 0))
def Ok (l : List Int) : Prop := l.length ≤ 48 ∧ Nrm l
theorem okN_iff {l : List Int} : okN l = true ↔ Ok l := by
  unfold okN Ok
  simp only [Bool.and_eq_true, decide_eq_true_eq, Bool.or_eq_true, bne_iff_ne, digB_iff]
  constructor
  · rintro ⟨⟨h1, h2⟩, h3⟩
    refine ⟨h1, nrm_of_last h2 fun i hi h0 => ?_⟩
    rcases h3 with h3 | h3
    · have : l = [] := List.isEmpty_iff.1 h3
      subst this; simp at hi; omega
    · rw [hi]; exact h3
  · rintro ⟨h1, h2⟩
    refine ⟨⟨h1, h2.1⟩, ?_⟩
    by_cases hne : l = []
    · subst hne; exact .inl rfl
    · have hp : 0 < l.length := List.length_pos_iff.2 hne
      exact .inr (nrm_last h2 rfl (by omega))
theorem Ok.lt {l : List Int} (h : Ok l) : val l < pw 48 := (len_le h.2).1 h.1
theorem Ok.nonneg {l : List Int} (h : Ok l) : 0 ≤ val l := val_nonneg h.2.1
theorem ok_dg {n : Int} (h0 : 0 ≤ n) (h : n < pw 48) : Ok (dg n) := ⟨(dg_len h0).2 h, nrm_dg n⟩
end Go.Proofs.Ytiondkijgpjgcaa.Mat
namespace Go.Proofs.Ytiondkijgpjgcaa.Px
open Go.Proofs.Ytiondkijgpjgcaa.Wd Go.Proofs.Ytiondkijgpjgcaa.Mat
set_option linter.unusedVariables false

theorem ev_Valid_l0 (l : List Int) (hb : l.length ≤ 48) : ∀ (d : Nat) (i : Int), 0 ≤ i → i ≤ l.length → (l.length : Int) - i = d →
    Ev (fun k => nat_Valid.l0 k l l.length i) (digB (l.drop i.toNat) && (l.isEmpty || (rd l ((l.length : Int) - 1) != 0))) := by
  intro d
  induction d with
  | zero =>
    intro i h0 h1 hd
    have e : l.drop i.toNat = [] := List.drop_eq_nil_of_le (by omega)
    rw [e]
    refine Ev.step (f := fun _ => some _) (fun k => ?_) (Ev.now _)
    simp only [nat_Valid.l0]
    rw [if_neg (by omega)]
    by_cases hl : l = []
    · subst hl; simp [digB]
    · have hp : 0 < l.length := List.length_pos_iff.2 hl
      rw [w64 (by omega) (by omega), if_neg (by omega), if_pos (by omega), if_pos (by omega)]
      have e2 : l.isEmpty = false := by cases l with | nil => exact absurd rfl hl | cons a b => rfl
      rw [e2]; simp [digB]
  | succ d ih =>
    intro i h0 h1 hd
    have ih' := ih (i + 1) (by omega) (by omega) (by omega)
    have e1 : (i + 1).toNat = i.toNat + 1 := by omega
    rw [e1] at ih'
    rw [drop_rd h0 (by omega)]
    by_cases c1 : rd l i < 0
    · have e2 : (digB (rd l i :: l.drop (i.toNat + 1))) = false := by simp only [digB, List.all_cons]; rw [show decide (0 ≤ rd l i) = false from decide_eq_false (by omega)]; simp
      rw [e2, Bool.false_and]
      refine Ev.step (f := fun _ => some _) (fun k => ?_) (Ev.now _)
      simp only [nat_Valid.l0]
      rw [if_pos (by omega), if_pos h0, if_pos (by omega), if_pos c1]
    · by_cases c2 : rd l i ≥ 1000000000
      · have e2 : (digB (rd l i :: l.drop (i.toNat + 1))) = false := by simp only [digB, List.all_cons]; rw [show decide (rd l i < 1000000000) = false from decide_eq_false (by omega)]; simp
        rw [e2, Bool.false_and]
        refine Ev.step (f := fun _ => some _) (fun k => ?_) (Ev.now _)
        simp only [nat_Valid.l0]
        rw [if_pos (by omega), if_pos h0, if_pos (by omega), if_neg c1, if_pos c2]
      · have e2 : (digB (rd l i :: l.drop (i.toNat + 1))) = digB (l.drop (i.toNat + 1)) := by simp only [digB, List.all_cons]; rw [decide_eq_true (show 0 ≤ rd l i by omega), decide_eq_true (show rd l i < 1000000000 by omega)]; simp
        rw [e2]
        refine Ev.step (fun k => ?_) ih'
        simp only [nat_Valid.l0]
        rw [if_pos (by omega), if_pos h0, if_pos (by omega), if_neg c1, if_neg c2, w64 (by omega) (by omega)]
theorem ev_Valid (l : List Int) : Ev (fun k => nat_Valid.f k l) (okN l) := by
  by_cases hl : l.length ≤ 48
  · have h := ev_Valid_l0 l hl l.length 0 (by omega) (by omega) (by omega)
    refine Ev.congr (fun k => ?_) (show Ev _ (okN l) from ?_) (f := fun k => nat_Valid.l0 k l l.length 0)
    · unfold nat_Valid.f; rw [if_neg (by omega)]
    · unfold okN; rw [decide_eq_true hl, Bool.true_and]; exact h
  · refine Ev.congr (f := fun _ => some false) (fun k => ?_) ?_
    · unfold nat_Valid.f; rw [if_pos (by omega)]
    · unfold okN; rw [decide_eq_false hl]; exact Ev.now _

theorem ev_trimmed_l0 (l : List Int) (h : Dig l) (hb : l.length ≤ 1000000000) : ∀ (d : Nat), d ≤ l.length → val (l.drop d) = 0 →
    Ev (fun k => nat_trimmed.l0 k l d) (dg (val l)) := by
  intro d
  induction d with
  | zero =>
    intro hd hv
    refine Ev.step (f := fun _ => some _) (fun k => ?_) (Ev.now _)
    simp only [nat_trimmed.l0]
    rw [if_neg (by omega), if_pos (by omega), if_pos (by omega)]
    rw [List.drop_zero] at hv
    rw [hv, dg_zero]; simp
  | succ d ih =>
    intro hd hv
    have e1 : (((d + 1 : Nat) : Int) - 1) = d := by omega
    by_cases c : rd l d = 0
    · have hv' : val (l.drop d) = 0 := by
        have := val_drop (l := l) (i := (d : Int)) (by omega) (by omega)
        simp only [Int.toNat_natCast] at this
        rw [this, c, hv]; rfl
      refine Ev.step (fun k => ?_) (ih (by omega) hv')
      simp only [nat_trimmed.l0]
      rw [if_pos (by omega), w64 (by omega) (by omega), e1, if_pos (by omega), if_pos (by omega), if_pos c]
    · refine Ev.step (f := fun _ => some _) (fun k => ?_) (Ev.now _)
      simp only [nat_trimmed.l0]
      rw [if_pos (by omega), w64 (by omega) (by omega), e1, if_pos (by omega), if_pos (by omega), if_neg c, if_pos (by omega), if_pos (by omega)]
      congr 1
      have e2 : ((d + 1 : Nat) : Int).toNat = d + 1 := by omega
      rw [e2]
      have hn : Nrm (l.take (d + 1)) := by
        refine nrm_of_last (h.take _) fun i hi h0 => ?_
        rw [List.length_take, Nat.min_eq_left hd] at hi
        have : i = d := by omega
        subst this
        have h2 : rd l d = rd (l.take (d + 1) ++ l.drop (d + 1)) d := by rw [List.take_append_drop]
        rw [h2, rd_append_left (by rw [List.length_take]; omega)] at c
        exact c
      have h3 := val_split l (d + 1) hd
      rw [hv, Int.mul_zero, Int.add_zero] at h3
      rw [h3, dg_val hn]
theorem ev_trimmed (l : List Int) (h : Dig l) (hb : l.length ≤ 1000000000) : Ev (fun k => nat_trimmed.f k l) (dg (val l)) :=
  ev_trimmed_l0 l h hb l.length (Nat.le_refl _) (by rw [List.drop_length]; rfl)
def fitS (n : Int) : List Int × Int := if n < pw 48 then (dg n, 0) else ([], 2)
theorem ev_fitted (l : List Int) (h : Dig l) (hb : l.length ≤ 1000000000) : Ev (fun k => nat_fitted.f k l) (fitS (val l)) := by
  refine Ev.bind (ev_trimmed l h hb) (Ev.congr (f := fun _ => some (fitS (val l))) (fun k => ?_) (Ev.now _))
  unfold fitS
  have := dg_len (val_nonneg h) (m := 48)
  by_cases c : val l < pw 48
  · rw [if_pos c]
    have := this.2 c
    rw [if_neg (by omega)]
  · rw [if_neg c]
    have : ¬ (dg (val l)).length ≤ 48 := fun e => c (this.1 e)
    rw [if_pos (by omega)]

def cmpS (x y : Int) : Int := if x < y then -1 else if x > y then 1 else 0
theorem cmp_top {a b : List Int} (ha : Dig a) (hb : Dig b) {i : Int} (h0 : 0 ≤ i) (h1 : i < a.length) (h2 : i < b.length) (he : val (a.drop (i.toNat + 1)) = val (b.drop (i.toNat + 1))) (hlt : rd a i < rd b i) : val a < val b := by
  have e1 := val_split a i.toNat (by omega)
  have e2 := val_split b i.toNat (by omega)
  rw [val_drop h0 h1] at e1
  rw [val_drop h0 h2] at e2
  have l1 := val_lt (ha.take i.toNat)
  have l2 := val_nonneg (hb.take i.toNat)
  rw [List.length_take, Nat.min_eq_left (by omega)] at l1
  have hp := pw_pos i.toNat
  have hm := Int.mul_le_mul_of_nonneg_left (show rd a i + 1 ≤ rd b i from hlt) (Int.le_of_lt hp)
  rw [e1, e2, he]
  grind
theorem ev_compare_l0 (a b : List Int) (ha : Dig a) (hb : Dig b) (hl : a.length = b.length) (hm : a.length ≤ 1000000000) : ∀ (d : Nat), d ≤ a.length → val (a.drop d) = val (b.drop d) →
    Ev (fun k => nat_compare.l0 k a b ((d : Int) - 1)) (cmpS (val a) (val b)) := by
  intro d
  induction d with
  | zero =>
    intro hd he
    refine Ev.step (f := fun _ => some _) (fun k => ?_) (Ev.now _)
    simp only [nat_compare.l0]
    rw [if_neg (by omega)]
    simp only [List.drop_zero] at he
    unfold cmpS
    rw [if_neg (by omega), if_neg (by omega)]
  | succ d ih =>
    intro hd he
    have e1 : (((d + 1 : Nat) : Int) - 1) = d := by omega
    rw [e1]
    have e2 : ((d : Int)).toNat + 1 = d + 1 := by omega
    by_cases c1 : rd a d < rd b d
    · have := cmp_top ha hb (i := (d : Int)) (by omega) (by omega) (by omega) (by rw [e2]; exact he) c1
      refine Ev.step (f := fun _ => some _) (fun k => ?_) (Ev.now _)
      simp only [nat_compare.l0]
      rw [if_pos (by omega), if_pos (by omega), if_pos (by omega), if_pos (by omega), if_pos c1]
      unfold cmpS; rw [if_pos this]
    · by_cases c2 : rd a d > rd b d
      · have := cmp_top hb ha (i := (d : Int)) (by omega) (by omega) (by omega) (by rw [e2]; exact he.symm) c2
        refine Ev.step (f := fun _ => some _) (fun k => ?_) (Ev.now _)
        simp only [nat_compare.l0]
        rw [if_pos (by omega), if_pos (by omega), if_pos (by omega), if_pos (by omega), if_neg c1, if_pos c2]
        unfold cmpS; rw [if_neg (by omega), if_pos this]
      · have hv : val (a.drop d) = val (b.drop d) := by
          have h1 := val_drop (l := a) (i := (d : Int)) (by omega) (by omega)
          have h2 := val_drop (l := b) (i := (d : Int)) (by omega) (by omega)
          simp only [Int.toNat_natCast] at h1 h2
          rw [h1, h2, he]; omega
        refine Ev.step (fun k => ?_) (ih (by omega) hv)
        simp only [nat_compare.l0]
        rw [if_pos (by omega), if_pos (by omega), if_pos (by omega), if_pos (by omega), if_neg c1, if_neg c2, w64 (by omega) (by omega)]
theorem ev_compare (a b : List Int) (ha : Nrm a) (hb : Nrm b) (hm : a.length ≤ 1000000000) : Ev (fun k => nat_compare.f k a b) (cmpS (val a) (val b)) := by
  by_cases hl : a.length = b.length
  · refine Ev.congr (fun k => ?_) (ev_compare_l0 a b ha.1 hb.1 hl hm a.length (Nat.le_refl _) (by rw [List.drop_length, hl, List.drop_length]))
    unfold nat_compare.f
    rw [if_pos (by omega), w64 (by omega) (by omega)]
  · by_cases hc : a.length < b.length
    · refine Ev.congr (f := fun _ => some _) (fun k => ?_) (Ev.now _)
      unfold nat_compare.f cmpS
      rw [if_neg (by omega), if_pos (by omega), if_pos (len_lt_val ha hb hc)]
    · have := len_lt_val hb ha (by omega)
      refine Ev.congr (f := fun _ => some _) (fun k => ?_) (Ev.now _)
      unfold nat_compare.f cmpS
      rw [if_neg (by omega), if_neg (by omega), if_neg (by omega), if_pos this]
end Go.Proofs.Ytiondkijgpjgcaa.Px
namespace Go.Proofs.Ytiondkijgpjgcaa.Px
open Go.Proofs.Ytiondkijgpjgcaa.Wd Go.Proofs.Ytiondkijgpjgcaa.Mat
set_option linter.unusedVariables false

theorem tdiv_e {a b : Int} (h : 0 ≤ a) : Int.tdiv a b = a / b := Int.tdiv_eq_ediv_of_nonneg h
theorem tmod_e {a b : Int} (h : 0 ≤ a) : Int.tmod a b = a % b := Int.tmod_eq_emod_of_nonneg h
theorem padded_e (l : List Int) (n : Int) (h : n ≤ 1000000000) (hl : l.length ≤ 1000000000) : nat_padded.f l n = some (l ++ List.replicate (n.toNat - l.length) 0) := by
  unfold nat_padded.f
  rw [if_pos]
  unfold mx
  split <;> omega

/-! ### Add -/
theorem ev_Add_l0 (b : List Int) (hb : Dig b) (hbl : b.length ≤ 1000) (S : Int) : ∀ (d : Nat) (x : List Int) (c i : Int), Dig x → x.length ≤ 1000 → 0 ≤ i → i ≤ x.length → (x.length : Int) - i = d → b.length ≤ x.length →
    0 ≤ c → c ≤ 1 → val x + (c + val (b.drop i.toNat)) * pw i.toNat = S → S < pw x.length →
    Ev (fun k => nat_Add.l0 k b x c x.length i) (fitS S) := by
  intro d
  induction d with
  | zero =>
    intro x c i hx hxl h0 h1 hd hbx hc0 hc1 hS hSl
    have e : b.drop i.toNat = [] := List.drop_eq_nil_of_le (by omega)
    have ei : i.toNat = x.length := by omega
    rw [e, ei] at hS
    simp only [val, Int.add_zero] at hS
    have hv := val_nonneg hx
    have hp := pw_pos x.length
    have hc : c = 0 := by
      rcases (show c = 0 ∨ c = 1 by omega) with h | h
      · exact h
      · rw [h] at hS; omega
    rw [hc] at hS
    have hS' : val x = S := by omega
    refine Ev.step (f := fun k => nat_fitted.f k x) (fun k => ?_) (hS' ▸ ev_fitted x hx (by omega))
    simp only [nat_Add.l0]
    rw [if_neg (by omega)]
    cases nat_fitted.f k x with
    | none => rfl
    | some p => rfl
  | succ d ih =>
    intro x c i hx hxl h0 h1 hd hbx hc0 hc1 hS hSl
    have ei : (i + 1).toNat = i.toNat + 1 := by omega
    have hr := hx.rd i
    by_cases cb : i < b.length
    · have hrb := hb.rd i
      have hsum : 0 ≤ rd x i + c + rd b i := by omega
      have hvb := val_drop (l := b) h0 cb
      have hm := Int.emod_add_mul_ediv (rd x i + c + rd b i) 1000000000
      have hs := val_set (l := x) ((rd x i + c + rd b i) % 1000000000) h0 (by omega)
      have hlen : (x.set i.toNat ((rd x i + c + rd b i) % 1000000000)).length = x.length := List.length_set
      have := ih (x.set i.toNat ((rd x i + c + rd b i) % 1000000000)) ((rd x i + c + rd b i) / 1000000000) (i + 1) (hx.set _ (by omega)) (by omega) (by omega) (by omega) (by omega) (by omega) (by omega) (by omega)
        (by rw [hs, ei, pw_succ]; rw [hvb] at hS; grind) (by rw [hlen]; exact hSl)
      rw [hlen] at this
      refine Ev.step (fun k => ?_) this
      simp only [nat_Add.l0]
      rw [if_pos (by omega), if_pos h0, if_pos (by omega), if_pos cb, w64 (x := rd x i + c) (by omega) (by omega), w64 (x := rd x i + c + rd b i) (by omega) (by omega), tmod_e hsum, tdiv_e hsum, w64 (by omega) (by omega), w64 (by omega) (by omega)]
    · have hsum : 0 ≤ rd x i + c := by omega
      have e1 : b.drop i.toNat = [] := List.drop_eq_nil_of_le (by omega)
      have e2 : b.drop (i.toNat + 1) = [] := List.drop_eq_nil_of_le (by omega)
      have hm := Int.emod_add_mul_ediv (rd x i + c) 1000000000
      have hs := val_set (l := x) ((rd x i + c) % 1000000000) h0 (by omega)
      have hlen : (x.set i.toNat ((rd x i + c) % 1000000000)).length = x.length := List.length_set
      have := ih (x.set i.toNat ((rd x i + c) % 1000000000)) ((rd x i + c) / 1000000000) (i + 1) (hx.set _ (by omega)) (by omega) (by omega) (by omega) (by omega) (by omega) (by omega) (by omega)
        (by rw [hs, ei, pw_succ, e2]; rw [e1] at hS; simp only [val, Int.add_zero] at hS ⊢; grind) (by rw [hlen]; exact hSl)
      rw [hlen] at this
      refine Ev.step (fun k => ?_) this
      simp only [nat_Add.l0]
      rw [if_pos (by omega), if_pos h0, if_pos (by omega), if_neg cb, w64 (x := rd x i + c) (by omega) (by omega), tmod_e hsum, tdiv_e hsum, w64 (by omega) (by omega), w64 (by omega) (by omega)]
def addS (a b : List Int) : List Int × Int := if okN a = true ∧ okN b = true then fitS (val a + val b) else ([], 3)
theorem ev_Add (a b : List Int) : Ev (fun k => nat_Add.f k a b) (addS a b) := by
  unfold addS
  by_cases ca : okN a = true
  · by_cases cb : okN b = true
    · rw [if_pos ⟨ca, cb⟩]
      have oa := okN_iff.1 ca
      have ob := okN_iff.1 cb
      have hla := oa.1
      have hlb := ob.1
      refine Ev.bind (ev_Valid a) ?_
      rw [ca]
      simp only [if_true]
      refine Ev.bind (ev_Valid b) ?_
      rw [cb]
      have hmx : mx (a.length : Int) (b.length : Int) ≤ 48 ∧ (a.length : Int) ≤ mx (a.length : Int) (b.length : Int) ∧ (b.length : Int) ≤ mx (a.length : Int) (b.length : Int) := by unfold mx; split <;> omega
      obtain ⟨n, hn⟩ : ∃ n : Nat, mx (a.length : Int) (b.length : Int) = n := ⟨(mx (a.length : Int) (b.length : Int)).toNat, by omega⟩
      rw [hn] at hmx
      have hlen : (a ++ List.replicate (((n : Int) + 1).toNat - a.length) 0).length = n + 1 := by simp; omega
      have h1 := val_lt oa.2.1
      have h2 := val_lt ob.2.1
      have h3 := pw_le (show a.length ≤ n by omega)
      have h4 := pw_le (show b.length ≤ n by omega)
      have h5 := pw_pos n
      have := ev_Add_l0 b ob.2.1 (by omega) (val a + val b) (n + 1) (a ++ List.replicate (((n : Int) + 1).toNat - a.length) 0) 0 0 (oa.2.1.append (Dig.rep _)) (by omega) (by omega) (by omega) (by omega) (by omega) (by omega) (by omega)
        (by rw [val_pad]; simp [pw_zero]) (by rw [hlen, pw_succ]; omega)
      refine Ev.step (fun k => ?_) this
      simp only [nat_Add.j0]
      rw [if_neg (by simp), hn, w64 (by omega) (by omega), padded_e _ _ (by omega) (by omega), Option.bind_some]
    · rw [if_neg (fun h => cb h.2)]
      refine Ev.bind (ev_Valid a) ?_
      rw [ca]
      simp only [if_true]
      refine Ev.bind (ev_Valid b) ?_
      rw [Bool.eq_false_iff.2 cb]
      refine Ev.step (f := fun _ => some _) (fun k => ?_) (Ev.now _)
      simp [nat_Add.j0]
  · rw [if_neg (fun h => ca h.1)]
    refine Ev.bind (ev_Valid a) ?_
    rw [Bool.eq_false_iff.2 ca]
    simp only [Bool.false_eq_true, if_false]
    refine Ev.step (f := fun _ => some _) (fun k => ?_) (Ev.now _)
    simp [nat_Add.j0]

/-! ### Sub -/
theorem ev_Sub_l0 (b : List Int) (hb : Dig b) (hbl : b.length ≤ 1000) (S : Int) (hS0 : 0 ≤ S) : ∀ (d : Nat) (x : List Int) (c i : Int), Dig x → x.length ≤ 1000 → 0 ≤ i → i ≤ x.length → (x.length : Int) - i = d → b.length ≤ x.length →
    0 ≤ c → c ≤ 1 → val x - (c + val (b.drop i.toNat)) * pw i.toNat = S →
    Ev (fun k => nat_Sub.l0 k b x c x.length i) (dg S, 0) := by
  intro d
  induction d with
  | zero =>
    intro x c i hx hxl h0 h1 hd hbx hc0 hc1 hS
    have e : b.drop i.toNat = [] := List.drop_eq_nil_of_le (by omega)
    have ei : i.toNat = x.length := by omega
    rw [e, ei] at hS
    simp only [val, Int.add_zero] at hS
    have hv := val_lt hx
    have hc : c = 0 := by
      rcases (show c = 0 ∨ c = 1 by omega) with h | h
      · exact h
      · rw [h] at hS; omega
    rw [hc] at hS
    have hS' : val x = S := by omega
    refine Ev.step (f := fun k => (nat_trimmed.f k x).bind fun t => some (t, 0)) (fun k => ?_) (Ev.bind (hS' ▸ ev_trimmed x hx (by omega)) (Ev.now _))
    simp only [nat_Sub.l0]
    rw [if_neg (by omega)]
  | succ d ih =>
    intro x c i hx hxl h0 h1 hd hbx hc0 hc1 hS
    have ei : (i + 1).toNat = i.toNat + 1 := by omega
    have hr := hx.rd i
    by_cases cb : i < b.length
    · have hrb := hb.rd i
      have hvb := val_drop (l := b) h0 cb
      by_cases cn : rd x i - c - rd b i < 0
      · have hs := val_set (l := x) (rd x i - c - rd b i + 1000000000) h0 (by omega)
        have hlen : (x.set i.toNat (rd x i - c - rd b i + 1000000000)).length = x.length := List.length_set
        have := ih (x.set i.toNat (rd x i - c - rd b i + 1000000000)) 1 (i + 1) (hx.set _ (by omega)) (by omega) (by omega) (by omega) (by omega) (by omega) (by omega) (by omega)
          (by rw [hs, ei, pw_succ]; rw [hvb] at hS; grind)
        rw [hlen] at this
        refine Ev.step (fun k => ?_) this
        simp only [nat_Sub.l0]
        rw [if_pos (by omega), if_pos h0, if_pos (by omega), if_pos cb, w64 (x := rd x i - c) (by omega) (by omega), w64 (x := rd x i - c - rd b i) (by omega) (by omega), if_pos cn, w64 (by omega) (by omega), w64 (by omega) (by omega)]
      · have hs := val_set (l := x) (rd x i - c - rd b i) h0 (by omega)
        have hlen : (x.set i.toNat (rd x i - c - rd b i)).length = x.length := List.length_set
        have := ih (x.set i.toNat (rd x i - c - rd b i)) 0 (i + 1) (hx.set _ (by omega)) (by omega) (by omega) (by omega) (by omega) (by omega) (by omega) (by omega)
          (by rw [hs, ei, pw_succ]; rw [hvb] at hS; grind)
        rw [hlen] at this
        refine Ev.step (fun k => ?_) this
        simp only [nat_Sub.l0]
        rw [if_pos (by omega), if_pos h0, if_pos (by omega), if_pos cb, w64 (x := rd x i - c) (by omega) (by omega), w64 (x := rd x i - c - rd b i) (by omega) (by omega), if_neg cn, w64 (by omega) (by omega)]
    · have e1 : b.drop i.toNat = [] := List.drop_eq_nil_of_le (by omega)
      have e2 : b.drop (i.toNat + 1) = [] := List.drop_eq_nil_of_le (by omega)
      by_cases cn : rd x i - c < 0
      · have hs := val_set (l := x) (rd x i - c + 1000000000) h0 (by omega)
        have hlen : (x.set i.toNat (rd x i - c + 1000000000)).length = x.length := List.length_set
        have := ih (x.set i.toNat (rd x i - c + 1000000000)) 1 (i + 1) (hx.set _ (by omega)) (by omega) (by omega) (by omega) (by omega) (by omega) (by omega) (by omega)
          (by rw [hs, ei, pw_succ, e2]; rw [e1] at hS; simp only [val, Int.add_zero] at hS ⊢; grind)
        rw [hlen] at this
        refine Ev.step (fun k => ?_) this
        simp only [nat_Sub.l0]
        rw [if_pos (by omega), if_pos h0, if_pos (by omega), if_neg cb, w64 (x := rd x i - c) (by omega) (by omega), if_pos cn, w64 (by omega) (by omega), w64 (by omega) (by omega)]
      · have hs := val_set (l := x) (rd x i - c) h0 (by omega)
        have hlen : (x.set i.toNat (rd x i - c)).length = x.length := List.length_set
        have := ih (x.set i.toNat (rd x i - c)) 0 (i + 1) (hx.set _ (by omega)) (by omega) (by omega) (by omega) (by omega) (by omega) (by omega) (by omega)
          (by rw [hs, ei, pw_succ, e2]; rw [e1] at hS; simp only [val, Int.add_zero] at hS ⊢; grind)
        rw [hlen] at this
        refine Ev.step (fun k => ?_) this
        simp only [nat_Sub.l0]
        rw [if_pos (by omega), if_pos h0, if_pos (by omega), if_neg cb, w64 (x := rd x i - c) (by omega) (by omega), if_neg cn, w64 (by omega) (by omega)]
theorem len_of_le {a b : List Int} (ha : Nrm a) (hb : Nrm b) (h : val b ≤ val a) : b.length ≤ a.length := by
  by_cases c : b.length ≤ a.length
  · exact c
  · have := len_lt_val ha hb (by omega); omega
def subS (a b : List Int) : List Int × Int := if okN a = true ∧ okN b = true then (if val a < val b then ([], 1) else (dg (val a - val b), 0)) else ([], 3)
theorem ev_Sub (a b : List Int) : Ev (fun k => nat_Sub.f k a b) (subS a b) := by
  unfold subS
  by_cases ca : okN a = true
  · by_cases cb : okN b = true
    · rw [if_pos ⟨ca, cb⟩]
      have oa := okN_iff.1 ca
      have ob := okN_iff.1 cb
      have hla := oa.1
      have hlb := ob.1
      refine Ev.bind (ev_Valid a) ?_
      rw [ca]
      simp only [if_true]
      refine Ev.bind (ev_Valid b) ?_
      rw [cb]
      by_cases c : val a < val b
      · rw [if_pos c]
        refine Ev.step (f := fun k => (nat_compare.f k a b).bind fun t => if t < 0 then (some (([] : List Int), 1)) else ((nat_padded.f a (a.length : Int)).bind fun t322 => (nat_Sub.l0 k b t322 0 (t322.length : Int) 0))) (fun k => ?_) (Ev.bind (ev_compare a b oa.2 ob.2 (by omega)) ?_)
        · simp only [nat_Sub.j0]; rw [if_neg (by simp)]
        · refine Ev.congr (f := fun _ => some _) (fun k => ?_) (Ev.now _)
          unfold cmpS; rw [if_pos c, if_pos (by omega)]
      · rw [if_neg c]
        have hbl := len_of_le oa.2 ob.2 (by omega)
        have := ev_Sub_l0 b ob.2.1 (by omega) (val a - val b) (by omega) a.length a 0 0 oa.2.1 (by omega) (by omega) (by omega) (by omega) hbl (by omega) (by omega) (by simp [pw_zero])
        refine Ev.step (f := fun k => (nat_compare.f k a b).bind fun t => if t < 0 then (some (([] : List Int), 1)) else ((nat_padded.f a (a.length : Int)).bind fun t322 => (nat_Sub.l0 k b t322 0 (t322.length : Int) 0))) (fun k => ?_) (Ev.bind (ev_compare a b oa.2 ob.2 (by omega)) ?_)
        · simp only [nat_Sub.j0]; rw [if_neg (by simp)]
        · have hcm : ¬ cmpS (val a) (val b) < 0 := by unfold cmpS; rw [if_neg c]; split <;> omega
          refine Ev.congr (fun k => ?_) this
          rw [if_neg hcm, padded_e _ _ (by omega) (by omega), Option.bind_some]
          have e : ((a.length : Int)).toNat - a.length = 0 := by omega
          rw [e]; simp
    · rw [if_neg (fun h => cb h.2)]
      refine Ev.bind (ev_Valid a) ?_
      rw [ca]
      simp only [if_true]
      refine Ev.bind (ev_Valid b) ?_
      rw [Bool.eq_false_iff.2 cb]
      refine Ev.step (f := fun _ => some _) (fun k => ?_) (Ev.now _)
      simp [nat_Sub.j0]
  · rw [if_neg (fun h => ca h.1)]
    refine Ev.bind (ev_Valid a) ?_
    rw [Bool.eq_false_iff.2 ca]
    simp only [Bool.false_eq_true, if_false]
    refine Ev.step (f := fun _ => some _) (fun k => ?_) (Ev.now _)
    simp [nat_Sub.j0]
end Go.Proofs.Ytiondkijgpjgcaa.Px
namespace Go.Proofs.Ytiondkijgpjgcaa.Px
open Go.Proofs.Ytiondkijgpjgcaa.Wd Go.Proofs.Ytiondkijgpjgcaa.Mat
set_option linter.unusedVariables false

/-! ### Mul -/
theorem mul_lt {x y : Int} (hx : 0 ≤ x ∧ x < 1000000000) (hy : 0 ≤ y ∧ y < 1000000000) : 0 ≤ x * y ∧ x * y ≤ 999999998000000001 := by
  refine ⟨Int.mul_nonneg hx.1 hy.1, ?_⟩
  have h1 := Int.mul_le_mul (show x ≤ 999999999 by omega) (show y ≤ 999999999 by omega) hy.1 (by omega)
  omega
theorem ev_Mul_l1 (a b : List Int) (ha : Dig a) (hb : Dig b) (hal : a.length ≤ 1000) (hbl : b.length ≤ 1000) (i : Int) (hi0 : 0 ≤ i) (hi1 : i < a.length) (n j : Int) (F : List Int × Int) (V : Int)
    (hnext : ∀ x : List Int, Dig x → x.length = a.length + b.length + 1 → val x = V + rd a i * val b * pw i.toNat → (∀ t : Nat, i + b.length + 1 ≤ t → rd x t = 0) → Ev (fun k => nat_Mul.l0 k a b x n (wrap64 (j + 1))) F) :
    ∀ (d : Nat) (x : List Int) (c t : Int), Dig x → x.length = a.length + b.length + 1 → 0 ≤ t → t ≤ b.length → (b.length : Int) - t = d → 0 ≤ c → c < 1000000000 →
    val x + c * pw (i.toNat + t.toNat) = V + rd a i * val (b.take t.toNat) * pw i.toNat → (∀ s : Nat, i + b.length ≤ s → rd x s = 0) →
    Ev (fun k => nat_Mul.l1 k a b x i c n j b.length t) F := by
  intro d
  induction d with
  | zero =>
    intro x c t hx hxl h0 h1 hd hc0 hc1 hV hz
    have et : t.toNat = b.length := by omega
    rw [et, List.take_length] at hV
    have e1 : (i + (b.length : Int)).toNat = i.toNat + b.length := by omega
    have hs := val_set (l := x) (i := i + (b.length : Int)) c (by omega) (by omega)
    have hz0 := hz (i + (b.length : Int)).toNat (by omega)
    have e3 : (((i + (b.length : Int)).toNat : Nat) : Int) = i + (b.length : Int) := by omega
    rw [e3] at hz0
    rw [hz0, e1] at hs
    have := hnext (x.set (i + (b.length : Int)).toNat c) (hx.set _ ⟨hc0, hc1⟩) (by rw [List.length_set]; exact hxl) (by rw [e1]; grind) (fun s hs => by rw [rd_set_ne _ (by omega)]; exact hz s (by omega))
    refine Ev.step (fun k => ?_) this
    simp only [nat_Mul.l1]
    rw [if_neg (by omega), w64 (x := i + (b.length : Int)) (by omega) (by omega), if_pos (by omega), if_pos (by omega)]
  | succ d ih =>
    intro x c t hx hxl h0 h1 hd hc0 hc1 hV hz
    have hr := hx.rd (i + t)
    have hm := mul_lt (ha.rd i) (hb.rd t)
    have et : (t + 1).toNat = t.toNat + 1 := by omega
    have eit : (i + t).toNat = i.toNat + t.toNat := by omega
    have hsum : 0 ≤ rd x (i + t) + rd a i * rd b t + c := by omega
    have hs := val_set (l := x) (i := i + t) ((rd x (i + t) + rd a i * rd b t + c) % 1000000000) (by omega) (by omega)
    have hdm := Int.emod_add_mul_ediv (rd x (i + t) + rd a i * rd b t + c) 1000000000
    have htk : val (b.take (t.toNat + 1)) = val (b.take t.toNat) + pw t.toNat * rd b t := by
      have e : b.take (t.toNat + 1) = b.take t.toNat ++ [rd b t] := by
        rw [List.take_succ_eq_append_getElem (by omega), rd_lt (by omega)]
      rw [e, val_append, List.length_take, Nat.min_eq_left (by omega)]
      simp [val]
    have hp := pw_add i.toNat t.toNat
    have := ih (x.set (i + t).toNat ((rd x (i + t) + rd a i * rd b t + c) % 1000000000)) ((rd x (i + t) + rd a i * rd b t + c) / 1000000000) (t + 1) (hx.set _ (by omega)) (by rw [List.length_set]; exact hxl) (by omega) (by omega) (by omega) (by omega) (by omega)
      (by rw [hs, et, htk, eit, ← Nat.add_assoc, pw_succ, hp]; rw [hp] at hV; grind) (fun s hs => by rw [rd_set_ne _ (by omega)]; exact hz s (by omega))
    refine Ev.step (fun k => ?_) this
    simp only [nat_Mul.l1]
    rw [if_pos (by omega), w64 (x := i + t) (by omega) (by omega), if_pos (by omega), if_pos (by omega), if_pos hi0, if_pos hi1, if_pos h0, if_pos (by omega),
      w64 (x := rd a i * rd b t) (by omega) (by omega), w64 (x := rd x (i + t) + rd a i * rd b t) (by omega) (by omega), w64 (x := rd x (i + t) + rd a i * rd b t + c) (by omega) (by omega), tmod_e hsum, tdiv_e hsum, w64 (by omega) (by omega), w64 (by omega) (by omega)]
theorem take_step (a : List Int) (i : Nat) (h : i < a.length) : val (a.take (i + 1)) = val (a.take i) + pw i * rd a i := by
  have e : a.take (i + 1) = a.take i ++ [rd a i] := by
    rw [List.take_succ_eq_append_getElem h, rd_lt (by simpa using h)]; rfl
  rw [e, val_append, List.length_take, Nat.min_eq_left (by omega)]
  simp [val]
theorem ev_Mul_l0 (a b : List Int) (ha : Dig a) (hb : Dig b) (hal : a.length ≤ 1000) (hbl : b.length ≤ 1000) : ∀ (d : Nat) (x : List Int) (i : Int), Dig x → x.length = a.length + b.length + 1 → 0 ≤ i → i ≤ a.length → (a.length : Int) - i = d →
    val x = val (a.take i.toNat) * val b → (∀ s : Nat, i + b.length ≤ s → rd x s = 0) → Ev (fun k => nat_Mul.l0 k a b x a.length i) (fitS (val a * val b)) := by
  intro d
  induction d with
  | zero =>
    intro x i hx hxl h0 h1 hd hV hz
    have ei : i.toNat = a.length := by omega
    rw [ei, List.take_length] at hV
    refine Ev.step (f := fun k => nat_fitted.f k x) (fun k => ?_) (hV ▸ ev_fitted x hx (by omega))
    simp only [nat_Mul.l0]
    rw [if_neg (by omega)]
    cases nat_fitted.f k x with
    | none => rfl
    | some p => rfl
  | succ d ih =>
    intro x i hx hxl h0 h1 hd hV hz
    have ei : (i + 1).toNat = i.toNat + 1 := by omega
    have hts := take_step a i.toNat (by omega)
    have e2 : ((i.toNat : Nat) : Int) = i := by omega
    rw [e2] at hts
    have := ev_Mul_l1 a b ha hb hal hbl i h0 (by omega) a.length i (fitS (val a * val b)) (val x) (fun y hy hyl hyv hyz => by
      rw [w64 (by omega) (by omega)]
      exact ih y (i + 1) hy hyl (by omega) (by omega) (by omega) (by rw [ei, hts, hyv, hV]; grind) (fun s hs => hyz s (by omega))) b.length x 0 0 hx hxl (by omega) (by omega) (by omega) (by omega) (by omega) (by simp [val]) hz
    refine Ev.step (fun k => ?_) this
    simp only [nat_Mul.l0]
    rw [if_pos (by omega)]
def mulS (a b : List Int) : List Int × Int := if okN a = true ∧ okN b = true then fitS (val a * val b) else ([], 3)
theorem rd_rep (n : Nat) (s : Int) : rd (List.replicate n 0) s = 0 := by
  by_cases h : s.toNat < n
  · rw [rd_lt (by simpa using h)]; simp
  · rw [rd_ge (by simpa using h)]
theorem ev_Mul (a b : List Int) : Ev (fun k => nat_Mul.f k a b) (mulS a b) := by
  unfold mulS
  by_cases ca : okN a = true
  · by_cases cb : okN b = true
    · rw [if_pos ⟨ca, cb⟩]
      have oa := okN_iff.1 ca
      have ob := okN_iff.1 cb
      have hla := oa.1
      have hlb := ob.1
      refine Ev.bind (ev_Valid a) ?_
      rw [ca]
      simp only [if_true]
      refine Ev.bind (ev_Valid b) ?_
      rw [cb]
      have := ev_Mul_l0 a b oa.2.1 ob.2.1 (by omega) (by omega) a.length (List.replicate (a.length + b.length + 1) 0) 0 (Dig.rep _) (by simp) (by omega) (by omega) (by omega) (by rw [val_rep]; simp [val]) (fun s _ => rd_rep _ _)
      refine Ev.step (fun k => ?_) this
      simp only [nat_Mul.j0]
      have e : ((a.length : Int) + (b.length : Int) + 1).toNat = a.length + b.length + 1 := by omega
      rw [if_neg (by simp), w64 (x := (a.length : Int) + (b.length : Int)) (by omega) (by omega), w64 (x := (a.length : Int) + (b.length : Int) + 1) (by omega) (by omega), if_pos (by omega), if_pos (by omega), e]
    · rw [if_neg (fun h => cb h.2)]
      refine Ev.bind (ev_Valid a) ?_
      rw [ca]
      simp only [if_true]
      refine Ev.bind (ev_Valid b) ?_
      rw [Bool.eq_false_iff.2 cb]
      refine Ev.step (f := fun _ => some _) (fun k => ?_) (Ev.now _)
      simp [nat_Mul.j0]
  · rw [if_neg (fun h => ca h.1)]
    refine Ev.bind (ev_Valid a) ?_
    rw [Bool.eq_false_iff.2 ca]
    simp only [Bool.false_eq_true, if_false]
    refine Ev.step (f := fun _ => some _) (fun k => ?_) (Ev.now _)
    simp [nat_Mul.j0]

/-! ### Of -/
def ofS (n : Int) : List Int × Int := if n < 0 then ([], 1) else (dg n, 0)
theorem ev_Of_l0 : ∀ (j : Nat) (n : Int) (x : List Int), n < pw j → 0 ≤ n → n ≤ 9223372036854775807 → x.length + j ≤ 1000 → Ev (fun k => nat_Of.l0 k n x) (x ++ dg n, 0) := by
  intro j
  induction j with
  | zero =>
    intro n x h h0 h1 hx
    rw [pw_zero] at h
    have : n = 0 := by omega
    subst this
    refine Ev.step (f := fun _ => some _) (fun k => ?_) (Ev.now _)
    simp only [nat_Of.l0]
    rw [if_neg (by omega), dg_zero, List.append_nil]
  | succ j ih =>
    intro n x h h0 h1 hx
    rw [pw_succ] at h
    by_cases c : 0 < n
    · have := ih (n / 1000000000) (x ++ [n % 1000000000]) (by omega) (by omega) (by omega) (by simp; omega)
      rw [List.append_assoc, List.singleton_append, ← dg_pos c] at this
      refine Ev.step (fun k => ?_) this
      simp only [nat_Of.l0]
      rw [if_pos c, if_pos (by omega), tdiv_e h0, tmod_e h0, w64 (by omega) (by omega)]
    · have : n = 0 := by omega
      subst this
      refine Ev.step (f := fun _ => some _) (fun k => ?_) (Ev.now _)
      simp only [nat_Of.l0]
      rw [if_neg (by omega), dg_zero, List.append_nil]
theorem ev_Of (n : Int) (h : n ≤ 9223372036854775807) : Ev (fun k => nat_Of.f k n) (ofS n) := by
  unfold ofS
  by_cases c : n < 0
  · rw [if_pos c]
    refine Ev.congr (f := fun _ => some _) (fun k => ?_) (Ev.now _)
    unfold nat_Of.f; rw [if_pos c]
  · rw [if_neg c]
    have hp : pw 3 = 1000000000000000000000000000 := by rw [pw_succ, pw_two]; rfl
    have := ev_Of_l0 3 n [] (by omega) (by omega) h (by simp)
    refine Ev.congr (fun k => ?_) this
    unfold nat_Of.f; rw [if_neg c]

/-! ### division by one limb -/
theorem ev_short_l0 (a : List Int) (ha : Dig a) (hal : a.length ≤ 1000) (m : Int) (hm0 : 0 < m) (hm1 : m ≤ 1000000000) : ∀ (d : Nat) (x : List Int) (r : Int), d ≤ a.length → Dig x → x.length = a.length → 0 ≤ r → r < m →
    val (a.drop d) = m * val (x.drop d) + r → (∀ s : Nat, s < d → rd x s = 0) → Ev (fun k => nat_short.l0 k a m x r ((d : Int) - 1)) (dg (val a / m), dg (val a % m)) := by
  intro d
  induction d with
  | zero =>
    intro x r hd hx hxl hr0 hr1 hV hz
    simp only [List.drop_zero] at hV
    have hq : val a / m = val x := by rw [hV, Int.add_comm, Int.add_mul_ediv_left _ _ (by omega), Int.ediv_eq_zero_of_lt hr0 hr1]; omega
    have hrm : val a % m = r := by rw [hV, Int.add_comm, Int.add_mul_emod_self_left, Int.emod_eq_of_lt hr0 hr1]
    have hDr : Dig [r] := Dig.cons (by omega) Dig.nil
    have hvr : val [r] = r := by simp [val]
    rw [hq, hrm]
    have h2 := ev_trimmed [r] hDr (by simp)
    rw [hvr] at h2
    refine Ev.step (f := fun k => (nat_trimmed.f k x).bind fun t139 => ((nat_trimmed.f k (([r] : List Int))).bind fun t145 => (some (t139, t145)))) (fun k => ?_) (Ev.bind (ev_trimmed x hx (by omega)) (Ev.bind h2 (Ev.now _)))
    simp only [nat_short.l0]
    rw [if_neg (by omega)]
  | succ d ih =>
    intro x r hd hx hxl hr0 hr1 hV hz
    have e1 : (((d + 1 : Nat) : Int) - 1) = d := by omega
    have hra := ha.rd d
    have hs0 : 0 ≤ r * 1000000000 + rd a d := by omega
    have hdm := Int.emod_add_mul_ediv (r * 1000000000 + rd a d) m
    have hm2 := Int.emod_nonneg (r * 1000000000 + rd a d) (show m ≠ 0 by omega)
    have hm3 := Int.emod_lt_of_pos (r * 1000000000 + rd a d) hm0
    have hq0 : 0 ≤ (r * 1000000000 + rd a d) / m := Int.ediv_nonneg hs0 (by omega)
    have hq1 : (r * 1000000000 + rd a d) / m < 1000000000 := by
      apply Int.ediv_lt_of_lt_mul hm0
      have : (r + 1) * 1000000000 ≤ m * 1000000000 := by omega
      omega
    have hda := val_drop (l := a) (i := (d : Int)) (by omega) (by omega)
    have ed : ((d : Int)).toNat = d := by omega
    rw [ed] at hda
    have hdx := val_drop (l := x.set d ((r * 1000000000 + rd a d) / m)) (i := (d : Int)) (by omega) (by rw [List.length_set]; omega)
    rw [ed] at hdx
    have hrs := rd_set_eq (l := x) (i := (d : Int)) ((r * 1000000000 + rd a d) / m) (by omega)
    rw [ed] at hrs
    rw [hrs, List.drop_set_of_lt (show d < d + 1 by omega)] at hdx
    have := ih (x.set d ((r * 1000000000 + rd a d) / m)) ((r * 1000000000 + rd a d) % m) (by omega) (hx.set _ ⟨hq0, hq1⟩) (by rw [List.length_set]; exact hxl) hm2 hm3
      (by rw [hda, hdx, hV]; grind) (fun s hs => by
        have := rd_set_ne (l := x) (i := (d : Int)) (j := (s : Int)) ((r * 1000000000 + rd a d) / m) (by omega)
        rw [ed] at this
        rw [this]; exact hz s (by omega))
    refine Ev.step (fun k => ?_) this
    simp only [nat_short.l0]
    rw [e1, if_pos (by omega), if_pos (by omega), if_pos (by omega), if_neg (by omega), if_pos (by omega), w64 (x := r * 1000000000) (by omega) (by omega), w64 (x := r * 1000000000 + rd a d) (by omega) (by omega), tdiv_e hs0, tmod_e hs0, w64 (by omega) (by omega), w64 (x := (d : Int) - 1) (by omega) (by omega), ed]
theorem ev_short (a : List Int) (ha : Dig a) (hal : a.length ≤ 1000) (m : Int) (hm0 : 0 < m) (hm1 : m ≤ 1000000000) : Ev (fun k => nat_short.f k a m) (dg (val a / m), dg (val a % m)) := by
  have := ev_short_l0 a ha hal m hm0 hm1 a.length (List.replicate a.length 0) 0 (Nat.le_refl _) (Dig.rep _) (by simp) (by omega) (by omega) (by rw [List.drop_length, List.drop_eq_nil_of_le (by simp)]; simp [val]) (fun s _ => rd_rep _ _)
  refine Ev.congr (fun k => ?_) this
  unfold nat_short.f
  have e : ((a.length : Int)).toNat = a.length := by omega
  rw [if_pos (by omega), if_pos (by omega), e, w64 (by omega) (by omega)]

/-! ### multiplication by one limb -/
theorem ev_scaled_l0 (a : List Int) (ha : Dig a) (hal : a.length ≤ 1000) (m : Int) (hm0 : 0 ≤ m) (hm1 : m < 1000000000) : ∀ (d : Nat) (x : List Int) (c i : Int), Dig x → x.length = a.length + 1 → 0 ≤ i → i ≤ a.length → (a.length : Int) - i = d → 0 ≤ c → c < 1000000000 →
    val x + c * pw i.toNat = val (a.take i.toNat) * m → (∀ s : Nat, i ≤ s → rd x s = 0) → ∃ r, Ev (fun k => nat_scaled.l0 k a m x c a.length i) r ∧ Dig r ∧ r.length = a.length + 1 ∧ val r = val a * m := by
  intro d
  induction d with
  | zero =>
    intro x c i hx hxl h0 h1 hd hc0 hc1 hV hz
    have ei : i.toNat = a.length := by omega
    rw [ei, List.take_length] at hV
    have hs := val_set (l := x) (i := (a.length : Int)) c (by omega) (by omega)
    rw [hz a.length (by omega)] at hs
    have e2 : ((a.length : Int)).toNat = a.length := by omega
    rw [e2] at hs
    refine ⟨x.set a.length c, ?_, hx.set _ ⟨hc0, hc1⟩, by rw [List.length_set]; exact hxl, by rw [hs, Int.sub_zero]; exact hV⟩
    refine Ev.step (f := fun _ => some _) (fun k => ?_) (Ev.now _)
    simp only [nat_scaled.l0]
    rw [if_neg (by omega), if_pos (by omega), if_pos (by omega), e2]
  | succ d ih =>
    intro x c i hx hxl h0 h1 hd hc0 hc1 hV hz
    have hm := mul_lt (ha.rd i) ⟨hm0, hm1⟩
    have ei : (i + 1).toNat = i.toNat + 1 := by omega
    have hsum : 0 ≤ rd a i * m + c := by omega
    have hs := val_set (l := x) (i := i) ((rd a i * m + c) % 1000000000) h0 (by omega)
    have hz0 := hz i.toNat (by omega)
    have e2 : ((i.toNat : Nat) : Int) = i := by omega
    rw [e2] at hz0
    rw [hz0] at hs
    have hdm := Int.emod_add_mul_ediv (rd a i * m + c) 1000000000
    have hts := take_step a i.toNat (by omega)
    rw [e2] at hts
    obtain ⟨r, hr, h⟩ := ih (x.set i.toNat ((rd a i * m + c) % 1000000000)) ((rd a i * m + c) / 1000000000) (i + 1) (hx.set _ (by omega)) (by rw [List.length_set]; exact hxl) (by omega) (by omega) (by omega) (by omega) (by omega)
      (by rw [hs, ei, pw_succ, hts]; grind) (fun s hs => by rw [rd_set_ne _ (by omega)]; exact hz s (by omega))
    refine ⟨r, Ev.step (fun k => ?_) hr, h⟩
    simp only [nat_scaled.l0]
    rw [if_pos (by omega), if_pos h0, if_pos (by omega), if_pos (by omega), w64 (x := rd a i * m) (by omega) (by omega), w64 (x := rd a i * m + c) (by omega) (by omega), tmod_e hsum, tdiv_e hsum, w64 (by omega) (by omega), w64 (by omega) (by omega)]
theorem ev_scaled (a : List Int) (ha : Dig a) (hal : a.length ≤ 1000) (m : Int) (hm0 : 0 ≤ m) (hm1 : m < 1000000000) : ∃ r, Ev (fun k => nat_scaled.f k a m) r ∧ Dig r ∧ r.length = a.length + 1 ∧ val r = val a * m := by
  obtain ⟨r, hr, h⟩ := ev_scaled_l0 a ha hal m hm0 hm1 a.length (List.replicate (a.length + 1) 0) 0 0 (Dig.rep _) (by simp) (by omega) (by omega) (by omega) (by omega) (by omega) (by rw [val_rep]; simp [val]) (fun s _ => rd_rep _ _)
  refine ⟨r, Ev.congr (fun k => ?_) hr, h⟩
  unfold nat_scaled.f
  have e : ((a.length : Int) + 1).toNat = a.length + 1 := by omega
  rw [w64 (by omega) (by omega), if_pos (by omega), if_pos (by omega), e]

/-! ### small -/
theorem ev_small_l0 (a : List Int) (ha : Dig a) (hal : a.length ≤ 2) : ∀ (d : Nat), d ≤ a.length → Ev (fun k => nat_small.l0 k a (val (a.drop d)) ((d : Int) - 1)) (val a) := by
  intro d
  induction d with
  | zero =>
    intro hd
    refine Ev.step (f := fun _ => some _) (fun k => ?_) (Ev.now _)
    simp only [nat_small.l0]
    rw [if_neg (by omega)]; rfl
  | succ d ih =>
    intro hd
    have e1 : (((d + 1 : Nat) : Int) - 1) = d := by omega
    have hda := val_drop (l := a) (i := (d : Int)) (by omega) (by omega)
    have ed : ((d : Int)).toNat = d := by omega
    rw [ed] at hda
    have h1 := val_nonneg (ha.drop (d + 1))
    have h2 := val_lt (ha.drop (d + 1))
    have h3 := pw_le (show (a.drop (d + 1)).length ≤ 1 by rw [List.length_drop]; omega)
    rw [pw_one] at h3
    have hr := ha.rd d
    refine Ev.step (fun k => ?_) (ih (by omega))
    simp only [nat_small.l0]
    rw [e1, if_pos (by omega), if_pos (by omega), if_pos (by omega), w64 (x := val (a.drop (d + 1)) * 1000000000) (by omega) (by omega), w64 (by omega) (by omega), w64 (x := (d : Int) - 1) (by omega) (by omega), hda]
    congr 1; omega
theorem ev_small (a : List Int) (ha : Dig a) (hal : a.length ≤ 2) : Ev (fun k => nat_small.f k a) (val a) := by
  have := ev_small_l0 a ha hal a.length (Nat.le_refl _)
  rw [List.drop_length] at this
  refine Ev.congr (fun k => ?_) this
  unfold nat_small.f
  rw [w64 (by omega) (by omega)]; rfl
end Go.Proofs.Ytiondkijgpjgcaa.Px
