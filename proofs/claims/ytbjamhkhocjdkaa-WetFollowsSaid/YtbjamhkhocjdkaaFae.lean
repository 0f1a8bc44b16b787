/- The functions of the program as functions of values, part 5: a proof's lemmas, with no condition of their own. -/
import Derived.Test.YtbjamhkhocjdkaaFaa
import Derived.Test.YtbjamhkhocjdkaaFab
import Derived.Test.YtbjamhkhocjdkaaFac
import Derived.Test.YtbjamhkhocjdkaaFad
set_option linter.unusedVariables false
set_option linter.unusedSimpArgs false
namespace Go.Proofs.Ytbjamhkhocjdkaa.Pw
open Go Wd Px Mat
set_option linter.unusedVariables false
set_option linter.unusedSimpArgs false
set_option maxRecDepth 100000
attribute [local irreducible] Int.tmod Int.tdiv
set_option maxHeartbeats 8000000
theorem rat_in.c (n : Int) : Sound Try.prog 65 [I n] (B (inR n)) := by
  by_cases h1 : -1125899906842624 ≤ n
  · by_cases h2 : n ≤ 1125899906842624
    · rw [show inR n = true by simp [inR]; omega]
      refine Sound.of_WP tok Try.func65 rfl rfl ?_; simp only [Try.f65, args0, List.map, List.length_cons, List.length_nil, Nat.reduceAdd, Nat.reduceSub, List.replicate, List.cons_append, List.nil_append]
      repeat' (first | refine WP_seq ?_ | refine WP_block ?_ | (refine WP_R 64 (by decide) fun KQ hKQ => ?_) | (refine WP_D 64 (by decide) ?_ fun KQ hKQ => ?_; (focus kernel_rfl)) | ((first | (refine opsW_op rfl rfl rfl ?_ rfl ?_; (first | exact trivial | omega | (dsimp only; omega) | (dsimp only; exact ⟨by omega, by omega, by omega⟩) | (simp only [Mid.len, Blk.cells, List.length_map, List.length_set, List.length_replicate, List.length_append, Nat.mul_one, Nat.zero_add, reduceCtorEq, List.length_cons, List.length_nil, List.length_take, List.length_drop, true_and, and_true, false_implies, implies_true]; first | done | omega) | (simp; done) | (simp; omega) | grind))); (try simp only [Mid.get, Mid.set, mx_fold, PV.flat, flats, nrm1, nrm, Bool.true_and, Bool.and_true, Bool.and_self, ev, List.replicate, Option.map_some, Option.bind_some, Nat.reduceBEq, beq_self_eq_true, setD, List.set, puts, put, del, cellsTo, cells1, allP, lay, putIn, joinB, sub, overB, rep, Blk.mk, AV.cells, List.map, List.drop, List.take, List.cons_append, List.nil_append, List.append_nil, List.getD_cons_succ, List.getD_cons_zero, if_true, if_false, Bool.false_eq_true, reduceIte, wrap_i64, getI, takeI, dropI, setI, repI, Nat.mul_one, Nat.one_mul, Nat.zero_add, Nat.add_zero, Nat.zero_mul, Int.toNat_natCast, Int.reduceNeg, Int.reduceToNat, Nat.reduceAdd, Nat.reduceMul, Nat.reduceSub, decide_true, decide_false, Bool.not_true, Bool.not_false, cond_true, cond_false, gt_iff_lt, ge_iff_le, Int.reduceLT, Int.reduceLE, Int.lt_irrefl, Int.le_refl, List.length_set, List.length_map, *])) | (refine opsW_skip rfl ?_; simp only [setD, List.set]) | (refine opsW_nil ⟨?_, hKQ _ _ _ ?_⟩; (focus kernel_rfl); clear hKQ KQ; try simp only [seqK, blockK, loopG, List.length_cons, List.length_nil, Nat.reduceAdd, Nat.reduceMul]) | (refine opsW_nil (hKQ _ _ _ ?_); clear hKQ KQ; try simp only [seqK, blockK, loopG, List.length_cons, List.length_nil, Nat.reduceAdd, Nat.reduceMul]) | (refine WP_cond (t := true) rfl ?_; simp only [if_true]) | (refine WP_cond (t := false) rfl ?_; simp only [if_false, Bool.false_eq_true]) | (refine WP_skip ?_; simp only [seqK, blockK, loopG]) | (refine WP_ret ?_; simp only [seqK, blockK, loopG, Fin]) | (refine WP_exit ?_; simp only [seqK, blockK, loopG, reduceIte, Nat.reduceEqDiff]))
      (simp only [List.take_take, Nat.min_self, List.nil_append, Int.toNat_natCast, take_set_len, get, dropI, takeI, List.drop_zero, List.take_length, Nat.mul_one, Nat.reduceBEq, cond_true, cond_false, beq_self_eq_true, Option.map_some, Option.bind_some, Res, resAll, resOne, Fin, pack, frz, frzs, nrm1, nrm, Option.bind, Option.map, List.getD_cons_succ, List.getD_cons_zero, List.map, true_and, and_self, and_true]; first | exact ⟨_, rfl⟩ | (refine ⟨_, Option.some_inj.2 (Prod.ext ?_ rfl)⟩; simp only [List.take_take, Nat.min_self, List.nil_append, List.take_length, List.length_take, List.length_set, List.length_append, List.length_replicate, List.length_cons, List.length_nil, takeI, repI, setI, PV.tup.injEq, PV.lst.injEq, List.cons.injEq, and_true, true_and, *] <;> first | done | omega | (refine ⟨?_, ?_⟩ <;> first | rfl | omega)))
    · rw [show inR n = false by simp [inR]; omega]
      refine Sound.of_WP tok Try.func65 rfl rfl ?_; simp only [Try.f65, args0, List.map, List.length_cons, List.length_nil, Nat.reduceAdd, Nat.reduceSub, List.replicate, List.cons_append, List.nil_append]
      repeat' (first | refine WP_seq ?_ | refine WP_block ?_ | (refine WP_R 64 (by decide) fun KQ hKQ => ?_) | (refine WP_D 64 (by decide) ?_ fun KQ hKQ => ?_; (focus kernel_rfl)) | ((first | (refine opsW_op rfl rfl rfl ?_ rfl ?_; (first | exact trivial | omega | (dsimp only; omega) | (dsimp only; exact ⟨by omega, by omega, by omega⟩) | (simp only [Mid.len, Blk.cells, List.length_map, List.length_set, List.length_replicate, List.length_append, Nat.mul_one, Nat.zero_add, reduceCtorEq, List.length_cons, List.length_nil, List.length_take, List.length_drop, true_and, and_true, false_implies, implies_true]; first | done | omega) | (simp; done) | (simp; omega) | grind))); (try simp only [Mid.get, Mid.set, mx_fold, PV.flat, flats, nrm1, nrm, Bool.true_and, Bool.and_true, Bool.and_self, ev, List.replicate, Option.map_some, Option.bind_some, Nat.reduceBEq, beq_self_eq_true, setD, List.set, puts, put, del, cellsTo, cells1, allP, lay, putIn, joinB, sub, overB, rep, Blk.mk, AV.cells, List.map, List.drop, List.take, List.cons_append, List.nil_append, List.append_nil, List.getD_cons_succ, List.getD_cons_zero, if_true, if_false, Bool.false_eq_true, reduceIte, wrap_i64, getI, takeI, dropI, setI, repI, Nat.mul_one, Nat.one_mul, Nat.zero_add, Nat.add_zero, Nat.zero_mul, Int.toNat_natCast, Int.reduceNeg, Int.reduceToNat, Nat.reduceAdd, Nat.reduceMul, Nat.reduceSub, decide_true, decide_false, Bool.not_true, Bool.not_false, cond_true, cond_false, gt_iff_lt, ge_iff_le, Int.reduceLT, Int.reduceLE, Int.lt_irrefl, Int.le_refl, List.length_set, List.length_map, *])) | (refine opsW_skip rfl ?_; simp only [setD, List.set]) | (refine opsW_nil ⟨?_, hKQ _ _ _ ?_⟩; (focus kernel_rfl); clear hKQ KQ; try simp only [seqK, blockK, loopG, List.length_cons, List.length_nil, Nat.reduceAdd, Nat.reduceMul]) | (refine opsW_nil (hKQ _ _ _ ?_); clear hKQ KQ; try simp only [seqK, blockK, loopG, List.length_cons, List.length_nil, Nat.reduceAdd, Nat.reduceMul]) | (refine WP_cond (t := true) rfl ?_; simp only [if_true]) | (refine WP_cond (t := false) rfl ?_; simp only [if_false, Bool.false_eq_true]) | (refine WP_skip ?_; simp only [seqK, blockK, loopG]) | (refine WP_ret ?_; simp only [seqK, blockK, loopG, Fin]) | (refine WP_exit ?_; simp only [seqK, blockK, loopG, reduceIte, Nat.reduceEqDiff]))
      (simp only [List.take_take, Nat.min_self, List.nil_append, Int.toNat_natCast, take_set_len, get, dropI, takeI, List.drop_zero, List.take_length, Nat.mul_one, Nat.reduceBEq, cond_true, cond_false, beq_self_eq_true, Option.map_some, Option.bind_some, Res, resAll, resOne, Fin, pack, frz, frzs, nrm1, nrm, Option.bind, Option.map, List.getD_cons_succ, List.getD_cons_zero, List.map, true_and, and_self, and_true]; first | exact ⟨_, rfl⟩ | (refine ⟨_, Option.some_inj.2 (Prod.ext ?_ rfl)⟩; simp only [List.take_take, Nat.min_self, List.nil_append, List.take_length, List.length_take, List.length_set, List.length_append, List.length_replicate, List.length_cons, List.length_nil, takeI, repI, setI, PV.tup.injEq, PV.lst.injEq, List.cons.injEq, and_true, true_and, *] <;> first | done | omega | (refine ⟨?_, ?_⟩ <;> first | rfl | omega)))
  · rw [show inR n = false by simp [inR]; omega]
    refine Sound.of_WP tok Try.func65 rfl rfl ?_; simp only [Try.f65, args0, List.map, List.length_cons, List.length_nil, Nat.reduceAdd, Nat.reduceSub, List.replicate, List.cons_append, List.nil_append]
    repeat' (first | refine WP_seq ?_ | refine WP_block ?_ | (refine WP_R 64 (by decide) fun KQ hKQ => ?_) | (refine WP_D 64 (by decide) ?_ fun KQ hKQ => ?_; (focus kernel_rfl)) | ((first | (refine opsW_op rfl rfl rfl ?_ rfl ?_; (first | exact trivial | omega | (dsimp only; omega) | (dsimp only; exact ⟨by omega, by omega, by omega⟩) | (simp only [Mid.len, Blk.cells, List.length_map, List.length_set, List.length_replicate, List.length_append, Nat.mul_one, Nat.zero_add, reduceCtorEq, List.length_cons, List.length_nil, List.length_take, List.length_drop, true_and, and_true, false_implies, implies_true]; first | done | omega) | (simp; done) | (simp; omega) | grind))); (try simp only [Mid.get, Mid.set, mx_fold, PV.flat, flats, nrm1, nrm, Bool.true_and, Bool.and_true, Bool.and_self, ev, List.replicate, Option.map_some, Option.bind_some, Nat.reduceBEq, beq_self_eq_true, setD, List.set, puts, put, del, cellsTo, cells1, allP, lay, putIn, joinB, sub, overB, rep, Blk.mk, AV.cells, List.map, List.drop, List.take, List.cons_append, List.nil_append, List.append_nil, List.getD_cons_succ, List.getD_cons_zero, if_true, if_false, Bool.false_eq_true, reduceIte, wrap_i64, getI, takeI, dropI, setI, repI, Nat.mul_one, Nat.one_mul, Nat.zero_add, Nat.add_zero, Nat.zero_mul, Int.toNat_natCast, Int.reduceNeg, Int.reduceToNat, Nat.reduceAdd, Nat.reduceMul, Nat.reduceSub, decide_true, decide_false, Bool.not_true, Bool.not_false, cond_true, cond_false, gt_iff_lt, ge_iff_le, Int.reduceLT, Int.reduceLE, Int.lt_irrefl, Int.le_refl, List.length_set, List.length_map, *])) | (refine opsW_skip rfl ?_; simp only [setD, List.set]) | (refine opsW_nil ⟨?_, hKQ _ _ _ ?_⟩; (focus kernel_rfl); clear hKQ KQ; try simp only [seqK, blockK, loopG, List.length_cons, List.length_nil, Nat.reduceAdd, Nat.reduceMul]) | (refine opsW_nil (hKQ _ _ _ ?_); clear hKQ KQ; try simp only [seqK, blockK, loopG, List.length_cons, List.length_nil, Nat.reduceAdd, Nat.reduceMul]) | (refine WP_cond (t := true) rfl ?_; simp only [if_true]) | (refine WP_cond (t := false) rfl ?_; simp only [if_false, Bool.false_eq_true]) | (refine WP_skip ?_; simp only [seqK, blockK, loopG]) | (refine WP_ret ?_; simp only [seqK, blockK, loopG, Fin]) | (refine WP_exit ?_; simp only [seqK, blockK, loopG, reduceIte, Nat.reduceEqDiff]))
    (simp only [List.take_take, Nat.min_self, List.nil_append, Int.toNat_natCast, take_set_len, get, dropI, takeI, List.drop_zero, List.take_length, Nat.mul_one, Nat.reduceBEq, cond_true, cond_false, beq_self_eq_true, Option.map_some, Option.bind_some, Res, resAll, resOne, Fin, pack, frz, frzs, nrm1, nrm, Option.bind, Option.map, List.getD_cons_succ, List.getD_cons_zero, List.map, true_and, and_self, and_true]; first | exact ⟨_, rfl⟩ | (refine ⟨_, Option.some_inj.2 (Prod.ext ?_ rfl)⟩; simp only [List.take_take, Nat.min_self, List.nil_append, List.take_length, List.length_take, List.length_set, List.length_append, List.length_replicate, List.length_cons, List.length_nil, takeI, repI, setI, PV.tup.injEq, PV.lst.injEq, List.cons.injEq, and_true, true_and, *] <;> first | done | omega | (refine ⟨?_, ?_⟩ <;> first | rfl | omega)))
theorem rat_natural.c (n : Int) (h : inR n = true) : Sound Try.prog 66 [I n] (N (dg (absI n))) := by
  have h' : -1125899906842624 ≤ n ∧ n ≤ 1125899906842624 := by simpa [inR] using h
  have w : wrap64 (0 - n) = -n := by rw [Int.zero_sub]; exact w64 (by omega) (by omega)
  have hm : mx n (-n) = absI n := by unfold mx absI; split <;> split <;> omega
  have ha : 0 ≤ absI n ∧ absI n ≤ 1125899906842624 := by unfold absI; split <;> omega
  have c := nat_Of.c (absI n) (by omega)
  have e : ofS (absI n) = (dg (absI n), 0) := by unfold ofS; rw [if_neg (by omega)]
  rw [e] at c
  dsimp only at c
  generalize absI n = a at *
  generalize dg a = D at *
  refine Sound.of_WP tok Try.func66 rfl rfl ?_; simp only [Try.f66, args0, List.map, List.length_cons, List.length_nil, Nat.reduceAdd, Nat.reduceSub, List.replicate, List.cons_append, List.nil_append]
  repeat' (first | refine WP_seq ?_ | refine WP_block ?_ | (refine WP_R 64 (by decide) fun KQ hKQ => ?_) | (refine WP_D 64 (by decide) ?_ fun KQ hKQ => ?_; (focus kernel_rfl)) | ((first | (refine opsW_op rfl rfl rfl ?_ rfl ?_; (first | exact trivial | omega | (dsimp only; omega) | (dsimp only; exact ⟨by omega, by omega, by omega⟩) | (simp only [Mid.len, Blk.cells, List.length_map, List.length_set, List.length_replicate, List.length_append, Nat.mul_one, Nat.zero_add, reduceCtorEq, List.length_cons, List.length_nil, List.length_take, List.length_drop, true_and, and_true, false_implies, implies_true]; first | done | omega) | (simp; done) | (simp; omega) | grind)) | (refine opsW_callP (qs := ?_) (rd := ?_) (u := ?_) (c) rfl rfl rfl ?_ ?_ ?_ ?_ ?_; rotate_right 6; (focus rfl); (focus (first | rfl | (simp only [nrm1, nrm, List.map, List.drop_zero, Nat.mul_one, takeI, dropI, List.take_length]; done) | (simp only [nrm1, nrm, List.map, List.drop_zero, Nat.mul_one, takeI, dropI, List.take_length]; rfl))); rotate_left 1; (focus rfl); (focus rfl); rotate_right 0)); (try simp only [Mid.get, Mid.set, mx_fold, PV.flat, flats, nrm1, nrm, Bool.true_and, Bool.and_true, Bool.and_self, ev, List.replicate, Option.map_some, Option.bind_some, Nat.reduceBEq, beq_self_eq_true, setD, List.set, puts, put, del, cellsTo, cells1, allP, lay, putIn, joinB, sub, overB, rep, Blk.mk, AV.cells, List.map, List.drop, List.take, List.cons_append, List.nil_append, List.append_nil, List.getD_cons_succ, List.getD_cons_zero, if_true, if_false, Bool.false_eq_true, reduceIte, wrap_i64, getI, takeI, dropI, setI, repI, Nat.mul_one, Nat.one_mul, Nat.zero_add, Nat.add_zero, Nat.zero_mul, Int.toNat_natCast, Int.reduceNeg, Int.reduceToNat, Nat.reduceAdd, Nat.reduceMul, Nat.reduceSub, decide_true, decide_false, Bool.not_true, Bool.not_false, cond_true, cond_false, gt_iff_lt, ge_iff_le, Int.reduceLT, Int.reduceLE, Int.lt_irrefl, Int.le_refl, List.length_set, List.length_map, *])) | (refine opsW_skip rfl ?_; simp only [setD, List.set]) | (refine opsW_nil ⟨?_, hKQ _ _ _ ?_⟩; (focus kernel_rfl); clear hKQ KQ; try simp only [seqK, blockK, loopG, List.length_cons, List.length_nil, Nat.reduceAdd, Nat.reduceMul]) | (refine opsW_nil (hKQ _ _ _ ?_); clear hKQ KQ; try simp only [seqK, blockK, loopG, List.length_cons, List.length_nil, Nat.reduceAdd, Nat.reduceMul]) | (refine WP_cond (t := true) rfl ?_; simp only [if_true]) | (refine WP_cond (t := false) rfl ?_; simp only [if_false, Bool.false_eq_true]) | (refine WP_skip ?_; simp only [seqK, blockK, loopG]) | (refine WP_ret ?_; simp only [seqK, blockK, loopG, Fin]) | (refine WP_exit ?_; simp only [seqK, blockK, loopG, reduceIte, Nat.reduceEqDiff]))
  (simp only [List.take_take, Nat.min_self, List.nil_append, Int.toNat_natCast, take_set_len, get, dropI, takeI, List.drop_zero, List.take_length, Nat.mul_one, Nat.reduceBEq, cond_true, cond_false, beq_self_eq_true, Option.map_some, Option.bind_some, Res, resAll, resOne, Fin, pack, frz, frzs, nrm1, nrm, Option.bind, Option.map, List.getD_cons_succ, List.getD_cons_zero, List.map, true_and, and_self, and_true]; first | exact ⟨_, rfl⟩ | (refine ⟨_, Option.some_inj.2 (Prod.ext ?_ rfl)⟩; simp only [List.take_take, Nat.min_self, List.nil_append, List.take_length, List.length_take, List.length_set, List.length_append, List.length_replicate, List.length_cons, List.length_nil, takeI, repI, setI, PV.tup.injEq, PV.lst.injEq, List.cons.injEq, and_true, true_and, *] <;> first | done | omega | (refine ⟨?_, ?_⟩ <;> first | rfl | omega)))
theorem rat_Make.c (p q : Int) : Sound Try.prog 50 [I p, I q] (.tup [R (makeS p q).1, I (makeS p q).2]) := by
  have c1 := rat_in.c p
  have c2 := rat_in.c q
  by_cases hp : inR p = true
  · by_cases hq : inR q = true
    · rw [hp] at c1; rw [hq] at c2
      by_cases h0 : q = 0
      · subst h0
        rw [show makeS p 0 = (zR, 16) by unfold makeS; rw [if_pos ⟨hp, hq⟩, if_pos rfl]]
        refine Sound.of_WP tok Try.func50 rfl rfl ?_; simp only [Try.f50, args0, List.map, List.length_cons, List.length_nil, Nat.reduceAdd, Nat.reduceSub, List.replicate, List.cons_append, List.nil_append]
        repeat' (first | refine WP_seq ?_ | refine WP_block ?_ | (refine WP_R 64 (by decide) fun KQ hKQ => ?_) | (refine WP_D 64 (by decide) ?_ fun KQ hKQ => ?_; (focus kernel_rfl)) | ((first | (refine opsW_op rfl rfl rfl ?_ rfl ?_; (first | exact trivial | omega | (dsimp only; omega) | (dsimp only; exact ⟨by omega, by omega, by omega⟩) | (simp only [Mid.len, Blk.cells, List.length_map, List.length_set, List.length_replicate, List.length_append, Nat.mul_one, Nat.zero_add, reduceCtorEq, List.length_cons, List.length_nil, List.length_take, List.length_drop, true_and, and_true, false_implies, implies_true]; first | done | omega) | (simp; done) | (simp; omega) | grind)) | (refine opsW_callP (qs := ?_) (rd := ?_) (u := ?_) (c1) rfl rfl rfl ?_ ?_ ?_ ?_ ?_; rotate_right 6; (focus rfl); (focus (first | rfl | (simp only [nrm1, nrm, List.map, List.drop_zero, Nat.mul_one, takeI, dropI, List.take_length]; done) | (simp only [nrm1, nrm, List.map, List.drop_zero, Nat.mul_one, takeI, dropI, List.take_length]; rfl))); rotate_left 1; (focus rfl); (focus rfl); rotate_right 0) | (refine opsW_callP (qs := ?_) (rd := ?_) (u := ?_) (c2) rfl rfl rfl ?_ ?_ ?_ ?_ ?_; rotate_right 6; (focus rfl); (focus (first | rfl | (simp only [nrm1, nrm, List.map, List.drop_zero, Nat.mul_one, takeI, dropI, List.take_length]; done) | (simp only [nrm1, nrm, List.map, List.drop_zero, Nat.mul_one, takeI, dropI, List.take_length]; rfl))); rotate_left 1; (focus rfl); (focus rfl); rotate_right 0)); (try simp only [Mid.get, Mid.set, mx_fold, PV.flat, flats, nrm1, nrm, Bool.true_and, Bool.and_true, Bool.and_self, ev, List.replicate, Option.map_some, Option.bind_some, Nat.reduceBEq, beq_self_eq_true, setD, List.set, puts, put, del, cellsTo, cells1, allP, lay, putIn, joinB, sub, overB, rep, Blk.mk, AV.cells, List.map, List.drop, List.take, List.cons_append, List.nil_append, List.append_nil, List.getD_cons_succ, List.getD_cons_zero, if_true, if_false, Bool.false_eq_true, reduceIte, wrap_i64, getI, takeI, dropI, setI, repI, Nat.mul_one, Nat.one_mul, Nat.zero_add, Nat.add_zero, Nat.zero_mul, Int.toNat_natCast, Int.reduceNeg, Int.reduceToNat, Nat.reduceAdd, Nat.reduceMul, Nat.reduceSub, decide_true, decide_false, Bool.not_true, Bool.not_false, cond_true, cond_false, gt_iff_lt, ge_iff_le, Int.reduceLT, Int.reduceLE, Int.lt_irrefl, Int.le_refl, List.length_set, List.length_map, *])) | (refine opsW_skip rfl ?_; simp only [setD, List.set]) | (refine opsW_nil ⟨?_, hKQ _ _ _ ?_⟩; (focus kernel_rfl); clear hKQ KQ; try simp only [seqK, blockK, loopG, List.length_cons, List.length_nil, Nat.reduceAdd, Nat.reduceMul]) | (refine opsW_nil (hKQ _ _ _ ?_); clear hKQ KQ; try simp only [seqK, blockK, loopG, List.length_cons, List.length_nil, Nat.reduceAdd, Nat.reduceMul]) | (refine WP_cond (t := true) rfl ?_; simp only [if_true]) | (refine WP_cond (t := false) rfl ?_; simp only [if_false, Bool.false_eq_true]) | (refine WP_skip ?_; simp only [seqK, blockK, loopG]) | (refine WP_ret ?_; simp only [seqK, blockK, loopG, Fin]) | (refine WP_exit ?_; simp only [seqK, blockK, loopG, reduceIte, Nat.reduceEqDiff]))
        (refine Res_of rfl ?_ ?_; (focus (first | (refine ⟨⟨?_, ?_⟩, trivial⟩ <;> first | exact Nat.le_of_ble_eq_true rfl | (refine Nat.le_of_ble_eq_true ?_; kernel_rfl) | (intro hh; cases hh)) | (refine ⟨⟨?_, ?_⟩, trivial, trivial⟩ <;> first | (refine Nat.le_of_ble_eq_true ?_; kernel_rfl) | (intro hh; cases hh)) | (refine ⟨⟨?_, ?_⟩, trivial⟩ <;> decide) | (refine ⟨⟨?_, ?_⟩, ⟨trivial, trivial⟩⟩ <;> decide) | decide | (simp [Blk.cells]; done))); exact ⟨_, rfl⟩)
      · have k1 := absI_ok hp
        have k2 := absI_ok hq
        rw [show makeS p q = (redS (!(decide (p < 0) == decide (q < 0))) (dg (absI p)) (dg (absI q)), 0) by unfold makeS; rw [if_pos ⟨hp, hq⟩, if_neg h0]]
        have c3 := rat_natural.c p hp
        have c4 := rat_natural.c q hq
        have c5 := rat_reduced.c (!(decide (p < 0) == decide (q < 0))) (dg (absI p)) (dg (absI q)) k1.1 k2.1 (k2.2 h0)
        clear k1 k2
        generalize hz : redS _ (dg (absI p)) (dg (absI q)) = z at *
        clear hz
        generalize dg (absI p) = P at *
        generalize dg (absI q) = Q at *
        by_cases s1 : p < 0 <;> by_cases s2 : q < 0
        all_goals
          simp only [s1, s2, decide_true, decide_false] at c5
          refine Sound.of_WP tok Try.func50 rfl rfl ?_; simp only [Try.f50, args0, List.map, List.length_cons, List.length_nil, Nat.reduceAdd, Nat.reduceSub, List.replicate, List.cons_append, List.nil_append]
          repeat' (first | refine WP_seq ?_ | refine WP_block ?_ | (refine WP_R 64 (by decide) fun KQ hKQ => ?_) | (refine WP_D 64 (by decide) ?_ fun KQ hKQ => ?_; (focus kernel_rfl)) | ((first | (refine opsW_op rfl rfl rfl ?_ rfl ?_; (first | exact trivial | omega | (dsimp only; omega) | (dsimp only; exact ⟨by omega, by omega, by omega⟩) | (simp only [Mid.len, Blk.cells, List.length_map, List.length_set, List.length_replicate, List.length_append, Nat.mul_one, Nat.zero_add, reduceCtorEq, List.length_cons, List.length_nil, List.length_take, List.length_drop, true_and, and_true, false_implies, implies_true]; first | done | omega) | (simp; done) | (simp; omega) | grind)) | (refine opsW_callP (qs := ?_) (rd := ?_) (u := ?_) (c1) rfl rfl rfl ?_ ?_ ?_ ?_ ?_; rotate_right 6; (focus rfl); (focus (first | rfl | (simp only [nrm1, nrm, List.map, List.drop_zero, Nat.mul_one, takeI, dropI, List.take_length]; done) | (simp only [nrm1, nrm, List.map, List.drop_zero, Nat.mul_one, takeI, dropI, List.take_length]; rfl))); rotate_left 1; (focus rfl); (focus rfl); rotate_right 0) | (refine opsW_callP (qs := ?_) (rd := ?_) (u := ?_) (c2) rfl rfl rfl ?_ ?_ ?_ ?_ ?_; rotate_right 6; (focus rfl); (focus (first | rfl | (simp only [nrm1, nrm, List.map, List.drop_zero, Nat.mul_one, takeI, dropI, List.take_length]; done) | (simp only [nrm1, nrm, List.map, List.drop_zero, Nat.mul_one, takeI, dropI, List.take_length]; rfl))); rotate_left 1; (focus rfl); (focus rfl); rotate_right 0) | (refine opsW_callP (qs := ?_) (rd := ?_) (u := ?_) (c3) rfl rfl rfl ?_ ?_ ?_ ?_ ?_; rotate_right 6; (focus rfl); (focus (first | rfl | (simp only [nrm1, nrm, List.map, List.drop_zero, Nat.mul_one, takeI, dropI, List.take_length]; done) | (simp only [nrm1, nrm, List.map, List.drop_zero, Nat.mul_one, takeI, dropI, List.take_length]; rfl))); rotate_left 1; (focus rfl); (focus rfl); rotate_right 0) | (refine opsW_callP (qs := ?_) (rd := ?_) (u := ?_) (c4) rfl rfl rfl ?_ ?_ ?_ ?_ ?_; rotate_right 6; (focus rfl); (focus (first | rfl | (simp only [nrm1, nrm, List.map, List.drop_zero, Nat.mul_one, takeI, dropI, List.take_length]; done) | (simp only [nrm1, nrm, List.map, List.drop_zero, Nat.mul_one, takeI, dropI, List.take_length]; rfl))); rotate_left 1; (focus rfl); (focus rfl); rotate_right 0) | (refine opsW_callP (qs := ?_) (rd := ?_) (u := ?_) (c5) rfl rfl rfl ?_ ?_ ?_ ?_ ?_; rotate_right 6; (focus rfl); (focus (first | rfl | (simp only [nrm1, nrm, List.map, List.drop_zero, Nat.mul_one, takeI, dropI, List.take_length]; done) | (simp only [nrm1, nrm, List.map, List.drop_zero, Nat.mul_one, takeI, dropI, List.take_length]; rfl))); rotate_left 1; (focus rfl); (focus rfl); rotate_right 0)); (try simp only [Mid.get, Mid.set, mx_fold, PV.flat, flats, nrm1, nrm, Bool.true_and, Bool.and_true, Bool.and_self, ev, List.replicate, Option.map_some, Option.bind_some, Nat.reduceBEq, beq_self_eq_true, setD, List.set, puts, put, del, cellsTo, cells1, allP, lay, putIn, joinB, sub, overB, rep, Blk.mk, AV.cells, List.map, List.drop, List.take, List.cons_append, List.nil_append, List.append_nil, List.getD_cons_succ, List.getD_cons_zero, if_true, if_false, Bool.false_eq_true, reduceIte, wrap_i64, getI, takeI, dropI, setI, repI, Nat.mul_one, Nat.one_mul, Nat.zero_add, Nat.add_zero, Nat.zero_mul, Int.toNat_natCast, Int.reduceNeg, Int.reduceToNat, Nat.reduceAdd, Nat.reduceMul, Nat.reduceSub, decide_true, decide_false, Bool.not_true, Bool.not_false, cond_true, cond_false, gt_iff_lt, ge_iff_le, Int.reduceLT, Int.reduceLE, Int.lt_irrefl, Int.le_refl, List.length_set, List.length_map, *])) | (refine opsW_skip rfl ?_; simp only [setD, List.set]) | (refine opsW_nil ⟨?_, hKQ _ _ _ ?_⟩; (focus kernel_rfl); clear hKQ KQ; try simp only [seqK, blockK, loopG, List.length_cons, List.length_nil, Nat.reduceAdd, Nat.reduceMul]) | (refine opsW_nil (hKQ _ _ _ ?_); clear hKQ KQ; try simp only [seqK, blockK, loopG, List.length_cons, List.length_nil, Nat.reduceAdd, Nat.reduceMul]) | (refine WP_cond (t := true) rfl ?_; simp only [if_true]) | (refine WP_cond (t := false) rfl ?_; simp only [if_false, Bool.false_eq_true]) | (refine WP_skip ?_; simp only [seqK, blockK, loopG]) | (refine WP_ret ?_; simp only [seqK, blockK, loopG, Fin]) | (refine WP_exit ?_; simp only [seqK, blockK, loopG, reduceIte, Nat.reduceEqDiff]))
          (refine Res_of rfl ?_ ?_; (focus (first | (refine ⟨⟨?_, ?_⟩, trivial⟩ <;> first | exact Nat.le_of_ble_eq_true rfl | (refine Nat.le_of_ble_eq_true ?_; kernel_rfl) | (intro hh; cases hh)) | (refine ⟨⟨?_, ?_⟩, trivial, trivial⟩ <;> first | (refine Nat.le_of_ble_eq_true ?_; kernel_rfl) | (intro hh; cases hh)) | (refine ⟨⟨?_, ?_⟩, trivial⟩ <;> decide) | (refine ⟨⟨?_, ?_⟩, ⟨trivial, trivial⟩⟩ <;> decide) | decide | (simp [Blk.cells]; done))); exact ⟨_, rfl⟩)
    · replace hq : inR q = false := by simpa using hq
      rw [hp] at c1; rw [hq] at c2
      rw [show makeS p q = (zR, 1) by unfold makeS; rw [if_neg (by simp [hq])]]
      refine Sound.of_WP tok Try.func50 rfl rfl ?_; simp only [Try.f50, args0, List.map, List.length_cons, List.length_nil, Nat.reduceAdd, Nat.reduceSub, List.replicate, List.cons_append, List.nil_append]
      repeat' (first | refine WP_seq ?_ | refine WP_block ?_ | (refine WP_R 64 (by decide) fun KQ hKQ => ?_) | (refine WP_D 64 (by decide) ?_ fun KQ hKQ => ?_; (focus kernel_rfl)) | ((first | (refine opsW_op rfl rfl rfl ?_ rfl ?_; (first | exact trivial | omega | (dsimp only; omega) | (dsimp only; exact ⟨by omega, by omega, by omega⟩) | (simp only [Mid.len, Blk.cells, List.length_map, List.length_set, List.length_replicate, List.length_append, Nat.mul_one, Nat.zero_add, reduceCtorEq, List.length_cons, List.length_nil, List.length_take, List.length_drop, true_and, and_true, false_implies, implies_true]; first | done | omega) | (simp; done) | (simp; omega) | grind)) | (refine opsW_callP (qs := ?_) (rd := ?_) (u := ?_) (c1) rfl rfl rfl ?_ ?_ ?_ ?_ ?_; rotate_right 6; (focus rfl); (focus (first | rfl | (simp only [nrm1, nrm, List.map, List.drop_zero, Nat.mul_one, takeI, dropI, List.take_length]; done) | (simp only [nrm1, nrm, List.map, List.drop_zero, Nat.mul_one, takeI, dropI, List.take_length]; rfl))); rotate_left 1; (focus rfl); (focus rfl); rotate_right 0) | (refine opsW_callP (qs := ?_) (rd := ?_) (u := ?_) (c2) rfl rfl rfl ?_ ?_ ?_ ?_ ?_; rotate_right 6; (focus rfl); (focus (first | rfl | (simp only [nrm1, nrm, List.map, List.drop_zero, Nat.mul_one, takeI, dropI, List.take_length]; done) | (simp only [nrm1, nrm, List.map, List.drop_zero, Nat.mul_one, takeI, dropI, List.take_length]; rfl))); rotate_left 1; (focus rfl); (focus rfl); rotate_right 0)); (try simp only [Mid.get, Mid.set, mx_fold, PV.flat, flats, nrm1, nrm, Bool.true_and, Bool.and_true, Bool.and_self, ev, List.replicate, Option.map_some, Option.bind_some, Nat.reduceBEq, beq_self_eq_true, setD, List.set, puts, put, del, cellsTo, cells1, allP, lay, putIn, joinB, sub, overB, rep, Blk.mk, AV.cells, List.map, List.drop, List.take, List.cons_append, List.nil_append, List.append_nil, List.getD_cons_succ, List.getD_cons_zero, if_true, if_false, Bool.false_eq_true, reduceIte, wrap_i64, getI, takeI, dropI, setI, repI, Nat.mul_one, Nat.one_mul, Nat.zero_add, Nat.add_zero, Nat.zero_mul, Int.toNat_natCast, Int.reduceNeg, Int.reduceToNat, Nat.reduceAdd, Nat.reduceMul, Nat.reduceSub, decide_true, decide_false, Bool.not_true, Bool.not_false, cond_true, cond_false, gt_iff_lt, ge_iff_le, Int.reduceLT, Int.reduceLE, Int.lt_irrefl, Int.le_refl, List.length_set, List.length_map, *])) | (refine opsW_skip rfl ?_; simp only [setD, List.set]) | (refine opsW_nil ⟨?_, hKQ _ _ _ ?_⟩; (focus kernel_rfl); clear hKQ KQ; try simp only [seqK, blockK, loopG, List.length_cons, List.length_nil, Nat.reduceAdd, Nat.reduceMul]) | (refine opsW_nil (hKQ _ _ _ ?_); clear hKQ KQ; try simp only [seqK, blockK, loopG, List.length_cons, List.length_nil, Nat.reduceAdd, Nat.reduceMul]) | (refine WP_cond (t := true) rfl ?_; simp only [if_true]) | (refine WP_cond (t := false) rfl ?_; simp only [if_false, Bool.false_eq_true]) | (refine WP_skip ?_; simp only [seqK, blockK, loopG]) | (refine WP_ret ?_; simp only [seqK, blockK, loopG, Fin]) | (refine WP_exit ?_; simp only [seqK, blockK, loopG, reduceIte, Nat.reduceEqDiff]))
      (refine Res_of rfl ?_ ?_; (focus (first | (refine ⟨⟨?_, ?_⟩, trivial⟩ <;> first | exact Nat.le_of_ble_eq_true rfl | (refine Nat.le_of_ble_eq_true ?_; kernel_rfl) | (intro hh; cases hh)) | (refine ⟨⟨?_, ?_⟩, trivial, trivial⟩ <;> first | (refine Nat.le_of_ble_eq_true ?_; kernel_rfl) | (intro hh; cases hh)) | (refine ⟨⟨?_, ?_⟩, trivial⟩ <;> decide) | (refine ⟨⟨?_, ?_⟩, ⟨trivial, trivial⟩⟩ <;> decide) | decide | (simp [Blk.cells]; done))); exact ⟨_, rfl⟩)
  · replace hp : inR p = false := by simpa using hp
    rw [hp] at c1
    rw [show makeS p q = (zR, 1) by unfold makeS; rw [if_neg (by simp [hp])]]
    refine Sound.of_WP tok Try.func50 rfl rfl ?_; simp only [Try.f50, args0, List.map, List.length_cons, List.length_nil, Nat.reduceAdd, Nat.reduceSub, List.replicate, List.cons_append, List.nil_append]
    repeat' (first | refine WP_seq ?_ | refine WP_block ?_ | (refine WP_R 64 (by decide) fun KQ hKQ => ?_) | (refine WP_D 64 (by decide) ?_ fun KQ hKQ => ?_; (focus kernel_rfl)) | ((first | (refine opsW_op rfl rfl rfl ?_ rfl ?_; (first | exact trivial | omega | (dsimp only; omega) | (dsimp only; exact ⟨by omega, by omega, by omega⟩) | (simp only [Mid.len, Blk.cells, List.length_map, List.length_set, List.length_replicate, List.length_append, Nat.mul_one, Nat.zero_add, reduceCtorEq, List.length_cons, List.length_nil, List.length_take, List.length_drop, true_and, and_true, false_implies, implies_true]; first | done | omega) | (simp; done) | (simp; omega) | grind)) | (refine opsW_callP (qs := ?_) (rd := ?_) (u := ?_) (c1) rfl rfl rfl ?_ ?_ ?_ ?_ ?_; rotate_right 6; (focus rfl); (focus (first | rfl | (simp only [nrm1, nrm, List.map, List.drop_zero, Nat.mul_one, takeI, dropI, List.take_length]; done) | (simp only [nrm1, nrm, List.map, List.drop_zero, Nat.mul_one, takeI, dropI, List.take_length]; rfl))); rotate_left 1; (focus rfl); (focus rfl); rotate_right 0)); (try simp only [Mid.get, Mid.set, mx_fold, PV.flat, flats, nrm1, nrm, Bool.true_and, Bool.and_true, Bool.and_self, ev, List.replicate, Option.map_some, Option.bind_some, Nat.reduceBEq, beq_self_eq_true, setD, List.set, puts, put, del, cellsTo, cells1, allP, lay, putIn, joinB, sub, overB, rep, Blk.mk, AV.cells, List.map, List.drop, List.take, List.cons_append, List.nil_append, List.append_nil, List.getD_cons_succ, List.getD_cons_zero, if_true, if_false, Bool.false_eq_true, reduceIte, wrap_i64, getI, takeI, dropI, setI, repI, Nat.mul_one, Nat.one_mul, Nat.zero_add, Nat.add_zero, Nat.zero_mul, Int.toNat_natCast, Int.reduceNeg, Int.reduceToNat, Nat.reduceAdd, Nat.reduceMul, Nat.reduceSub, decide_true, decide_false, Bool.not_true, Bool.not_false, cond_true, cond_false, gt_iff_lt, ge_iff_le, Int.reduceLT, Int.reduceLE, Int.lt_irrefl, Int.le_refl, List.length_set, List.length_map, *])) | (refine opsW_skip rfl ?_; simp only [setD, List.set]) | (refine opsW_nil ⟨?_, hKQ _ _ _ ?_⟩; (focus kernel_rfl); clear hKQ KQ; try simp only [seqK, blockK, loopG, List.length_cons, List.length_nil, Nat.reduceAdd, Nat.reduceMul]) | (refine opsW_nil (hKQ _ _ _ ?_); clear hKQ KQ; try simp only [seqK, blockK, loopG, List.length_cons, List.length_nil, Nat.reduceAdd, Nat.reduceMul]) | (refine WP_cond (t := true) rfl ?_; simp only [if_true]) | (refine WP_cond (t := false) rfl ?_; simp only [if_false, Bool.false_eq_true]) | (refine WP_skip ?_; simp only [seqK, blockK, loopG]) | (refine WP_ret ?_; simp only [seqK, blockK, loopG, Fin]) | (refine WP_exit ?_; simp only [seqK, blockK, loopG, reduceIte, Nat.reduceEqDiff]))
    (refine Res_of rfl ?_ ?_; (focus (first | (refine ⟨⟨?_, ?_⟩, trivial⟩ <;> first | exact Nat.le_of_ble_eq_true rfl | (refine Nat.le_of_ble_eq_true ?_; kernel_rfl) | (intro hh; cases hh)) | (refine ⟨⟨?_, ?_⟩, trivial, trivial⟩ <;> first | (refine Nat.le_of_ble_eq_true ?_; kernel_rfl) | (intro hh; cases hh)) | (refine ⟨⟨?_, ?_⟩, trivial⟩ <;> decide) | (refine ⟨⟨?_, ?_⟩, ⟨trivial, trivial⟩⟩ <;> decide) | decide | (simp [Blk.cells]; done))); exact ⟨_, rfl⟩)
theorem rat_Of.c (n : Int) : Sound Try.prog 32 [I n] (.tup [R (makeS n 1).1, I (makeS n 1).2]) :=
  runL tok mixed [50] 100 2 (Good.cons (rat_Make.c n 1) Good.nil) (by kernel_rfl)
theorem rat_minus.c (x : Rt) (h : x.p.length ≤ 48) (h' : x.q.length ≤ 48) : Sound Try.prog 73 [R x] (R (negR x)) := by
  obtain ⟨n, p, q⟩ := x
  dsimp only at h h'
  unfold negR
  dsimp only
  have e1 : p.length * 8 ≤ 140737488355328 := by omega
  have e2 : q.length * 8 ≤ 140737488355328 := by omega
  by_cases hp : 0 < p.length
  · have hp' : (0 : Int) < p.length := by omega
    simp only [hp, decide_true, Bool.and_true]
    cases n
    all_goals
      refine Sound.of_WP tok Try.func73 rfl rfl ?_; simp only [Try.f73, args0, List.map, List.length_cons, List.length_nil, Nat.reduceAdd, Nat.reduceSub, List.replicate, List.cons_append, List.nil_append]
      repeat' (first | refine WP_seq ?_ | refine WP_block ?_ | (refine WP_R 64 (by decide) fun KQ hKQ => ?_) | (refine WP_D 64 (by decide) ?_ fun KQ hKQ => ?_; (focus kernel_rfl)) | ((first | (refine opsW_op rfl rfl rfl ?_ rfl ?_; (first | exact trivial | omega | (dsimp only; omega) | (dsimp only; exact ⟨by omega, by omega, by omega⟩) | (simp only [Mid.len, Blk.cells, List.length_map, List.length_set, List.length_replicate, List.length_append, Nat.mul_one, Nat.zero_add, reduceCtorEq, List.length_cons, List.length_nil, List.length_take, List.length_drop, true_and, and_true, false_implies, implies_true]; first | done | omega) | (simp; done) | (simp; omega) | grind))); (try simp only [Mid.get, Mid.set, mx_fold, PV.flat, flats, nrm1, nrm, Bool.true_and, Bool.and_true, Bool.and_self, ev, List.replicate, Option.map_some, Option.bind_some, Nat.reduceBEq, beq_self_eq_true, setD, List.set, puts, put, del, cellsTo, cells1, allP, lay, putIn, joinB, sub, overB, rep, Blk.mk, AV.cells, List.map, List.drop, List.take, List.cons_append, List.nil_append, List.append_nil, List.getD_cons_succ, List.getD_cons_zero, if_true, if_false, Bool.false_eq_true, reduceIte, wrap_i64, getI, takeI, dropI, setI, repI, Nat.mul_one, Nat.one_mul, Nat.zero_add, Nat.add_zero, Nat.zero_mul, Int.toNat_natCast, Int.reduceNeg, Int.reduceToNat, Nat.reduceAdd, Nat.reduceMul, Nat.reduceSub, decide_true, decide_false, Bool.not_true, Bool.not_false, cond_true, cond_false, gt_iff_lt, ge_iff_le, Int.reduceLT, Int.reduceLE, Int.lt_irrefl, Int.le_refl, List.length_set, List.length_map, *])) | (refine opsW_skip rfl ?_; simp only [setD, List.set]) | (refine opsW_nil ⟨?_, hKQ _ _ _ ?_⟩; (focus kernel_rfl); clear hKQ KQ; try simp only [seqK, blockK, loopG, List.length_cons, List.length_nil, Nat.reduceAdd, Nat.reduceMul]) | (refine opsW_nil (hKQ _ _ _ ?_); clear hKQ KQ; try simp only [seqK, blockK, loopG, List.length_cons, List.length_nil, Nat.reduceAdd, Nat.reduceMul]) | (refine WP_cond (t := true) rfl ?_; simp only [if_true]) | (refine WP_cond (t := false) rfl ?_; simp only [if_false, Bool.false_eq_true]) | (refine WP_skip ?_; simp only [seqK, blockK, loopG]) | (refine WP_ret ?_; simp only [seqK, blockK, loopG, Fin]) | (refine WP_exit ?_; simp only [seqK, blockK, loopG, reduceIte, Nat.reduceEqDiff]))
      refine Res_of rfl ?_ ?_
      · refine ⟨⟨?_, ?_⟩, trivial⟩ <;> first | exact Nat.le_of_ble_eq_true rfl | (intro hh; cases hh)
      · simp [pack, cellsTo, cells1, allP, putIn, lay, Blk.mk, AV.cells, Pw.frz, Pw.frzs, get, nrm1, nrm, List.take_of_length_le, Option.bind, Option.map]
  · have hp' : ¬ (0 : Int) < p.length := by omega
    simp only [hp, decide_false, Bool.and_false]
    cases n
    all_goals
      refine Sound.of_WP tok Try.func73 rfl rfl ?_; simp only [Try.f73, args0, List.map, List.length_cons, List.length_nil, Nat.reduceAdd, Nat.reduceSub, List.replicate, List.cons_append, List.nil_append]
      repeat' (first | refine WP_seq ?_ | refine WP_block ?_ | (refine WP_R 64 (by decide) fun KQ hKQ => ?_) | (refine WP_D 64 (by decide) ?_ fun KQ hKQ => ?_; (focus kernel_rfl)) | ((first | (refine opsW_op rfl rfl rfl ?_ rfl ?_; (first | exact trivial | omega | (dsimp only; omega) | (dsimp only; exact ⟨by omega, by omega, by omega⟩) | (simp only [Mid.len, Blk.cells, List.length_map, List.length_set, List.length_replicate, List.length_append, Nat.mul_one, Nat.zero_add, reduceCtorEq, List.length_cons, List.length_nil, List.length_take, List.length_drop, true_and, and_true, false_implies, implies_true]; first | done | omega) | (simp; done) | (simp; omega) | grind))); (try simp only [Mid.get, Mid.set, mx_fold, PV.flat, flats, nrm1, nrm, Bool.true_and, Bool.and_true, Bool.and_self, ev, List.replicate, Option.map_some, Option.bind_some, Nat.reduceBEq, beq_self_eq_true, setD, List.set, puts, put, del, cellsTo, cells1, allP, lay, putIn, joinB, sub, overB, rep, Blk.mk, AV.cells, List.map, List.drop, List.take, List.cons_append, List.nil_append, List.append_nil, List.getD_cons_succ, List.getD_cons_zero, if_true, if_false, Bool.false_eq_true, reduceIte, wrap_i64, getI, takeI, dropI, setI, repI, Nat.mul_one, Nat.one_mul, Nat.zero_add, Nat.add_zero, Nat.zero_mul, Int.toNat_natCast, Int.reduceNeg, Int.reduceToNat, Nat.reduceAdd, Nat.reduceMul, Nat.reduceSub, decide_true, decide_false, Bool.not_true, Bool.not_false, cond_true, cond_false, gt_iff_lt, ge_iff_le, Int.reduceLT, Int.reduceLE, Int.lt_irrefl, Int.le_refl, List.length_set, List.length_map, *])) | (refine opsW_skip rfl ?_; simp only [setD, List.set]) | (refine opsW_nil ⟨?_, hKQ _ _ _ ?_⟩; (focus kernel_rfl); clear hKQ KQ; try simp only [seqK, blockK, loopG, List.length_cons, List.length_nil, Nat.reduceAdd, Nat.reduceMul]) | (refine opsW_nil (hKQ _ _ _ ?_); clear hKQ KQ; try simp only [seqK, blockK, loopG, List.length_cons, List.length_nil, Nat.reduceAdd, Nat.reduceMul]) | (refine WP_cond (t := true) rfl ?_; simp only [if_true]) | (refine WP_cond (t := false) rfl ?_; simp only [if_false, Bool.false_eq_true]) | (refine WP_skip ?_; simp only [seqK, blockK, loopG]) | (refine WP_ret ?_; simp only [seqK, blockK, loopG, Fin]) | (refine WP_exit ?_; simp only [seqK, blockK, loopG, reduceIte, Nat.reduceEqDiff]))
      refine Res_of rfl ?_ ?_
      · refine ⟨⟨?_, ?_⟩, trivial⟩ <;> first | exact Nat.le_of_ble_eq_true rfl | (intro hh; cases hh)
      · simp [pack, cellsTo, cells1, allP, putIn, lay, Blk.mk, AV.cells, Pw.frz, Pw.frzs, get, nrm1, nrm, List.take_of_length_le, Option.bind, Option.map]
theorem rv_len {x : Rt} (h : rvB x = true) : x.p.length ≤ 48 ∧ x.q.length ≤ 48 := by
  obtain ⟨h1, h2, _⟩ := rvB_iff.1 h
  exact ⟨(okN_iff.1 h1).1, (okN_iff.1 h2).1⟩
theorem q_pos {x : Rt} (h : rvB x = true) : 0 < val x.q := by
  obtain ⟨h1, h2, h3, _⟩ := rvB_iff.1 h
  exact val_pos (okN_iff.1 h2).2 h3
theorem p_nn {x : Rt} (h : rvB x = true) : 0 ≤ val x.p := (okN_iff.1 (rvB_iff.1 h).1).nonneg
theorem mulS_cases {a b : List Int} (ha : okN a = true) (hb : okN b = true) : (∃ m, mulS a b = (m, 0) ∧ okN m = true ∧ val m = val a * val b) ∨ mulS a b = ([], 2) := by
  rw [mulS_ok ha hb]
  rcases fitS_cases (val a * val b) with h | h
  · have := fit_facts (Int.mul_nonneg (okN_iff.1 ha).nonneg (okN_iff.1 hb).nonneg) h
    exact .inl ⟨_, h, this.1, this.2.1⟩
  · exact .inr h
theorem rat_Mul.c (x y : Rt) : Sound Try.prog 49 [R x, R y] (.tup [R (mulR x y).1, I (mulR x y).2]) := by
  have c1 := rat_Valid.c x
  have c2 := rat_Valid.c y
  by_cases hx : rvB x = true
  · rw [hx] at c1
    by_cases hy : rvB y = true
    · rw [hy] at c2
      have c3 := nat_Mul.c x.p y.p
      have c4 := nat_Mul.c x.q y.q
      obtain ⟨x1, x2, x3, _⟩ := rvB_iff.1 hx
      obtain ⟨y1, y2, y3, _⟩ := rvB_iff.1 hy
      rcases mulS_cases x1 y1 with ⟨m, e1, m1, m2⟩ | e1
      · rcases mulS_cases x2 y2 with ⟨k, e2, k1, k2⟩ | e2
        · have c5 := rat_reduced.c (!(x.neg == y.neg)) m k m1 k1 (fun e => by
            subst e
            have := Int.mul_pos (q_pos hx) (q_pos hy)
            rw [← k2] at this; simp [val] at this)
          rw [show mulR x y = (redS (!(x.neg == y.neg)) m k, 0) by unfold mulR; rw [if_pos ⟨hx, hy⟩, e1, e2]; rfl]
          rw [e1] at c3; rw [e2] at c4
          clear e1 e2
          generalize redS (!(x.neg == y.neg)) m k = z at *
          clear hx hy x1 x2 x3 y1 y2 y3
          obtain ⟨xn, xp, xq⟩ := x
          obtain ⟨yn, yp, yq⟩ := y
          exact runL tok mixed [51, 79, 64] 200 6 (Good.cons c1 (Good.cons c2 (Good.cons c3 (Good.cons c4 (Good.cons c5 Good.nil))))) (by kernel_rfl)
        · rw [show mulR x y = (zR, 2) by unfold mulR; rw [if_pos ⟨hx, hy⟩, e1, e2]; rfl]
          rw [e1] at c3; rw [e2] at c4
          clear e1 e2
          clear hx hy x1 x2 x3 y1 y2 y3
          obtain ⟨xn, xp, xq⟩ := x
          obtain ⟨yn, yp, yq⟩ := y
          exact runL tok mixed [51, 79, 64] 200 6 (Good.cons c1 (Good.cons c2 (Good.cons c3 (Good.cons c4 Good.nil)))) (by kernel_rfl)
      · rw [show mulR x y = (zR, 2) by unfold mulR; rw [if_pos ⟨hx, hy⟩, e1]; rfl]
        rw [e1] at c3
        clear e1
        clear hx hy x1 x2 x3 y1 y2 y3
        obtain ⟨xn, xp, xq⟩ := x
        obtain ⟨yn, yp, yq⟩ := y
        exact runL tok mixed [51, 79, 64] 200 6 (Good.cons c1 (Good.cons c2 (Good.cons c3 Good.nil))) (by kernel_rfl)
    · rw [show mulR x y = (zR, 3) by unfold mulR; rw [if_neg (fun h => hy h.2)]]
      replace hy : rvB y = false := by simpa using hy
      rw [hy] at c2
      clear hx hy
      obtain ⟨xn, xp, xq⟩ := x
      obtain ⟨yn, yp, yq⟩ := y
      exact runL tok mixed [51, 79, 64] 200 6 (Good.cons c1 (Good.cons c2 Good.nil)) (by kernel_rfl)
  · rw [show mulR x y = (zR, 3) by unfold mulR; rw [if_neg (fun h => hx h.1)]]
    replace hx : rvB x = false := by simpa using hx
    rw [hx] at c1
    clear hx
    obtain ⟨xn, xp, xq⟩ := x
    obtain ⟨yn, yp, yq⟩ := y
    exact runL tok mixed [51, 79, 64] 200 6 (Good.cons c1 Good.nil) (by kernel_rfl)
end Go.Proofs.Ytbjamhkhocjdkaa.Pw
namespace Go.Proofs.Ytbjamhkhocjdkaa.Pw
open Go Wd Px Mat
set_option linter.unusedVariables false
set_option linter.unusedSimpArgs false
set_option maxRecDepth 100000
set_option maxHeartbeats 8000000
theorem rat_Add.c (x y : Rt) : Sound Try.prog 52 [R x, R y] (.tup [R (addR x y).1, I (addR x y).2]) := by
  have c1 := rat_Valid.c x
  have c2 := rat_Valid.c y
  by_cases hx : rvB x = true
  rotate_left
  · rw [show addR x y = (zR, 3) by unfold addR; rw [if_neg (fun h => hx h.1)]]
    replace hx : rvB x = false := by simpa using hx
    rw [hx] at c1
    clear hx
    obtain ⟨xn, xp, xq⟩ := x
    obtain ⟨yn, yp, yq⟩ := y
    exact runL tok mixed [51, 79, 70, 72, 71, 64] 300 6 (Good.cons c1 Good.nil) (by kernel_rfl)
  by_cases hy : rvB y = true
  rotate_left
  · rw [show addR x y = (zR, 3) by unfold addR; rw [if_neg (fun h => hy h.2)]]
    replace hy : rvB y = false := by simpa using hy
    rw [hx] at c1; rw [hy] at c2
    clear hx hy
    obtain ⟨xn, xp, xq⟩ := x
    obtain ⟨yn, yp, yq⟩ := y
    exact runL tok mixed [51, 79, 70, 72, 71, 64] 300 6 (Good.cons c1 (Good.cons c2 Good.nil)) (by kernel_rfl)
  rw [hx] at c1; rw [hy] at c2
  have c3 := nat_Mul.c x.p y.q
  have c4 := nat_Mul.c y.p x.q
  have c5 := nat_Mul.c x.q y.q
  obtain ⟨x1, x2, x3, _⟩ := rvB_iff.1 hx
  obtain ⟨y1, y2, y3, _⟩ := rvB_iff.1 hy
  have hq := Int.mul_pos (q_pos hx) (q_pos hy)
  have hu : addR x y = if (mulS x.p y.q).2 = 0 ∧ (mulS y.p x.q).2 = 0 ∧ (mulS x.q y.q).2 = 0 ∧ (plusS x.neg (mulS x.p y.q).1 y.neg (mulS y.p x.q).1).2.2 = 0 then (redS (plusS x.neg (mulS x.p y.q).1 y.neg (mulS y.p x.q).1).1 (plusS x.neg (mulS x.p y.q).1 y.neg (mulS y.p x.q).1).2.1 (mulS x.q y.q).1, 0) else (zR, 2) := by
    unfold addR; rw [if_pos ⟨hx, hy⟩]
  rw [hu]
  clear hu
  rcases mulS_cases x1 y2 with ⟨m, e1, m1, m2⟩ | e1
  rotate_left
  · rw [e1] at c3 ⊢
    rw [if_neg (by simp)]
    clear hx hy x1 x2 x3 y1 y2 y3 e1
    obtain ⟨xn, xp, xq⟩ := x; obtain ⟨yn, yp, yq⟩ := y
    exact runL tok mixed [51, 79, 70, 72, 71, 64] 300 6 (Good.cons c1 (Good.cons c2 (Good.cons c3 Good.nil))) (by kernel_rfl)
  rw [e1] at c3 ⊢
  rcases mulS_cases y1 x2 with ⟨k, e2, k1, k2⟩ | e2
  rotate_left
  · rw [e2] at c4 ⊢
    rw [if_neg (by simp)]
    clear hx hy x1 x2 x3 y1 y2 y3 e1 e2
    obtain ⟨xn, xp, xq⟩ := x; obtain ⟨yn, yp, yq⟩ := y
    exact runL tok mixed [51, 79, 70, 72, 71, 64] 300 6 (Good.cons c1 (Good.cons c2 (Good.cons c3 (Good.cons c4 Good.nil)))) (by kernel_rfl)
  rw [e2] at c4 ⊢
  rcases mulS_cases x2 y2 with ⟨l, e3, l1, l2⟩ | e3
  rotate_left
  · rw [e3] at c5 ⊢
    rw [if_neg (by simp)]
    clear hx hy x1 x2 x3 y1 y2 y3 e1 e2 e3
    obtain ⟨xn, xp, xq⟩ := x; obtain ⟨yn, yp, yq⟩ := y
    exact runL tok mixed [51, 79, 70, 72, 71, 64] 300 6 (Good.cons c1 (Good.cons c2 (Good.cons c3 (Good.cons c4 (Good.cons c5 Good.nil))))) (by kernel_rfl)
  rw [e3] at c5 ⊢
  simp only [true_and]
  have hl : l ≠ [] := fun e => by
    subst e
    rw [← l2] at hq; simp [val] at hq
  have c6 := nat_Add.c m k
  have c7 := nat_Cmp.c m k
  rw [show ncmpS m k = (cmpS (val m) (val k), 0) by unfold ncmpS; rw [if_pos ⟨m1, k1⟩]] at c7
  have c8 := nat_Sub.c m k
  have c9 := nat_Sub.c k m
  have hmk : okN m = true ∧ okN k = true := ⟨m1, k1⟩
  have hkm : okN k = true ∧ okN m = true := ⟨k1, m1⟩
  obtain ⟨xn, xp, xq⟩ := x
  obtain ⟨yn, yp, yq⟩ := y
  dsimp only at *
  clear hx hy x1 x2 x3 y1 y2 y3 e1 e2 e3 m2 k2 l2 hq
  have pk := fun (a b : Bool) => plusS_ok (m := a) (n := b) m1 k1
  have same : ∀ b, plusS b m b k = (b, addS m k) := fun b => by unfold plusS; rw [if_pos rfl]
  have add : addS m k = Px.fitS (val m + val k) := by unfold addS; rw [if_pos hmk]
  have red := fun (b : Bool) (s : List Int) (hs : okN s = true) => rat_reduced.c b s l hs l1 hl
  cases xn <;> cases yn
  case false.false =>
    rw [same]
    have p1 := (pk false false).1
    rw [same] at p1
    rcases fitS_cases (val m + val k) with f | f <;> rw [← add] at f
    · rw [f] at c6 p1 ⊢
      have c10 := red false _ p1
      rw [if_pos rfl]
      exact runL tok mixed [51, 79, 70, 72, 71, 64] 300 6 (Good.cons c1 (Good.cons c2 (Good.cons c3 (Good.cons c4 (Good.cons c5 (Good.cons c6 (Good.cons c10 Good.nil))))))) (by kernel_rfl)
    · rw [f] at c6 ⊢
      rw [if_neg (by simp)]
      exact runL tok mixed [51, 79, 70, 72, 71, 64] 300 6 (Good.cons c1 (Good.cons c2 (Good.cons c3 (Good.cons c4 (Good.cons c5 (Good.cons c6 Good.nil)))))) (by kernel_rfl)
  case true.true =>
    rw [same]
    have p1 := (pk true true).1
    rw [same] at p1
    rcases fitS_cases (val m + val k) with f | f <;> rw [← add] at f
    · rw [f] at c6 p1 ⊢
      have c10 := red true _ p1
      rw [if_pos rfl]
      exact runL tok mixed [51, 79, 70, 72, 71, 64] 300 6 (Good.cons c1 (Good.cons c2 (Good.cons c3 (Good.cons c4 (Good.cons c5 (Good.cons c6 (Good.cons c10 Good.nil))))))) (by kernel_rfl)
    · rw [f] at c6 ⊢
      rw [if_neg (by simp)]
      exact runL tok mixed [51, 79, 70, 72, 71, 64] 300 6 (Good.cons c1 (Good.cons c2 (Good.cons c3 (Good.cons c4 (Good.cons c5 (Good.cons c6 Good.nil)))))) (by kernel_rfl)
  case false.true =>
    by_cases hlt : val m < val k
    · have hc : cmpS (val m) (val k) = -1 := by unfold cmpS; rw [if_pos hlt]
      have es : subS k m = (dg (val k - val m), 0) := by unfold subS; rw [if_pos hkm, if_neg (by omega)]
      have ep : plusS false m true k = (true, subS k m) := by unfold plusS; rw [if_neg (by decide), hc, if_pos (by decide)]
      have p1 := (pk false true).1
      rw [ep, es] at p1 ⊢
      rw [es] at c9
      rw [hc] at c7
      have c10 := red true _ p1
      rw [if_pos rfl]
      exact runL tok mixed [51, 79, 70, 72, 71, 64] 300 6 (Good.cons c1 (Good.cons c2 (Good.cons c3 (Good.cons c4 (Good.cons c5 (Good.cons c7 (Good.cons c9 (Good.cons c10 Good.nil)))))))) (by kernel_rfl)
    · have es : subS m k = (dg (val m - val k), 0) := by unfold subS; rw [if_pos hmk, if_neg hlt]
      have hc : cmpS (val m) (val k) = 0 ∨ cmpS (val m) (val k) = 1 := by unfold cmpS; rw [if_neg hlt]; split <;> simp
      have ep : plusS false m true k = (false, subS m k) := by unfold plusS; rw [if_neg (by decide), if_neg (by rcases hc with h | h <;> rw [h] <;> decide)]
      have p1 := (pk false true).1
      rw [ep, es] at p1 ⊢
      rw [es] at c8
      have c10 := red false _ p1
      rw [if_pos rfl]
      rcases hc with hc | hc <;> rw [hc] at c7
      all_goals exact runL tok mixed [51, 79, 70, 72, 71, 64] 300 6 (Good.cons c1 (Good.cons c2 (Good.cons c3 (Good.cons c4 (Good.cons c5 (Good.cons c7 (Good.cons c8 (Good.cons c10 Good.nil)))))))) (by kernel_rfl)
  case true.false =>
    by_cases hlt : val m < val k
    · have hc : cmpS (val m) (val k) = -1 := by unfold cmpS; rw [if_pos hlt]
      have es : subS k m = (dg (val k - val m), 0) := by unfold subS; rw [if_pos hkm, if_neg (by omega)]
      have ep : plusS true m false k = (false, subS k m) := by unfold plusS; rw [if_neg (by decide), hc, if_pos (by decide)]
      have p1 := (pk true false).1
      rw [ep, es] at p1 ⊢
      rw [es] at c9
      rw [hc] at c7
      have c10 := red false _ p1
      rw [if_pos rfl]
      exact runL tok mixed [51, 79, 70, 72, 71, 64] 300 6 (Good.cons c1 (Good.cons c2 (Good.cons c3 (Good.cons c4 (Good.cons c5 (Good.cons c7 (Good.cons c9 (Good.cons c10 Good.nil)))))))) (by kernel_rfl)
    · have es : subS m k = (dg (val m - val k), 0) := by unfold subS; rw [if_pos hmk, if_neg hlt]
      have hc : cmpS (val m) (val k) = 0 ∨ cmpS (val m) (val k) = 1 := by unfold cmpS; rw [if_neg hlt]; split <;> simp
      have ep : plusS true m false k = (true, subS m k) := by unfold plusS; rw [if_neg (by decide), if_neg (by rcases hc with h | h <;> rw [h] <;> decide)]
      have p1 := (pk true false).1
      rw [ep, es] at p1 ⊢
      rw [es] at c8
      have c10 := red true _ p1
      rw [if_pos rfl]
      rcases hc with hc | hc <;> rw [hc] at c7
      all_goals exact runL tok mixed [51, 79, 70, 72, 71, 64] 300 6 (Good.cons c1 (Good.cons c2 (Good.cons c3 (Good.cons c4 (Good.cons c5 (Good.cons c7 (Good.cons c8 (Good.cons c10 Good.nil)))))))) (by kernel_rfl)
theorem rat_Sub.c (x y : Rt) : Sound Try.prog 53 [R x, R y] (.tup [R (subR x y).1, I (subR x y).2]) := by
  have c1 := rat_Valid.c x
  have c2 := rat_Valid.c y
  by_cases hx : rvB x = true
  · rw [hx] at c1
    by_cases hy : rvB y = true
    · rw [hy] at c2
      have c3 := rat_minus.c y (rv_len hy).1 (rv_len hy).2
      have c4 := rat_Add.c x (negR y)
      rw [show subR x y = addR x (negR y) by unfold subR; rw [if_pos ⟨hx, hy⟩]]
      generalize addR x (negR y) = z at *
      generalize negR y = w at *
      clear hx hy
      obtain ⟨xn, xp, xq⟩ := x
      obtain ⟨yn, yp, yq⟩ := y
      exact runL tok mixed [51, 73, 52] 200 6 (Good.cons c1 (Good.cons c2 (Good.cons c3 (Good.cons c4 Good.nil)))) (by kernel_rfl)
    · rw [show subR x y = (zR, 3) by unfold subR; rw [if_neg (fun h => hy h.2)]]
      replace hy : rvB y = false := by simpa using hy
      rw [hy] at c2
      clear hx hy
      obtain ⟨xn, xp, xq⟩ := x
      obtain ⟨yn, yp, yq⟩ := y
      exact runL tok mixed [51, 73, 52] 200 6 (Good.cons c1 (Good.cons c2 Good.nil)) (by kernel_rfl)
  · rw [show subR x y = (zR, 3) by unfold subR; rw [if_neg (fun h => hx h.1)]]
    replace hx : rvB x = false := by simpa using hx
    rw [hx] at c1
    clear hx
    obtain ⟨xn, xp, xq⟩ := x
    obtain ⟨yn, yp, yq⟩ := y
    exact runL tok mixed [51, 73, 52] 200 6 (Good.cons c1 Good.nil) (by kernel_rfl)
end Go.Proofs.Ytbjamhkhocjdkaa.Pw
namespace Go.Proofs.Ytbjamhkhocjdkaa.Pw
open Go Wd Px Mat
set_option linter.unusedVariables false
set_option linter.unusedSimpArgs false
set_option maxRecDepth 100000
set_option maxHeartbeats 8000000
attribute [local irreducible] Int.tmod Int.tdiv
theorem r3_Valid.c (x : Rt) : Sound Try.prog 23 [R x] (B (rvB x)) := by
  obtain ⟨n, p, q⟩ := x
  have c1 := ref_Valid.c p
  have c2 := ref_Valid.c q
  by_cases hp : okN p = true
  rotate_left
  · replace hp : okN p = false := by simpa using hp
    rw [show rvB ⟨n, p, q⟩ = false by simp [rvB, hp]]
    rw [hp] at c1
    exact runL tok mixed [41, 42, 43] 300 6 (Good.cons c1 Good.nil) (by kernel_rfl)
  by_cases hq : okN q = true
  rotate_left
  · replace hq : okN q = false := by simpa using hq
    rw [show rvB ⟨n, p, q⟩ = false by simp [rvB, hq]]
    rw [hp] at c1; rw [hq] at c2
    exact runL tok mixed [41, 42, 43] 300 6 (Good.cons c1 (Good.cons c2 Good.nil)) (by kernel_rfl)
  rw [hp] at c1; rw [hq] at c2
  cases q with
  | nil =>
    rw [show rvB ⟨n, p, []⟩ = false by simp [rvB]]
    exact runL tok mixed [41, 42, 43] 300 6 (Good.cons c1 (Good.cons c2 Good.nil)) (by kernel_rfl)
  | cons d q =>
    have e : gcdS p (d :: q) = (dg (gcdI (val p) (val (d :: q))), 0) := by unfold gcdS; rw [if_pos ⟨hp, hq⟩]
    have c3 := ref_Gcd.c p (d :: q)
    rw [e] at c3
    have c4 := limbs.c (dg (gcdI (val p) (val (d :: q)))) [1]
    rw [show decide (dg (gcdI (val p) (val (d :: q))) = [1]) = decide (gcdI (val p) (val (d :: q)) = 1) from decide_eq_decide.2 (dg_one_iff (gcdI_nonneg _ _))] at c4
    have key : rvB ⟨n, p, d :: q⟩ = (!(n && decide (p.length = 0)) && decide (gcdI (val p) (val (d :: q)) = 1)) := by simp [rvB, hp, hq]
    rw [key]
    clear key e
    dsimp only at c3
    generalize decide (gcdI (val p) (val (d :: q)) = 1) = b at *
    generalize dg (gcdI (val p) (val (d :: q))) = G at *
    clear hp hq
    cases p <;> cases n
    case nil.true => exact runL tok mixed [41, 42, 43] 300 6 (Good.cons c1 (Good.cons c2 Good.nil)) (by kernel_rfl)
    all_goals exact runL tok mixed [41, 42, 43] 300 6 (Good.cons c1 (Good.cons c2 (Good.cons c3 (Good.cons c4 Good.nil)))) (by kernel_rfl)
theorem r3_Reduce.c (neg : Bool) (p q : List Int) (hp : okN p = true) (hq : okN q = true) (h0 : q ≠ []) : Sound Try.prog 46 [B neg, N p, N q] (R (redS neg p q)) := by
  obtain ⟨g1, g2, g3⟩ := gcd_facts hp hq h0
  have c1 := ref_Gcd.c p q
  have e : gcdS p q = (dg (gcdI (val p) (val q)), 0) := by unfold gcdS; rw [if_pos ⟨hp, hq⟩]
  rw [e] at c1
  dsimp only at c1
  have c2 := ref_DivMod.c p (dg (gcdI (val p) (val q)))
  have c3 := ref_DivMod.c q (dg (gcdI (val p) (val q)))
  rw [divS_gcd hp g1 g2, g3] at c2
  rw [divS_gcd hq g1 g2, g3] at c3
  dsimp only at c2 c3
  have hr : redS neg p q = ⟨neg && decide (0 < (dg (val p / gcdI (val p) (val q))).length), dg (val p / gcdI (val p) (val q)), dg (val q / gcdI (val p) (val q))⟩ := rfl
  rw [hr]
  generalize dg (gcdI (val p) (val q)) = G at *
  generalize dg (val p / gcdI (val p) (val q)) = X at *
  generalize dg (val q / gcdI (val p) (val q)) = Y at *
  generalize dg (val p % gcdI (val p) (val q)) = X1 at *
  generalize dg (val q % gcdI (val p) (val q)) = Y1 at *
  cases neg <;> cases X <;> exact runL tok mixed [42, 55] 200 3 (Good.cons c1 (Good.cons c2 (Good.cons c3 Good.nil))) (by kernel_rfl)
theorem r3_Make.c (p q : Int) (hwp : -9223372036854775808 ≤ p ∧ p ≤ 9223372036854775807) (hwq : -9223372036854775808 ≤ q ∧ q ≤ 9223372036854775807) : Sound Try.prog 27 [I p, I q] (.tup [R (makeS p q).1, I (makeS p q).2]) := by
  by_cases hp : inR p = true ∧ inR q = true
  · obtain ⟨hp, hq⟩ := hp
    have hp' : -1125899906842624 ≤ p ∧ p ≤ 1125899906842624 := by simpa [inR] using hp
    have hq' : -1125899906842624 ≤ q ∧ q ≤ 1125899906842624 := by simpa [inR] using hq
    obtain ⟨p1, p2⟩ := hp'
    obtain ⟨q1, q2⟩ := hq'
    have n1 : ¬ p < -1125899906842624 := by omega
    have n2 : ¬ 1125899906842624 < p := by omega
    have n3 : ¬ q < -1125899906842624 := by omega
    have n4 : ¬ 1125899906842624 < q := by omega
    by_cases h0 : q = 0
    · subst h0
      rw [show makeS p 0 = (zR, 16) by unfold makeS; rw [if_pos ⟨hp, hq⟩, if_pos rfl]]
      refine Sound.of_WP tok Try.func27 rfl rfl ?_; simp only [Try.f27, args0, List.map, List.length_cons, List.length_nil, Nat.reduceAdd, Nat.reduceSub, List.replicate, List.cons_append, List.nil_append]
      repeat' (first | refine WP_seq ?_ | refine WP_block ?_ | (refine WP_R 64 (by decide) fun KQ hKQ => ?_) | (refine WP_D 64 (by decide) ?_ fun KQ hKQ => ?_; (focus kernel_rfl)) | ((first | (refine opsW_op rfl rfl rfl ?_ rfl ?_; (first | exact trivial | omega | (dsimp only; omega) | (dsimp only; exact ⟨by omega, by omega, by omega⟩) | (simp only [Mid.len, Blk.cells, List.length_map, List.length_set, List.length_replicate, List.length_append, Nat.mul_one, Nat.zero_add, reduceCtorEq, List.length_cons, List.length_nil, List.length_take, List.length_drop, true_and, and_true, false_implies, implies_true]; first | done | omega) | (simp; done) | (simp; omega) | grind))); (try simp only [Mid.get, Mid.set, mx_fold, PV.flat, flats, nrm1, nrm, Bool.true_and, Bool.and_true, Bool.and_self, ev, List.replicate, Option.map_some, Option.bind_some, Nat.reduceBEq, beq_self_eq_true, setD, List.set, puts, put, del, cellsTo, cells1, allP, lay, putIn, joinB, sub, overB, rep, Blk.mk, AV.cells, List.map, List.drop, List.take, List.cons_append, List.nil_append, List.append_nil, List.getD_cons_succ, List.getD_cons_zero, if_true, if_false, Bool.false_eq_true, reduceIte, wrap_i64, getI, takeI, dropI, setI, repI, Nat.mul_one, Nat.one_mul, Nat.zero_add, Nat.add_zero, Nat.zero_mul, Int.toNat_natCast, Int.reduceNeg, Int.reduceToNat, Nat.reduceAdd, Nat.reduceMul, Nat.reduceSub, decide_true, decide_false, Bool.not_true, Bool.not_false, cond_true, cond_false, gt_iff_lt, ge_iff_le, Int.reduceLT, Int.reduceLE, Int.lt_irrefl, Int.le_refl, List.length_set, List.length_map, *])) | (refine opsW_skip rfl ?_; simp only [setD, List.set]) | (refine opsW_nil ⟨?_, hKQ _ _ _ ?_⟩; (focus kernel_rfl); clear hKQ KQ; try simp only [seqK, blockK, loopG, List.length_cons, List.length_nil, Nat.reduceAdd, Nat.reduceMul]) | (refine opsW_nil (hKQ _ _ _ ?_); clear hKQ KQ; try simp only [seqK, blockK, loopG, List.length_cons, List.length_nil, Nat.reduceAdd, Nat.reduceMul]) | (refine WP_cond (t := true) rfl ?_; simp only [if_true]) | (refine WP_cond (t := false) rfl ?_; simp only [if_false, Bool.false_eq_true]) | (refine WP_skip ?_; simp only [seqK, blockK, loopG]) | (refine WP_ret ?_; simp only [seqK, blockK, loopG, Fin]) | (refine WP_exit ?_; simp only [seqK, blockK, loopG, reduceIte, Nat.reduceEqDiff]))
      (refine Res_of rfl ?_ ?_; (focus (first | (refine ⟨⟨?_, ?_⟩, trivial⟩ <;> first | exact Nat.le_of_ble_eq_true rfl | (refine Nat.le_of_ble_eq_true ?_; kernel_rfl) | (intro hh; cases hh)) | (refine ⟨⟨?_, ?_⟩, trivial, trivial⟩ <;> first | (refine Nat.le_of_ble_eq_true ?_; kernel_rfl) | (intro hh; cases hh)) | (refine ⟨⟨?_, ?_⟩, trivial⟩ <;> decide) | (refine ⟨⟨?_, ?_⟩, ⟨trivial, trivial⟩⟩ <;> decide) | decide | (simp [Blk.cells]; done))); exact ⟨_, rfl⟩)
    · have k1 := absI_ok hp
      have k2 := absI_ok hq
      rw [show makeS p q = (redS (!(decide (p < 0) == decide (q < 0))) (dg (absI p)) (dg (absI q)), 0) by unfold makeS; rw [if_pos ⟨hp, hq⟩, if_neg h0]]
      have w1 : wrap64 (0 - p) = -p := by rw [Int.zero_sub]; exact w64 (by omega) (by omega)
      have w2 : wrap64 (0 - q) = -q := by rw [Int.zero_sub]; exact w64 (by omega) (by omega)
      have m1 : mx p (-p) = absI p := by unfold mx absI; split <;> split <;> omega
      have m2 : mx q (-q) = absI q := by unfold mx absI; split <;> split <;> omega
      have c3 := ref_Of.c (absI p) (by unfold absI; split <;> omega)
      have c4 := ref_Of.c (absI q) (by unfold absI; split <;> omega)
      rw [show ofS (absI p) = (dg (absI p), 0) by unfold ofS; rw [if_neg (by unfold absI; split <;> omega)]] at c3
      rw [show ofS (absI q) = (dg (absI q), 0) by unfold ofS; rw [if_neg (by unfold absI; split <;> omega)]] at c4
      dsimp only at c3 c4
      have c5 := r3_Reduce.c (!(decide (p < 0) == decide (q < 0))) (dg (absI p)) (dg (absI q)) k1.1 k2.1 (k2.2 h0)
      clear k1 k2
      generalize hz : redS _ (dg (absI p)) (dg (absI q)) = z at *
      clear hz
      generalize dg (absI p) = P at *
      generalize dg (absI q) = Q at *
      generalize absI p = A1 at *
      generalize absI q = A2 at *
      by_cases s1 : p < 0 <;> by_cases s2 : q < 0
      all_goals
        simp only [s1, s2, decide_true, decide_false] at c5
        refine Sound.of_WP tok Try.func27 rfl rfl ?_; simp only [Try.f27, args0, List.map, List.length_cons, List.length_nil, Nat.reduceAdd, Nat.reduceSub, List.replicate, List.cons_append, List.nil_append]
        repeat' (first | refine WP_seq ?_ | refine WP_block ?_ | (refine WP_R 64 (by decide) fun KQ hKQ => ?_) | (refine WP_D 64 (by decide) ?_ fun KQ hKQ => ?_; (focus kernel_rfl)) | ((first | (refine opsW_op rfl rfl rfl ?_ rfl ?_; (first | exact trivial | omega | (dsimp only; omega) | (dsimp only; exact ⟨by omega, by omega, by omega⟩) | (simp only [Mid.len, Blk.cells, List.length_map, List.length_set, List.length_replicate, List.length_append, Nat.mul_one, Nat.zero_add, reduceCtorEq, List.length_cons, List.length_nil, List.length_take, List.length_drop, true_and, and_true, false_implies, implies_true]; first | done | omega) | (simp; done) | (simp; omega) | grind)) | (refine opsW_callP (qs := ?_) (rd := ?_) (u := ?_) (c3) rfl rfl rfl ?_ ?_ ?_ ?_ ?_; rotate_right 6; (focus rfl); (focus (first | rfl | (simp only [nrm1, nrm, List.map, List.drop_zero, Nat.mul_one, takeI, dropI, List.take_length]; done) | (simp only [nrm1, nrm, List.map, List.drop_zero, Nat.mul_one, takeI, dropI, List.take_length]; rfl))); rotate_left 1; (focus rfl); (focus rfl); rotate_right 0) | (refine opsW_callP (qs := ?_) (rd := ?_) (u := ?_) (c4) rfl rfl rfl ?_ ?_ ?_ ?_ ?_; rotate_right 6; (focus rfl); (focus (first | rfl | (simp only [nrm1, nrm, List.map, List.drop_zero, Nat.mul_one, takeI, dropI, List.take_length]; done) | (simp only [nrm1, nrm, List.map, List.drop_zero, Nat.mul_one, takeI, dropI, List.take_length]; rfl))); rotate_left 1; (focus rfl); (focus rfl); rotate_right 0) | (refine opsW_callP (qs := ?_) (rd := ?_) (u := ?_) (c5) rfl rfl rfl ?_ ?_ ?_ ?_ ?_; rotate_right 6; (focus rfl); (focus (first | rfl | (simp only [nrm1, nrm, List.map, List.drop_zero, Nat.mul_one, takeI, dropI, List.take_length]; done) | (simp only [nrm1, nrm, List.map, List.drop_zero, Nat.mul_one, takeI, dropI, List.take_length]; rfl))); rotate_left 1; (focus rfl); (focus rfl); rotate_right 0)); (try simp only [Mid.get, Mid.set, mx_fold, PV.flat, flats, nrm1, nrm, Bool.true_and, Bool.and_true, Bool.and_self, ev, List.replicate, Option.map_some, Option.bind_some, Nat.reduceBEq, beq_self_eq_true, setD, List.set, puts, put, del, cellsTo, cells1, allP, lay, putIn, joinB, sub, overB, rep, Blk.mk, AV.cells, List.map, List.drop, List.take, List.cons_append, List.nil_append, List.append_nil, List.getD_cons_succ, List.getD_cons_zero, if_true, if_false, Bool.false_eq_true, reduceIte, wrap_i64, getI, takeI, dropI, setI, repI, Nat.mul_one, Nat.one_mul, Nat.zero_add, Nat.add_zero, Nat.zero_mul, Int.toNat_natCast, Int.reduceNeg, Int.reduceToNat, Nat.reduceAdd, Nat.reduceMul, Nat.reduceSub, decide_true, decide_false, Bool.not_true, Bool.not_false, cond_true, cond_false, gt_iff_lt, ge_iff_le, Int.reduceLT, Int.reduceLE, Int.lt_irrefl, Int.le_refl, List.length_set, List.length_map, *])) | (refine opsW_skip rfl ?_; simp only [setD, List.set]) | (refine opsW_nil ⟨?_, hKQ _ _ _ ?_⟩; (focus kernel_rfl); clear hKQ KQ; try simp only [seqK, blockK, loopG, List.length_cons, List.length_nil, Nat.reduceAdd, Nat.reduceMul]) | (refine opsW_nil (hKQ _ _ _ ?_); clear hKQ KQ; try simp only [seqK, blockK, loopG, List.length_cons, List.length_nil, Nat.reduceAdd, Nat.reduceMul]) | (refine WP_cond (t := true) rfl ?_; simp only [if_true]) | (refine WP_cond (t := false) rfl ?_; simp only [if_false, Bool.false_eq_true]) | (refine WP_skip ?_; simp only [seqK, blockK, loopG]) | (refine WP_ret ?_; simp only [seqK, blockK, loopG, Fin]) | (refine WP_exit ?_; simp only [seqK, blockK, loopG, reduceIte, Nat.reduceEqDiff]))
        (refine Res_of rfl ?_ ?_; (focus (first | (refine ⟨⟨?_, ?_⟩, trivial⟩ <;> first | exact Nat.le_of_ble_eq_true rfl | (refine Nat.le_of_ble_eq_true ?_; kernel_rfl) | (intro hh; cases hh)) | (refine ⟨⟨?_, ?_⟩, trivial, trivial⟩ <;> first | (refine Nat.le_of_ble_eq_true ?_; kernel_rfl) | (intro hh; cases hh)) | (refine ⟨⟨?_, ?_⟩, trivial⟩ <;> decide) | (refine ⟨⟨?_, ?_⟩, ⟨trivial, trivial⟩⟩ <;> decide) | decide | (simp [Blk.cells]; done))); exact ⟨_, rfl⟩)
  · rw [show makeS p q = (zR, 1) by unfold makeS; rw [if_neg hp]]
    have hp' : p < -1125899906842624 ∨ (¬ p < -1125899906842624 ∧ 1125899906842624 < p) ∨ (¬ p < -1125899906842624 ∧ ¬ 1125899906842624 < p ∧ q < -1125899906842624) ∨ (¬ p < -1125899906842624 ∧ ¬ 1125899906842624 < p ∧ ¬ q < -1125899906842624 ∧ 1125899906842624 < q) := by
      simp only [inR, Bool.and_eq_true, decide_eq_true_eq] at hp
      omega
    clear hp
    rcases hp' with n1 | ⟨n1, n2⟩ | ⟨n1, n2, n3⟩ | ⟨n1, n2, n3, n4⟩
    all_goals
      refine Sound.of_WP tok Try.func27 rfl rfl ?_; simp only [Try.f27, args0, List.map, List.length_cons, List.length_nil, Nat.reduceAdd, Nat.reduceSub, List.replicate, List.cons_append, List.nil_append]
      repeat' (first | refine WP_seq ?_ | refine WP_block ?_ | (refine WP_R 64 (by decide) fun KQ hKQ => ?_) | (refine WP_D 64 (by decide) ?_ fun KQ hKQ => ?_; (focus kernel_rfl)) | ((first | (refine opsW_op rfl rfl rfl ?_ rfl ?_; (first | exact trivial | omega | (dsimp only; omega) | (dsimp only; exact ⟨by omega, by omega, by omega⟩) | (simp only [Mid.len, Blk.cells, List.length_map, List.length_set, List.length_replicate, List.length_append, Nat.mul_one, Nat.zero_add, reduceCtorEq, List.length_cons, List.length_nil, List.length_take, List.length_drop, true_and, and_true, false_implies, implies_true]; first | done | omega) | (simp; done) | (simp; omega) | grind))); (try simp only [Mid.get, Mid.set, mx_fold, PV.flat, flats, nrm1, nrm, Bool.true_and, Bool.and_true, Bool.and_self, ev, List.replicate, Option.map_some, Option.bind_some, Nat.reduceBEq, beq_self_eq_true, setD, List.set, puts, put, del, cellsTo, cells1, allP, lay, putIn, joinB, sub, overB, rep, Blk.mk, AV.cells, List.map, List.drop, List.take, List.cons_append, List.nil_append, List.append_nil, List.getD_cons_succ, List.getD_cons_zero, if_true, if_false, Bool.false_eq_true, reduceIte, wrap_i64, getI, takeI, dropI, setI, repI, Nat.mul_one, Nat.one_mul, Nat.zero_add, Nat.add_zero, Nat.zero_mul, Int.toNat_natCast, Int.reduceNeg, Int.reduceToNat, Nat.reduceAdd, Nat.reduceMul, Nat.reduceSub, decide_true, decide_false, Bool.not_true, Bool.not_false, cond_true, cond_false, gt_iff_lt, ge_iff_le, Int.reduceLT, Int.reduceLE, Int.lt_irrefl, Int.le_refl, List.length_set, List.length_map, *])) | (refine opsW_skip rfl ?_; simp only [setD, List.set]) | (refine opsW_nil ⟨?_, hKQ _ _ _ ?_⟩; (focus kernel_rfl); clear hKQ KQ; try simp only [seqK, blockK, loopG, List.length_cons, List.length_nil, Nat.reduceAdd, Nat.reduceMul]) | (refine opsW_nil (hKQ _ _ _ ?_); clear hKQ KQ; try simp only [seqK, blockK, loopG, List.length_cons, List.length_nil, Nat.reduceAdd, Nat.reduceMul]) | (refine WP_cond (t := true) rfl ?_; simp only [if_true]) | (refine WP_cond (t := false) rfl ?_; simp only [if_false, Bool.false_eq_true]) | (refine WP_skip ?_; simp only [seqK, blockK, loopG]) | (refine WP_ret ?_; simp only [seqK, blockK, loopG, Fin]) | (refine WP_exit ?_; simp only [seqK, blockK, loopG, reduceIte, Nat.reduceEqDiff]))
      (refine Res_of rfl ?_ ?_; (focus (first | (refine ⟨⟨?_, ?_⟩, trivial⟩ <;> first | exact Nat.le_of_ble_eq_true rfl | (refine Nat.le_of_ble_eq_true ?_; kernel_rfl) | (intro hh; cases hh)) | (refine ⟨⟨?_, ?_⟩, trivial, trivial⟩ <;> first | (refine Nat.le_of_ble_eq_true ?_; kernel_rfl) | (intro hh; cases hh)) | (refine ⟨⟨?_, ?_⟩, trivial⟩ <;> decide) | (refine ⟨⟨?_, ?_⟩, ⟨trivial, trivial⟩⟩ <;> decide) | decide | (simp [Blk.cells]; done))); exact ⟨_, rfl⟩)
theorem r3_Of.c (n : Int) (hw : -9223372036854775808 ≤ n ∧ n ≤ 9223372036854775807) : Sound Try.prog 33 [I n] (.tup [R (makeS n 1).1, I (makeS n 1).2]) :=
  runL tok mixed [27] 100 2 (Good.cons (r3_Make.c n 1 hw (by decide)) Good.nil) (by kernel_rfl)
theorem r3_negated.c (x : Rt) : Sound Try.prog 48 [R x] (R (negR x)) := by
  obtain ⟨n, p, q⟩ := x
  cases n <;> cases p <;> exact runL tok mixed [] 100 2 Good.nil (by kernel_rfl)
/-- Two numbers have the same fields. -/
def sameS (x y : Rt) : Bool := (x.neg == y.neg) && (decide (x.p = y.p) && decide (x.q = y.q))
theorem sameS_iff {x y : Rt} : sameS x y = true ↔ x = y := by
  obtain ⟨a, b, c⟩ := x
  obtain ⟨d, e, f⟩ := y
  simp [sameS]
theorem sameS_self (x : Rt) : sameS x x = true := sameS_iff.2 rfl
theorem r3_Mul.c (x y : Rt) : Sound Try.prog 29 [R x, R y] (.tup [R (mulR x y).1, I (mulR x y).2]) := by
  have c1 := r3_Valid.c x
  have c2 := r3_Valid.c y
  by_cases hx : rvB x = true
  rotate_left
  · rw [show mulR x y = (zR, 3) by unfold mulR; rw [if_neg (fun h => hx h.1)]]
    replace hx : rvB x = false := by simpa using hx
    rw [hx] at c1
    clear hx
    obtain ⟨xn, xp, xq⟩ := x
    obtain ⟨yn, yp, yq⟩ := y
    exact runL tok mixed [23, 44, 46] 300 6 (Good.cons c1 Good.nil) (by kernel_rfl)
  rw [hx] at c1
  by_cases hy : rvB y = true
  rotate_left
  · rw [show mulR x y = (zR, 3) by unfold mulR; rw [if_neg (fun h => hy h.2)]]
    replace hy : rvB y = false := by simpa using hy
    rw [hy] at c2
    clear hx hy
    obtain ⟨xn, xp, xq⟩ := x
    obtain ⟨yn, yp, yq⟩ := y
    exact runL tok mixed [23, 44, 46] 300 6 (Good.cons c1 (Good.cons c2 Good.nil)) (by kernel_rfl)
  rw [hy] at c2
  have c3 := ref_Mul.c x.p y.p
  have c4 := ref_Mul.c x.q y.q
  obtain ⟨x1, x2, x3, _⟩ := rvB_iff.1 hx
  obtain ⟨y1, y2, y3, _⟩ := rvB_iff.1 hy
  have hq := Int.mul_pos (q_pos hx) (q_pos hy)
  have hu : mulR x y = (if (mulS x.p y.p).2 = 0 then (if (mulS x.q y.q).2 = 0 then (redS (!(x.neg == y.neg)) (mulS x.p y.p).1 (mulS x.q y.q).1, 0) else (zR, (mulS x.q y.q).2)) else (zR, (mulS x.p y.p).2)) := by unfold mulR; rw [if_pos ⟨hx, hy⟩]
  rw [hu]
  clear hu
  rcases mulS_cases x1 y1 with ⟨m, e1, m1, m2⟩ | e1 <;> rcases mulS_cases x2 y2 with ⟨k, e2, k1, k2⟩ | e2 <;> rw [e1] at c3 ⊢ <;> rw [e2] at c4 ⊢
  · have c5 := r3_Reduce.c (!(x.neg == y.neg)) m k m1 k1 (fun e => by subst e; rw [← k2] at hq; simp [val] at hq)
    rw [if_pos rfl, if_pos rfl]
    generalize redS (!(x.neg == y.neg)) m k = z at *
    clear hx hy x1 x2 x3 y1 y2 y3 e1 e2 hq m2 k2
    obtain ⟨xn, xp, xq⟩ := x
    obtain ⟨yn, yp, yq⟩ := y
    exact runL tok mixed [23, 44, 46] 300 6 (Good.cons c1 (Good.cons c2 (Good.cons c3 (Good.cons c4 (Good.cons c5 Good.nil))))) (by kernel_rfl)
  all_goals
    clear hx hy x1 x2 x3 y1 y2 y3 e1 e2 hq
    obtain ⟨xn, xp, xq⟩ := x
    obtain ⟨yn, yp, yq⟩ := y
    exact runL tok mixed [23, 44, 46] 300 6 (Good.cons c1 (Good.cons c2 (Good.cons c3 (Good.cons c4 Good.nil)))) (by kernel_rfl)
theorem r3_Add.c (x y : Rt) : Sound Try.prog 25 [R x, R y] (.tup [R (addR x y).1, I (addR x y).2]) := by
  have c1 := r3_Valid.c x
  have c2 := r3_Valid.c y
  by_cases hx : rvB x = true
  rotate_left
  · rw [show addR x y = (zR, 3) by unfold addR; rw [if_neg (fun h => hx h.1)]]
    replace hx : rvB x = false := by simpa using hx
    rw [hx] at c1
    clear hx
    obtain ⟨xn, xp, xq⟩ := x
    obtain ⟨yn, yp, yq⟩ := y
    exact runL tok mixed [23, 44, 58, 60, 59, 46] 300 6 (Good.cons c1 Good.nil) (by kernel_rfl)
  by_cases hy : rvB y = true
  rotate_left
  · rw [show addR x y = (zR, 3) by unfold addR; rw [if_neg (fun h => hy h.2)]]
    replace hy : rvB y = false := by simpa using hy
    rw [hx] at c1; rw [hy] at c2
    clear hx hy
    obtain ⟨xn, xp, xq⟩ := x
    obtain ⟨yn, yp, yq⟩ := y
    exact runL tok mixed [23, 44, 58, 60, 59, 46] 300 6 (Good.cons c1 (Good.cons c2 Good.nil)) (by kernel_rfl)
  rw [hx] at c1; rw [hy] at c2
  have c3 := ref_Mul.c x.p y.q
  have c4 := ref_Mul.c y.p x.q
  have c5 := ref_Mul.c x.q y.q
  obtain ⟨x1, x2, x3, _⟩ := rvB_iff.1 hx
  obtain ⟨y1, y2, y3, _⟩ := rvB_iff.1 hy
  have hq := Int.mul_pos (q_pos hx) (q_pos hy)
  have hu : addR x y = if (mulS x.p y.q).2 = 0 ∧ (mulS y.p x.q).2 = 0 ∧ (mulS x.q y.q).2 = 0 ∧ (plusS x.neg (mulS x.p y.q).1 y.neg (mulS y.p x.q).1).2.2 = 0 then (redS (plusS x.neg (mulS x.p y.q).1 y.neg (mulS y.p x.q).1).1 (plusS x.neg (mulS x.p y.q).1 y.neg (mulS y.p x.q).1).2.1 (mulS x.q y.q).1, 0) else (zR, 2) := by
    unfold addR; rw [if_pos ⟨hx, hy⟩]
  rw [hu]
  clear hu
  rcases mulS_cases x1 y2 with ⟨m, e1, m1, m2⟩ | e1
  rotate_left
  · rw [e1] at c3 ⊢
    rw [if_neg (by simp)]
    clear hx hy x1 x2 x3 y1 y2 y3 e1
    obtain ⟨xn, xp, xq⟩ := x; obtain ⟨yn, yp, yq⟩ := y
    exact runL tok mixed [23, 44, 58, 60, 59, 46] 300 6 (Good.cons c1 (Good.cons c2 (Good.cons c3 (Good.cons c4 (Good.cons c5 Good.nil))))) (by kernel_rfl)
  rw [e1] at c3 ⊢
  rcases mulS_cases y1 x2 with ⟨k, e2, k1, k2⟩ | e2
  rotate_left
  · rw [e2] at c4 ⊢
    rw [if_neg (by simp)]
    clear hx hy x1 x2 x3 y1 y2 y3 e1 e2
    obtain ⟨xn, xp, xq⟩ := x; obtain ⟨yn, yp, yq⟩ := y
    exact runL tok mixed [23, 44, 58, 60, 59, 46] 300 6 (Good.cons c1 (Good.cons c2 (Good.cons c3 (Good.cons c4 (Good.cons c5 Good.nil))))) (by kernel_rfl)
  rw [e2] at c4 ⊢
  rcases mulS_cases x2 y2 with ⟨l, e3, l1, l2⟩ | e3
  rotate_left
  · rw [e3] at c5 ⊢
    rw [if_neg (by simp)]
    clear hx hy x1 x2 x3 y1 y2 y3 e1 e2 e3
    obtain ⟨xn, xp, xq⟩ := x; obtain ⟨yn, yp, yq⟩ := y
    exact runL tok mixed [23, 44, 58, 60, 59, 46] 300 6 (Good.cons c1 (Good.cons c2 (Good.cons c3 (Good.cons c4 (Good.cons c5 Good.nil))))) (by kernel_rfl)
  rw [e3] at c5 ⊢
  simp only [true_and]
  have hl : l ≠ [] := fun e => by
    subst e
    rw [← l2] at hq; simp [val] at hq
  have c6 := ref_Add.c m k
  have c7 := ref_Cmp.c m k
  rw [show ncmpS m k = (cmpS (val m) (val k), 0) by unfold ncmpS; rw [if_pos ⟨m1, k1⟩]] at c7
  have c8 := ref_Sub.c m k
  have c9 := ref_Sub.c k m
  have hmk : okN m = true ∧ okN k = true := ⟨m1, k1⟩
  have hkm : okN k = true ∧ okN m = true := ⟨k1, m1⟩
  obtain ⟨xn, xp, xq⟩ := x
  obtain ⟨yn, yp, yq⟩ := y
  dsimp only at *
  clear hx hy x1 x2 x3 y1 y2 y3 e1 e2 e3 m2 k2 l2 hq
  have pk := fun (a b : Bool) => plusS_ok (m := a) (n := b) m1 k1
  have same : ∀ b, plusS b m b k = (b, addS m k) := fun b => by unfold plusS; rw [if_pos rfl]
  have add : addS m k = Px.fitS (val m + val k) := by unfold addS; rw [if_pos hmk]
  have red := fun (b : Bool) (s : List Int) (hs : okN s = true) => r3_Reduce.c b s l hs l1 hl
  cases xn <;> cases yn
  case false.false =>
    rw [same]
    have p1 := (pk false false).1
    rw [same] at p1
    rcases fitS_cases (val m + val k) with f | f <;> rw [← add] at f
    · rw [f] at c6 p1 ⊢
      have c10 := red false _ p1
      rw [if_pos rfl]
      exact runL tok mixed [23, 44, 58, 60, 59, 46] 300 6 (Good.cons c1 (Good.cons c2 (Good.cons c3 (Good.cons c4 (Good.cons c5 (Good.cons c6 (Good.cons c10 Good.nil))))))) (by kernel_rfl)
    · rw [f] at c6 ⊢
      rw [if_neg (by simp)]
      exact runL tok mixed [23, 44, 58, 60, 59, 46] 300 6 (Good.cons c1 (Good.cons c2 (Good.cons c3 (Good.cons c4 (Good.cons c5 (Good.cons c6 Good.nil)))))) (by kernel_rfl)
  case true.true =>
    rw [same]
    have p1 := (pk true true).1
    rw [same] at p1
    rcases fitS_cases (val m + val k) with f | f <;> rw [← add] at f
    · rw [f] at c6 p1 ⊢
      have c10 := red true _ p1
      rw [if_pos rfl]
      exact runL tok mixed [23, 44, 58, 60, 59, 46] 300 6 (Good.cons c1 (Good.cons c2 (Good.cons c3 (Good.cons c4 (Good.cons c5 (Good.cons c6 (Good.cons c10 Good.nil))))))) (by kernel_rfl)
    · rw [f] at c6 ⊢
      rw [if_neg (by simp)]
      exact runL tok mixed [23, 44, 58, 60, 59, 46] 300 6 (Good.cons c1 (Good.cons c2 (Good.cons c3 (Good.cons c4 (Good.cons c5 (Good.cons c6 Good.nil)))))) (by kernel_rfl)
  case false.true =>
    by_cases hlt : val m < val k
    · have hc : cmpS (val m) (val k) = -1 := by unfold cmpS; rw [if_pos hlt]
      have es : subS k m = (dg (val k - val m), 0) := by unfold subS; rw [if_pos hkm, if_neg (by omega)]
      have ep : plusS false m true k = (true, subS k m) := by unfold plusS; rw [if_neg (by decide), hc, if_pos (by decide)]
      have p1 := (pk false true).1
      rw [ep, es] at p1 ⊢
      rw [es] at c9
      rw [hc] at c7
      have c10 := red true _ p1
      rw [if_pos rfl]
      exact runL tok mixed [23, 44, 58, 60, 59, 46] 300 6 (Good.cons c1 (Good.cons c2 (Good.cons c3 (Good.cons c4 (Good.cons c5 (Good.cons c7 (Good.cons c9 (Good.cons c10 Good.nil)))))))) (by kernel_rfl)
    · have es : subS m k = (dg (val m - val k), 0) := by unfold subS; rw [if_pos hmk, if_neg hlt]
      have hc : cmpS (val m) (val k) = 0 ∨ cmpS (val m) (val k) = 1 := by unfold cmpS; rw [if_neg hlt]; split <;> simp
      have ep : plusS false m true k = (false, subS m k) := by unfold plusS; rw [if_neg (by decide), if_neg (by rcases hc with h | h <;> rw [h] <;> decide)]
      have p1 := (pk false true).1
      rw [ep, es] at p1 ⊢
      rw [es] at c8
      have c10 := red false _ p1
      rw [if_pos rfl]
      rcases hc with hc | hc <;> rw [hc] at c7
      all_goals exact runL tok mixed [23, 44, 58, 60, 59, 46] 300 6 (Good.cons c1 (Good.cons c2 (Good.cons c3 (Good.cons c4 (Good.cons c5 (Good.cons c7 (Good.cons c8 (Good.cons c10 Good.nil)))))))) (by kernel_rfl)
  case true.false =>
    by_cases hlt : val m < val k
    · have hc : cmpS (val m) (val k) = -1 := by unfold cmpS; rw [if_pos hlt]
      have es : subS k m = (dg (val k - val m), 0) := by unfold subS; rw [if_pos hkm, if_neg (by omega)]
      have ep : plusS true m false k = (false, subS k m) := by unfold plusS; rw [if_neg (by decide), hc, if_pos (by decide)]
      have p1 := (pk true false).1
      rw [ep, es] at p1 ⊢
      rw [es] at c9
      rw [hc] at c7
      have c10 := red false _ p1
      rw [if_pos rfl]
      exact runL tok mixed [23, 44, 58, 60, 59, 46] 300 6 (Good.cons c1 (Good.cons c2 (Good.cons c3 (Good.cons c4 (Good.cons c5 (Good.cons c7 (Good.cons c9 (Good.cons c10 Good.nil)))))))) (by kernel_rfl)
    · have es : subS m k = (dg (val m - val k), 0) := by unfold subS; rw [if_pos hmk, if_neg hlt]
      have hc : cmpS (val m) (val k) = 0 ∨ cmpS (val m) (val k) = 1 := by unfold cmpS; rw [if_neg hlt]; split <;> simp
      have ep : plusS true m false k = (true, subS m k) := by unfold plusS; rw [if_neg (by decide), if_neg (by rcases hc with h | h <;> rw [h] <;> decide)]
      have p1 := (pk true false).1
      rw [ep, es] at p1 ⊢
      rw [es] at c8
      have c10 := red true _ p1
      rw [if_pos rfl]
      rcases hc with hc | hc <;> rw [hc] at c7
      all_goals exact runL tok mixed [23, 44, 58, 60, 59, 46] 300 6 (Good.cons c1 (Good.cons c2 (Good.cons c3 (Good.cons c4 (Good.cons c5 (Good.cons c7 (Good.cons c8 (Good.cons c10 Good.nil)))))))) (by kernel_rfl)
theorem r3_Sub.c (x y : Rt) : Sound Try.prog 28 [R x, R y] (.tup [R (subR x y).1, I (subR x y).2]) := by
  have c1 := r3_Valid.c x
  have c2 := r3_Valid.c y
  by_cases hx : rvB x = true
  · rw [hx] at c1
    by_cases hy : rvB y = true
    · rw [hy] at c2
      have c3 := r3_negated.c y
      have c4 := r3_Add.c x (negR y)
      rw [show subR x y = addR x (negR y) by unfold subR; rw [if_pos ⟨hx, hy⟩]]
      generalize addR x (negR y) = z at *
      generalize negR y = w at *
      clear hx hy
      obtain ⟨xn, xp, xq⟩ := x
      obtain ⟨yn, yp, yq⟩ := y
      exact runL tok mixed [23, 48, 25] 300 6 (Good.cons c1 (Good.cons c2 (Good.cons c3 (Good.cons c4 Good.nil)))) (by kernel_rfl)
    · rw [show subR x y = (zR, 3) by unfold subR; rw [if_neg (fun h => hy h.2)]]
      replace hy : rvB y = false := by simpa using hy
      rw [hy] at c2
      clear hx hy
      obtain ⟨xn, xp, xq⟩ := x
      obtain ⟨yn, yp, yq⟩ := y
      exact runL tok mixed [23, 48, 25] 300 6 (Good.cons c1 (Good.cons c2 Good.nil)) (by kernel_rfl)
  · rw [show subR x y = (zR, 3) by unfold subR; rw [if_neg (fun h => hx h.1)]]
    replace hx : rvB x = false := by simpa using hx
    rw [hx] at c1
    clear hx
    obtain ⟨xn, xp, xq⟩ := x
    obtain ⟨yn, yp, yq⟩ := y
    exact runL tok mixed [23, 48, 25] 300 6 (Good.cons c1 Good.nil) (by kernel_rfl)
end Go.Proofs.Ytbjamhkhocjdkaa.Pw
namespace Go.Proofs.Ytbjamhkhocjdkaa.Pw
open Go Wd Px Mat
set_option linter.unusedVariables false
set_option linter.unusedSimpArgs false
set_option maxRecDepth 100000
set_option maxHeartbeats 8000000
attribute [local irreducible] Int.tmod Int.tdiv
theorem r17_Same.c (x y : Rt) : Sound Try.prog 14 [R x, R y] (B (sameS x y)) := by
  obtain ⟨xn, xp, xq⟩ := x
  obtain ⟨yn, yp, yq⟩ := y
  have c1 := ref_Same.c xp yp
  have c2 := ref_Same.c xq yq
  unfold sameS
  dsimp only
  generalize decide (xp = yp) = b1 at *
  generalize decide (xq = yq) = b2 at *
  cases xn <;> cases yn <;> cases b1
  case false.false.true => exact runL tok mixed [34] 100 2 (Good.cons c1 (Good.cons c2 Good.nil)) (by kernel_rfl)
  case true.true.true => exact runL tok mixed [34] 100 2 (Good.cons c1 (Good.cons c2 Good.nil)) (by kernel_rfl)
  case false.false.false => exact runL tok mixed [34] 100 2 (Good.cons c1 Good.nil) (by kernel_rfl)
  case true.true.false => exact runL tok mixed [34] 100 2 (Good.cons c1 Good.nil) (by kernel_rfl)
  all_goals exact runL tok mixed [34] 100 2 Good.nil (by kernel_rfl)
end Go.Proofs.Ytbjamhkhocjdkaa.Pw
namespace Go.Proofs.Ytbjamhkhocjdkaa.Pw
open Go Wd Px Mat
set_option linter.unusedVariables false
set_option linter.unusedSimpArgs false
set_option maxRecDepth 100000
set_option maxHeartbeats 8000000
attribute [local irreducible] Int.tmod Int.tdiv
@[reducible] def Wt (f r c : Int) : PV := .agg [I f, I r, I c]
@[reducible] def St (f r c : Int) (x : Rt) : PV := .agg [I f, I r, I c, B x.neg, N x.p, N x.q]
theorem check_cases (f r c : Int) : (f < 0 ∧ checkS f r c = 1) ∨ (¬ f < 0 ∧ 1099511627776 < f ∧ checkS f r c = 1) ∨ (¬ f < 0 ∧ ¬ 1099511627776 < f ∧ r < 1 ∧ checkS f r c = 18) ∨ (¬ f < 0 ∧ ¬ 1099511627776 < f ∧ ¬ r < 1 ∧ 1000 < r ∧ checkS f r c = 18) ∨
    (¬ f < 0 ∧ ¬ 1099511627776 < f ∧ ¬ r < 1 ∧ ¬ 1000 < r ∧ c < 0 ∧ checkS f r c = 18) ∨ (¬ f < 0 ∧ ¬ 1099511627776 < f ∧ ¬ r < 1 ∧ ¬ 1000 < r ∧ ¬ c < 0 ∧ 999 < c ∧ checkS f r c = 18) ∨ (¬ f < 0 ∧ ¬ 1099511627776 < f ∧ ¬ r < 1 ∧ ¬ 1000 < r ∧ ¬ c < 0 ∧ ¬ 999 < c ∧ checkS f r c = 0) := by
  unfold checkS
  by_cases h1 : f < 0 <;> by_cases h2 : 1099511627776 < f <;> by_cases h3 : r < 1 <;> by_cases h4 : 1000 < r <;> by_cases h5 : c < 0 <;> by_cases h6 : 999 < c <;> simp [h1, h2, h3, h4, h5, h6]
theorem wet_Check.c (f r c : Int) : Sound Try.prog 12 [Wt f r c] (I (checkS f r c)) := by
  rcases check_cases f r c with ⟨h1, e⟩ | ⟨h1, h2, e⟩ | ⟨h1, h2, h3, e⟩ | ⟨h1, h2, h3, h4, e⟩ | ⟨h1, h2, h3, h4, h5, e⟩ | ⟨h1, h2, h3, h4, h5, h6, e⟩ | ⟨h1, h2, h3, h4, h5, h6, e⟩
  all_goals
    rw [e]
    clear e
    refine Sound.of_WP tok Try.func12 rfl rfl ?_; simp only [Try.f12, args0, List.map, List.length_cons, List.length_nil, Nat.reduceAdd, Nat.reduceSub, List.replicate, List.cons_append, List.nil_append]
    repeat' (first | refine WP_seq ?_ | refine WP_block ?_ | (refine WP_R 64 (by decide) fun KQ hKQ => ?_) | (refine WP_D 64 (by decide) ?_ fun KQ hKQ => ?_; (focus kernel_rfl)) | ((first | (refine opsW_op rfl rfl rfl ?_ rfl ?_; (first | exact trivial | omega | (dsimp only; omega) | (dsimp only; exact ⟨by omega, by omega, by omega⟩) | (simp only [Mid.len, Blk.cells, List.length_map, List.length_set, List.length_replicate, List.length_append, Nat.mul_one, Nat.zero_add, reduceCtorEq, List.length_cons, List.length_nil, List.length_take, List.length_drop, true_and, and_true, false_implies, implies_true]; first | done | omega) | (simp; done) | (simp; omega) | grind))); (try simp only [Mid.get, Mid.set, mx_fold, PV.flat, flats, nrm1, nrm, Bool.true_and, Bool.and_true, Bool.and_self, ev, List.replicate, Option.map_some, Option.bind_some, Nat.reduceBEq, beq_self_eq_true, setD, List.set, puts, put, del, cellsTo, cells1, allP, lay, putIn, joinB, sub, overB, rep, Blk.mk, AV.cells, List.map, List.drop, List.take, List.cons_append, List.nil_append, List.append_nil, List.getD_cons_succ, List.getD_cons_zero, if_true, if_false, Bool.false_eq_true, reduceIte, wrap_i64, getI, takeI, dropI, setI, repI, Nat.mul_one, Nat.one_mul, Nat.zero_add, Nat.add_zero, Nat.zero_mul, Int.toNat_natCast, Int.reduceNeg, Int.reduceToNat, Nat.reduceAdd, Nat.reduceMul, Nat.reduceSub, decide_true, decide_false, Bool.not_true, Bool.not_false, cond_true, cond_false, gt_iff_lt, ge_iff_le, Int.reduceLT, Int.reduceLE, Int.lt_irrefl, Int.le_refl, List.length_set, List.length_map, *])) | (refine opsW_skip rfl ?_; simp only [setD, List.set]) | (refine opsW_nil ⟨?_, hKQ _ _ _ ?_⟩; (focus kernel_rfl); clear hKQ KQ; try simp only [seqK, blockK, loopG, List.length_cons, List.length_nil, Nat.reduceAdd, Nat.reduceMul]) | (refine opsW_nil (hKQ _ _ _ ?_); clear hKQ KQ; try simp only [seqK, blockK, loopG, List.length_cons, List.length_nil, Nat.reduceAdd, Nat.reduceMul]) | (refine WP_cond (t := true) rfl ?_; simp only [if_true]) | (refine WP_cond (t := false) rfl ?_; simp only [if_false, Bool.false_eq_true]) | (refine WP_skip ?_; simp only [seqK, blockK, loopG]) | (refine WP_ret ?_; simp only [seqK, blockK, loopG, Fin]) | (refine WP_exit ?_; simp only [seqK, blockK, loopG, reduceIte, Nat.reduceEqDiff]))
    (simp only [List.take_take, Nat.min_self, List.nil_append, Int.toNat_natCast, take_set_len, get, dropI, takeI, List.drop_zero, List.take_length, Nat.mul_one, Nat.reduceBEq, cond_true, cond_false, beq_self_eq_true, Option.map_some, Option.bind_some, Res, resAll, resOne, Fin, pack, frz, frzs, nrm1, nrm, Option.bind, Option.map, List.getD_cons_succ, List.getD_cons_zero, List.map, true_and, and_self, and_true]; first | exact ⟨_, rfl⟩ | (refine ⟨_, Option.some_inj.2 (Prod.ext ?_ rfl)⟩; simp only [List.take_take, Nat.min_self, List.nil_append, List.take_length, List.length_take, List.length_set, List.length_append, List.length_replicate, List.length_cons, List.length_nil, takeI, repI, setI, PV.tup.injEq, PV.lst.injEq, List.cons.injEq, and_true, true_and, *] <;> first | done | omega | (refine ⟨?_, ?_⟩ <;> first | rfl | omega)))
theorem r20_Check.c (f r c : Int) : Sound Try.prog 13 [Wt f r c] (I (checkS f r c)) := by
  rcases check_cases f r c with ⟨h1, e⟩ | ⟨h1, h2, e⟩ | ⟨h1, h2, h3, e⟩ | ⟨h1, h2, h3, h4, e⟩ | ⟨h1, h2, h3, h4, h5, e⟩ | ⟨h1, h2, h3, h4, h5, h6, e⟩ | ⟨h1, h2, h3, h4, h5, h6, e⟩
  all_goals
    rw [e]
    clear e
    refine Sound.of_WP tok Try.func13 rfl rfl ?_; simp only [Try.f13, args0, List.map, List.length_cons, List.length_nil, Nat.reduceAdd, Nat.reduceSub, List.replicate, List.cons_append, List.nil_append]
    repeat' (first | refine WP_seq ?_ | refine WP_block ?_ | (refine WP_R 64 (by decide) fun KQ hKQ => ?_) | (refine WP_D 64 (by decide) ?_ fun KQ hKQ => ?_; (focus kernel_rfl)) | ((first | (refine opsW_op rfl rfl rfl ?_ rfl ?_; (first | exact trivial | omega | (dsimp only; omega) | (dsimp only; exact ⟨by omega, by omega, by omega⟩) | (simp only [Mid.len, Blk.cells, List.length_map, List.length_set, List.length_replicate, List.length_append, Nat.mul_one, Nat.zero_add, reduceCtorEq, List.length_cons, List.length_nil, List.length_take, List.length_drop, true_and, and_true, false_implies, implies_true]; first | done | omega) | (simp; done) | (simp; omega) | grind))); (try simp only [Mid.get, Mid.set, mx_fold, PV.flat, flats, nrm1, nrm, Bool.true_and, Bool.and_true, Bool.and_self, ev, List.replicate, Option.map_some, Option.bind_some, Nat.reduceBEq, beq_self_eq_true, setD, List.set, puts, put, del, cellsTo, cells1, allP, lay, putIn, joinB, sub, overB, rep, Blk.mk, AV.cells, List.map, List.drop, List.take, List.cons_append, List.nil_append, List.append_nil, List.getD_cons_succ, List.getD_cons_zero, if_true, if_false, Bool.false_eq_true, reduceIte, wrap_i64, getI, takeI, dropI, setI, repI, Nat.mul_one, Nat.one_mul, Nat.zero_add, Nat.add_zero, Nat.zero_mul, Int.toNat_natCast, Int.reduceNeg, Int.reduceToNat, Nat.reduceAdd, Nat.reduceMul, Nat.reduceSub, decide_true, decide_false, Bool.not_true, Bool.not_false, cond_true, cond_false, gt_iff_lt, ge_iff_le, Int.reduceLT, Int.reduceLE, Int.lt_irrefl, Int.le_refl, List.length_set, List.length_map, *])) | (refine opsW_skip rfl ?_; simp only [setD, List.set]) | (refine opsW_nil ⟨?_, hKQ _ _ _ ?_⟩; (focus kernel_rfl); clear hKQ KQ; try simp only [seqK, blockK, loopG, List.length_cons, List.length_nil, Nat.reduceAdd, Nat.reduceMul]) | (refine opsW_nil (hKQ _ _ _ ?_); clear hKQ KQ; try simp only [seqK, blockK, loopG, List.length_cons, List.length_nil, Nat.reduceAdd, Nat.reduceMul]) | (refine WP_cond (t := true) rfl ?_; simp only [if_true]) | (refine WP_cond (t := false) rfl ?_; simp only [if_false, Bool.false_eq_true]) | (refine WP_skip ?_; simp only [seqK, blockK, loopG]) | (refine WP_ret ?_; simp only [seqK, blockK, loopG, Fin]) | (refine WP_exit ?_; simp only [seqK, blockK, loopG, reduceIte, Nat.reduceEqDiff]))
    (simp only [List.take_take, Nat.min_self, List.nil_append, Int.toNat_natCast, take_set_len, get, dropI, takeI, List.drop_zero, List.take_length, Nat.mul_one, Nat.reduceBEq, cond_true, cond_false, beq_self_eq_true, Option.map_some, Option.bind_some, Res, resAll, resOne, Fin, pack, frz, frzs, nrm1, nrm, Option.bind, Option.map, List.getD_cons_succ, List.getD_cons_zero, List.map, true_and, and_self, and_true]; first | exact ⟨_, rfl⟩ | (refine ⟨_, Option.some_inj.2 (Prod.ext ?_ rfl)⟩; simp only [List.take_take, Nat.min_self, List.nil_append, List.take_length, List.length_take, List.length_set, List.length_append, List.length_replicate, List.length_cons, List.length_nil, takeI, repI, setI, PV.tup.injEq, PV.lst.injEq, List.cons.injEq, and_true, true_and, *] <;> first | done | omega | (refine ⟨?_, ?_⟩ <;> first | rfl | omega)))
theorem white_cases (x : Rt) : (rvB x = false ∧ whiteS x = 3) ∨ (rvB x = true ∧ x.neg = true ∧ whiteS x = 1) ∨ (rvB x = true ∧ x.neg = false ∧ (8 : Int) < x.p.length ∧ whiteS x = 32) ∨ (rvB x = true ∧ x.neg = false ∧ ¬ (8 : Int) < x.p.length ∧ (8 : Int) < x.q.length ∧ whiteS x = 32) ∨ (rvB x = true ∧ x.neg = false ∧ ¬ (8 : Int) < x.p.length ∧ ¬ (8 : Int) < x.q.length ∧ whiteS x = 0) := by
  unfold whiteS
  by_cases h1 : rvB x = true
  · by_cases h2 : x.neg = true
    · simp [h1, h2]
    · by_cases h3 : 8 < x.p.length <;> by_cases h4 : 8 < x.q.length <;> simp [h1, h2, h3, h4] <;> omega
  · simp [h1]
theorem r20_White.c (x : Rt) : Sound Try.prog 24 [R x] (I (whiteS x)) := by
  have c1 := r3_Valid.c x
  rcases white_cases x with ⟨h1, e⟩ | ⟨h1, h2, e⟩ | ⟨h1, h2, h3, e⟩ | ⟨h1, h2, h3, h4, e⟩ | ⟨h1, h2, h3, h4, e⟩
  all_goals
    rw [e]
    rw [h1] at c1
    clear e h1
    obtain ⟨xn, xp, xq⟩ := x
    try dsimp only at h2 h3 h4
    try subst h2
    refine Sound.of_WP tok Try.func24 rfl rfl ?_; simp only [Try.f24, args0, List.map, List.length_cons, List.length_nil, Nat.reduceAdd, Nat.reduceSub, List.replicate, List.cons_append, List.nil_append]
    repeat' (first | refine WP_seq ?_ | refine WP_block ?_ | (refine WP_R 64 (by decide) fun KQ hKQ => ?_) | (refine WP_D 64 (by decide) ?_ fun KQ hKQ => ?_; (focus kernel_rfl)) | ((first | (refine opsW_op rfl rfl rfl ?_ rfl ?_; (first | exact trivial | omega | (dsimp only; omega) | (dsimp only; exact ⟨by omega, by omega, by omega⟩) | (simp only [Mid.len, Blk.cells, List.length_map, List.length_set, List.length_replicate, List.length_append, Nat.mul_one, Nat.zero_add, reduceCtorEq, List.length_cons, List.length_nil, List.length_take, List.length_drop, true_and, and_true, false_implies, implies_true]; first | done | omega) | (simp; done) | (simp; omega) | grind)) | (refine opsW_callP (qs := ?_) (rd := ?_) (u := ?_) (c1) rfl rfl rfl ?_ ?_ ?_ ?_ ?_; rotate_right 6; (focus rfl); (focus (first | rfl | (simp only [nrm1, nrm, List.map, List.drop_zero, Nat.mul_one, takeI, dropI, List.take_length]; done) | (simp only [nrm1, nrm, List.map, List.drop_zero, Nat.mul_one, takeI, dropI, List.take_length]; rfl))); rotate_left 1; (focus rfl); (focus rfl); rotate_right 0)); (try simp only [Mid.get, Mid.set, mx_fold, PV.flat, flats, nrm1, nrm, Bool.true_and, Bool.and_true, Bool.and_self, ev, List.replicate, Option.map_some, Option.bind_some, Nat.reduceBEq, beq_self_eq_true, setD, List.set, puts, put, del, cellsTo, cells1, allP, lay, putIn, joinB, sub, overB, rep, Blk.mk, AV.cells, List.map, List.drop, List.take, List.cons_append, List.nil_append, List.append_nil, List.getD_cons_succ, List.getD_cons_zero, if_true, if_false, Bool.false_eq_true, reduceIte, wrap_i64, getI, takeI, dropI, setI, repI, Nat.mul_one, Nat.one_mul, Nat.zero_add, Nat.add_zero, Nat.zero_mul, Int.toNat_natCast, Int.reduceNeg, Int.reduceToNat, Nat.reduceAdd, Nat.reduceMul, Nat.reduceSub, decide_true, decide_false, Bool.not_true, Bool.not_false, cond_true, cond_false, gt_iff_lt, ge_iff_le, Int.reduceLT, Int.reduceLE, Int.lt_irrefl, Int.le_refl, List.length_set, List.length_map, *])) | (refine opsW_skip rfl ?_; simp only [setD, List.set]) | (refine opsW_nil ⟨?_, hKQ _ _ _ ?_⟩; (focus kernel_rfl); clear hKQ KQ; try simp only [seqK, blockK, loopG, List.length_cons, List.length_nil, Nat.reduceAdd, Nat.reduceMul]) | (refine opsW_nil (hKQ _ _ _ ?_); clear hKQ KQ; try simp only [seqK, blockK, loopG, List.length_cons, List.length_nil, Nat.reduceAdd, Nat.reduceMul]) | (refine WP_cond (t := true) rfl ?_; simp only [if_true]) | (refine WP_cond (t := false) rfl ?_; simp only [if_false, Bool.false_eq_true]) | (refine WP_skip ?_; simp only [seqK, blockK, loopG]) | (refine WP_ret ?_; simp only [seqK, blockK, loopG, Fin]) | (refine WP_exit ?_; simp only [seqK, blockK, loopG, reduceIte, Nat.reduceEqDiff]))
    (simp only [List.take_take, Nat.min_self, List.nil_append, Int.toNat_natCast, take_set_len, get, dropI, takeI, List.drop_zero, List.take_length, Nat.mul_one, Nat.reduceBEq, cond_true, cond_false, beq_self_eq_true, Option.map_some, Option.bind_some, Res, resAll, resOne, Fin, pack, frz, frzs, nrm1, nrm, Option.bind, Option.map, List.getD_cons_succ, List.getD_cons_zero, List.map, true_and, and_self, and_true]; first | exact ⟨_, rfl⟩ | (refine ⟨_, Option.some_inj.2 (Prod.ext ?_ rfl)⟩; simp only [List.take_take, Nat.min_self, List.nil_append, List.take_length, List.length_take, List.length_set, List.length_append, List.length_replicate, List.length_cons, List.length_nil, takeI, repI, setI, PV.tup.injEq, PV.lst.injEq, List.cons.injEq, and_true, true_and, *] <;> first | done | omega | (refine ⟨?_, ?_⟩ <;> first | rfl | omega)))
theorem begin_bad (f r c : Int) (x : Rt) (h : beginS f r c x ≠ 0) : Sound Try.prog 36 [Wt f r c, R x] (.tup [St 0 0 0 zR, I (beginS f r c x)]) := by
  have c1 := wet_Check.c f r c
  have c2 := rat_Valid.c x
  unfold beginS at *
  by_cases hc : checkS f r c = 0
  · rw [if_pos hc] at *
    rw [hc] at c1
    clear hc
    rcases white_cases x with ⟨h1, e⟩ | ⟨h1, h2, e⟩ | ⟨h1, h2, h3, e⟩ | ⟨h1, h2, h3, h4, e⟩ | ⟨h1, h2, h3, h4, e⟩
    case inr.inr.inr.inr => exact absurd e h
    all_goals
      rw [e]
      rw [h1] at c2
      clear e h h1
      obtain ⟨xn, xp, xq⟩ := x
      try dsimp only at h2 h3 h4
      try subst h2
      refine Sound.of_WP tok Try.func36 rfl rfl ?_; simp only [Try.f36, args0, List.map, List.length_cons, List.length_nil, Nat.reduceAdd, Nat.reduceSub, List.replicate, List.cons_append, List.nil_append]
      repeat' (first | refine WP_seq ?_ | refine WP_block ?_ | (refine WP_R 64 (by decide) fun KQ hKQ => ?_) | (refine WP_D 64 (by decide) ?_ fun KQ hKQ => ?_; (focus kernel_rfl)) | ((first | (refine opsW_op rfl rfl rfl ?_ rfl ?_; (first | exact trivial | omega | (dsimp only; omega) | (dsimp only; exact ⟨by omega, by omega, by omega⟩) | (simp only [Mid.len, Blk.cells, List.length_map, List.length_set, List.length_replicate, List.length_append, Nat.mul_one, Nat.zero_add, reduceCtorEq, List.length_cons, List.length_nil, List.length_take, List.length_drop, true_and, and_true, false_implies, implies_true]; first | done | omega) | (simp; done) | (simp; omega) | grind)) | (refine opsW_callP (qs := ?_) (rd := ?_) (u := ?_) (c1) rfl rfl rfl ?_ ?_ ?_ ?_ ?_; rotate_right 6; (focus rfl); (focus (first | rfl | (simp only [nrm1, nrm, List.map, List.drop_zero, Nat.mul_one, takeI, dropI, List.take_length]; done) | (simp only [nrm1, nrm, List.map, List.drop_zero, Nat.mul_one, takeI, dropI, List.take_length]; rfl))); rotate_left 1; (focus rfl); (focus rfl); rotate_right 0) | (refine opsW_callP (qs := ?_) (rd := ?_) (u := ?_) (c2) rfl rfl rfl ?_ ?_ ?_ ?_ ?_; rotate_right 6; (focus rfl); (focus (first | rfl | (simp only [nrm1, nrm, List.map, List.drop_zero, Nat.mul_one, takeI, dropI, List.take_length]; done) | (simp only [nrm1, nrm, List.map, List.drop_zero, Nat.mul_one, takeI, dropI, List.take_length]; rfl))); rotate_left 1; (focus rfl); (focus rfl); rotate_right 0)); (try simp only [Mid.get, Mid.set, mx_fold, PV.flat, flats, nrm1, nrm, Bool.true_and, Bool.and_true, Bool.and_self, ev, List.replicate, Option.map_some, Option.bind_some, Nat.reduceBEq, beq_self_eq_true, setD, List.set, puts, put, del, cellsTo, cells1, allP, lay, putIn, joinB, sub, overB, rep, Blk.mk, AV.cells, List.map, List.drop, List.take, List.cons_append, List.nil_append, List.append_nil, List.getD_cons_succ, List.getD_cons_zero, if_true, if_false, Bool.false_eq_true, reduceIte, wrap_i64, getI, takeI, dropI, setI, repI, Nat.mul_one, Nat.one_mul, Nat.zero_add, Nat.add_zero, Nat.zero_mul, Int.toNat_natCast, Int.reduceNeg, Int.reduceToNat, Nat.reduceAdd, Nat.reduceMul, Nat.reduceSub, decide_true, decide_false, Bool.not_true, Bool.not_false, cond_true, cond_false, gt_iff_lt, ge_iff_le, Int.reduceLT, Int.reduceLE, Int.lt_irrefl, Int.le_refl, List.length_set, List.length_map, *])) | (refine opsW_skip rfl ?_; simp only [setD, List.set]) | (refine opsW_nil ⟨?_, hKQ _ _ _ ?_⟩; (focus kernel_rfl); clear hKQ KQ; try simp only [seqK, blockK, loopG, List.length_cons, List.length_nil, Nat.reduceAdd, Nat.reduceMul]) | (refine opsW_nil (hKQ _ _ _ ?_); clear hKQ KQ; try simp only [seqK, blockK, loopG, List.length_cons, List.length_nil, Nat.reduceAdd, Nat.reduceMul]) | (refine WP_cond (t := true) rfl ?_; simp only [if_true]) | (refine WP_cond (t := false) rfl ?_; simp only [if_false, Bool.false_eq_true]) | (refine WP_skip ?_; simp only [seqK, blockK, loopG]) | (refine WP_ret ?_; simp only [seqK, blockK, loopG, Fin]) | (refine WP_exit ?_; simp only [seqK, blockK, loopG, reduceIte, Nat.reduceEqDiff]))
      (refine Res_of rfl ?_ ?_; (focus (first | (refine ⟨⟨?_, ?_⟩, trivial⟩ <;> first | exact Nat.le_of_ble_eq_true rfl | (refine Nat.le_of_ble_eq_true ?_; kernel_rfl) | (intro hh; cases hh)) | (refine ⟨⟨?_, ?_⟩, trivial, trivial⟩ <;> first | (refine Nat.le_of_ble_eq_true ?_; kernel_rfl) | (intro hh; cases hh)) | (refine ⟨⟨?_, ?_⟩, trivial⟩ <;> decide) | (refine ⟨⟨?_, ?_⟩, ⟨trivial, trivial⟩⟩ <;> decide) | decide | (simp [Blk.cells]; done))); exact ⟨_, rfl⟩)
  · rw [if_neg hc] at *
    generalize checkS f r c = e at *
    refine Sound.of_WP tok Try.func36 rfl rfl ?_; simp only [Try.f36, args0, List.map, List.length_cons, List.length_nil, Nat.reduceAdd, Nat.reduceSub, List.replicate, List.cons_append, List.nil_append]
    repeat' (first | refine WP_seq ?_ | refine WP_block ?_ | (refine WP_R 64 (by decide) fun KQ hKQ => ?_) | (refine WP_D 64 (by decide) ?_ fun KQ hKQ => ?_; (focus kernel_rfl)) | ((first | (refine opsW_op rfl rfl rfl ?_ rfl ?_; (first | exact trivial | omega | (dsimp only; omega) | (dsimp only; exact ⟨by omega, by omega, by omega⟩) | (simp only [Mid.len, Blk.cells, List.length_map, List.length_set, List.length_replicate, List.length_append, Nat.mul_one, Nat.zero_add, reduceCtorEq, List.length_cons, List.length_nil, List.length_take, List.length_drop, true_and, and_true, false_implies, implies_true]; first | done | omega) | (simp; done) | (simp; omega) | grind)) | (refine opsW_callP (qs := ?_) (rd := ?_) (u := ?_) (c1) rfl rfl rfl ?_ ?_ ?_ ?_ ?_; rotate_right 6; (focus rfl); (focus (first | rfl | (simp only [nrm1, nrm, List.map, List.drop_zero, Nat.mul_one, takeI, dropI, List.take_length]; done) | (simp only [nrm1, nrm, List.map, List.drop_zero, Nat.mul_one, takeI, dropI, List.take_length]; rfl))); rotate_left 1; (focus rfl); (focus rfl); rotate_right 0)); (try simp only [Mid.get, Mid.set, mx_fold, PV.flat, flats, nrm1, nrm, Bool.true_and, Bool.and_true, Bool.and_self, ev, List.replicate, Option.map_some, Option.bind_some, Nat.reduceBEq, beq_self_eq_true, setD, List.set, puts, put, del, cellsTo, cells1, allP, lay, putIn, joinB, sub, overB, rep, Blk.mk, AV.cells, List.map, List.drop, List.take, List.cons_append, List.nil_append, List.append_nil, List.getD_cons_succ, List.getD_cons_zero, if_true, if_false, Bool.false_eq_true, reduceIte, wrap_i64, getI, takeI, dropI, setI, repI, Nat.mul_one, Nat.one_mul, Nat.zero_add, Nat.add_zero, Nat.zero_mul, Int.toNat_natCast, Int.reduceNeg, Int.reduceToNat, Nat.reduceAdd, Nat.reduceMul, Nat.reduceSub, decide_true, decide_false, Bool.not_true, Bool.not_false, cond_true, cond_false, gt_iff_lt, ge_iff_le, Int.reduceLT, Int.reduceLE, Int.lt_irrefl, Int.le_refl, List.length_set, List.length_map, *])) | (refine opsW_skip rfl ?_; simp only [setD, List.set]) | (refine opsW_nil ⟨?_, hKQ _ _ _ ?_⟩; (focus kernel_rfl); clear hKQ KQ; try simp only [seqK, blockK, loopG, List.length_cons, List.length_nil, Nat.reduceAdd, Nat.reduceMul]) | (refine opsW_nil (hKQ _ _ _ ?_); clear hKQ KQ; try simp only [seqK, blockK, loopG, List.length_cons, List.length_nil, Nat.reduceAdd, Nat.reduceMul]) | (refine WP_cond (t := true) rfl ?_; simp only [if_true]) | (refine WP_cond (t := false) rfl ?_; simp only [if_false, Bool.false_eq_true]) | (refine WP_skip ?_; simp only [seqK, blockK, loopG]) | (refine WP_ret ?_; simp only [seqK, blockK, loopG, Fin]) | (refine WP_exit ?_; simp only [seqK, blockK, loopG, reduceIte, Nat.reduceEqDiff]))
    (refine Res_of rfl ?_ ?_; (focus (first | (refine ⟨⟨?_, ?_⟩, trivial⟩ <;> first | exact Nat.le_of_ble_eq_true rfl | (refine Nat.le_of_ble_eq_true ?_; kernel_rfl) | (intro hh; cases hh)) | (refine ⟨⟨?_, ?_⟩, trivial, trivial⟩ <;> first | (refine Nat.le_of_ble_eq_true ?_; kernel_rfl) | (intro hh; cases hh)) | (refine ⟨⟨?_, ?_⟩, trivial⟩ <;> decide) | (refine ⟨⟨?_, ?_⟩, ⟨trivial, trivial⟩⟩ <;> decide) | decide | (simp [Blk.cells]; done))); exact ⟨_, rfl⟩)
theorem begin_ok (f r c : Int) (x : Rt) (h : beginS f r c x = 0) : Sound Try.prog 36 [Wt f r c, R x] (.tup [St f r c x, I 0]) := by
  have c1 := wet_Check.c f r c
  have c2 := rat_Valid.c x
  unfold beginS at h
  by_cases hc : checkS f r c = 0
  · rw [if_pos hc] at h
    rw [hc] at c1
    clear hc
    rcases white_cases x with ⟨h1, e⟩ | ⟨h1, h2, e⟩ | ⟨h1, h2, h3, e⟩ | ⟨h1, h2, h3, h4, e⟩ | ⟨h1, h2, h3, h4, e⟩
    case inr.inr.inr.inr =>
      rw [h1] at c2
      clear e h h1
      obtain ⟨xn, xp, xq⟩ := x
      dsimp only at h2 h3 h4
      subst h2
      refine Sound.of_WP tok Try.func36 rfl rfl ?_; simp only [Try.f36, args0, List.map, List.length_cons, List.length_nil, Nat.reduceAdd, Nat.reduceSub, List.replicate, List.cons_append, List.nil_append]
      repeat' (first | refine WP_seq ?_ | refine WP_block ?_ | (refine WP_R 64 (by decide) fun KQ hKQ => ?_) | (refine WP_D 64 (by decide) ?_ fun KQ hKQ => ?_; (focus kernel_rfl)) | ((first | (refine opsW_op rfl rfl rfl ?_ rfl ?_; (first | exact trivial | omega | (dsimp only; omega) | (dsimp only; exact ⟨by omega, by omega, by omega⟩) | (simp only [Mid.len, Blk.cells, List.length_map, List.length_set, List.length_replicate, List.length_append, Nat.mul_one, Nat.zero_add, reduceCtorEq, List.length_cons, List.length_nil, List.length_take, List.length_drop, true_and, and_true, false_implies, implies_true]; first | done | omega) | (simp; done) | (simp; omega) | grind)) | (refine opsW_callP (qs := ?_) (rd := ?_) (u := ?_) (c1) rfl rfl rfl ?_ ?_ ?_ ?_ ?_; rotate_right 6; (focus rfl); (focus (first | rfl | (simp only [nrm1, nrm, List.map, List.drop_zero, Nat.mul_one, takeI, dropI, List.take_length]; done) | (simp only [nrm1, nrm, List.map, List.drop_zero, Nat.mul_one, takeI, dropI, List.take_length]; rfl))); rotate_left 1; (focus rfl); (focus rfl); rotate_right 0) | (refine opsW_callP (qs := ?_) (rd := ?_) (u := ?_) (c2) rfl rfl rfl ?_ ?_ ?_ ?_ ?_; rotate_right 6; (focus rfl); (focus (first | rfl | (simp only [nrm1, nrm, List.map, List.drop_zero, Nat.mul_one, takeI, dropI, List.take_length]; done) | (simp only [nrm1, nrm, List.map, List.drop_zero, Nat.mul_one, takeI, dropI, List.take_length]; rfl))); rotate_left 1; (focus rfl); (focus rfl); rotate_right 0)); (try simp only [Mid.get, Mid.set, mx_fold, PV.flat, flats, nrm1, nrm, Bool.true_and, Bool.and_true, Bool.and_self, ev, List.replicate, Option.map_some, Option.bind_some, Nat.reduceBEq, beq_self_eq_true, setD, List.set, puts, put, del, cellsTo, cells1, allP, lay, putIn, joinB, sub, overB, rep, Blk.mk, AV.cells, List.map, List.drop, List.take, List.cons_append, List.nil_append, List.append_nil, List.getD_cons_succ, List.getD_cons_zero, if_true, if_false, Bool.false_eq_true, reduceIte, wrap_i64, getI, takeI, dropI, setI, repI, Nat.mul_one, Nat.one_mul, Nat.zero_add, Nat.add_zero, Nat.zero_mul, Int.toNat_natCast, Int.reduceNeg, Int.reduceToNat, Nat.reduceAdd, Nat.reduceMul, Nat.reduceSub, decide_true, decide_false, Bool.not_true, Bool.not_false, cond_true, cond_false, gt_iff_lt, ge_iff_le, Int.reduceLT, Int.reduceLE, Int.lt_irrefl, Int.le_refl, List.length_set, List.length_map, *])) | (refine opsW_skip rfl ?_; simp only [setD, List.set]) | (refine opsW_nil ⟨?_, hKQ _ _ _ ?_⟩; (focus kernel_rfl); clear hKQ KQ; try simp only [seqK, blockK, loopG, List.length_cons, List.length_nil, Nat.reduceAdd, Nat.reduceMul]) | (refine opsW_nil (hKQ _ _ _ ?_); clear hKQ KQ; try simp only [seqK, blockK, loopG, List.length_cons, List.length_nil, Nat.reduceAdd, Nat.reduceMul]) | (refine WP_cond (t := true) rfl ?_; simp only [if_true]) | (refine WP_cond (t := false) rfl ?_; simp only [if_false, Bool.false_eq_true]) | (refine WP_skip ?_; simp only [seqK, blockK, loopG]) | (refine WP_ret ?_; simp only [seqK, blockK, loopG, Fin]) | (refine WP_exit ?_; simp only [seqK, blockK, loopG, reduceIte, Nat.reduceEqDiff]))
      (refine Res_of rfl ?_ ?_; (focus (first | (refine ⟨⟨?_, ?_⟩, trivial⟩ <;> first | exact Nat.le_of_ble_eq_true rfl | (refine Nat.le_of_ble_eq_true ?_; kernel_rfl) | (intro hh; cases hh)) | (refine ⟨⟨?_, ?_⟩, trivial, trivial⟩ <;> first | (refine Nat.le_of_ble_eq_true ?_; kernel_rfl) | (intro hh; cases hh)) | (refine ⟨⟨?_, ?_⟩, trivial⟩ <;> decide) | (refine ⟨⟨?_, ?_⟩, ⟨trivial, trivial⟩⟩ <;> decide) | decide | (simp [Blk.cells]; done))); exact ⟨_, rfl⟩)
    all_goals (exact absurd (e.symm.trans h) (by decide))
  · rw [if_neg hc] at h
    exact absurd h hc
end Go.Proofs.Ytbjamhkhocjdkaa.Pw
namespace Go.Proofs.Ytbjamhkhocjdkaa.Pw
open Go Wd Px Mat
set_option linter.unusedVariables false
set_option linter.unusedSimpArgs false
set_option maxRecDepth 100000
set_option maxHeartbeats 8000000
attribute [local irreducible] Int.tmod Int.tdiv
theorem wet_done.c (f r c : Int) (x : Rt) : Sound Try.prog 37 [St f r c x] (.tup [R (doneR f r c x).1, R (doneR f r c x).2.1, R (doneR f r c x).2.2]) := by
  have c1 := rat_Of.c f
  have c2 := rat_Add.c (makeS f 1).1 x
  have c3 := rat_Make.c r 1000
  have c4 := rat_Mul.c (addR (makeS f 1).1 x).1 (makeS r 1000).1
  have c5 := rat_Sub.c (addR (makeS f 1).1 x).1 (mulR (addR (makeS f 1).1 x).1 (makeS r 1000).1).1
  unfold doneR timesR
  dsimp only
  generalize makeS f 1 = F at *
  generalize makeS r 1000 = t at *
  generalize addR F.1 x = h at *
  generalize mulR h.1 t.1 = p at *
  generalize subR h.1 p.1 = s at *
  have c6 := rat_Make.c c 1000
  generalize makeS c 1000 = u at *
  have c7 := rat_Mul.c s.1 u.1
  generalize mulR s.1 u.1 = v at *
  have c8 := rat_Sub.c s.1 v.1
  generalize subR s.1 v.1 = z at *
  obtain ⟨xn, xp, xq⟩ := x
  obtain ⟨⟨Fn, Fp, Fq⟩, Fe⟩ := F; obtain ⟨⟨tn, tp, tq⟩, te⟩ := t; obtain ⟨⟨hn, hp, hq⟩, he⟩ := h; obtain ⟨⟨pn, pp, pq⟩, pe⟩ := p; obtain ⟨⟨sn, sp, sq⟩, se⟩ := s; obtain ⟨⟨un, up, uq⟩, ue⟩ := u; obtain ⟨⟨vn, vp, vq⟩, ve⟩ := v; obtain ⟨⟨zn, zp, zq⟩, ze⟩ := z
  dsimp only at *
  exact runL tok mixed [32, 50, 52, 53, 49] 300 6 (Good.cons c1 (Good.cons c2 (Good.cons c3 (Good.cons c4 (Good.cons c5 (Good.cons c6 (Good.cons c7 (Good.cons c8 Good.nil)))))))) (by kernel_rfl)
theorem r20_step.c (f r c : Int) (x : Rt) (hc : checkS f r c = 0) : Sound Try.prog 38 [Wt f r c, R x] (.tup [R (doneR f r c x).1, R (doneR f r c x).2.1, R (doneR f r c x).2.2]) := by
  have c1 := r3_Of.c f (by have := checkS_zero hc; omega)
  have c2 := r3_Add.c (makeS f 1).1 x
  have c3 := r3_Make.c r 1000 (by have := checkS_zero hc; omega) (by decide)
  have c4 := r3_Mul.c (addR (makeS f 1).1 x).1 (makeS r 1000).1
  have c5 := r3_Sub.c (addR (makeS f 1).1 x).1 (mulR (addR (makeS f 1).1 x).1 (makeS r 1000).1).1
  unfold doneR timesR
  dsimp only
  generalize makeS f 1 = F at *
  generalize makeS r 1000 = t at *
  generalize addR F.1 x = h at *
  generalize mulR h.1 t.1 = p at *
  generalize subR h.1 p.1 = s at *
  have c6 := r3_Make.c c 1000 (by have := checkS_zero hc; omega) (by decide)
  generalize makeS c 1000 = u at *
  have c7 := r3_Mul.c s.1 u.1
  generalize mulR s.1 u.1 = v at *
  have c8 := r3_Sub.c s.1 v.1
  generalize subR s.1 v.1 = z at *
  obtain ⟨xn, xp, xq⟩ := x
  obtain ⟨⟨Fn, Fp, Fq⟩, Fe⟩ := F; obtain ⟨⟨tn, tp, tq⟩, te⟩ := t; obtain ⟨⟨hn, hp, hq⟩, he⟩ := h; obtain ⟨⟨pn, pp, pq⟩, pe⟩ := p; obtain ⟨⟨sn, sp, sq⟩, se⟩ := s; obtain ⟨⟨un, up, uq⟩, ue⟩ := u; obtain ⟨⟨vn, vp, vq⟩, ve⟩ := v; obtain ⟨⟨zn, zp, zq⟩, ze⟩ := z
  dsimp only at *
  exact runL tok mixed [33, 27, 25, 28, 29] 300 6 (Good.cons c1 (Good.cons c2 (Good.cons c3 (Good.cons c4 (Good.cons c5 (Good.cons c6 (Good.cons c7 (Good.cons c8 Good.nil)))))))) (by kernel_rfl)
theorem wet_Step.bad (f r c : Int) (x : Rt) (h : beginS f r c x ≠ 0) : Sound Try.prog 17 [Wt f r c, R x] (.tup [R zR, R zR, R zR, I (beginS f r c x)]) := by
  have c1 := begin_bad f r c x h
  generalize beginS f r c x = e at *
  refine Sound.of_WP tok Try.func17 rfl rfl ?_; simp only [Try.f17, args0, List.map, List.length_cons, List.length_nil, Nat.reduceAdd, Nat.reduceSub, List.replicate, List.cons_append, List.nil_append]
  repeat' (first | refine WP_seq ?_ | refine WP_block ?_ | (refine WP_R 64 (by decide) fun KQ hKQ => ?_) | (refine WP_D 64 (by decide) ?_ fun KQ hKQ => ?_; (focus kernel_rfl)) | ((first | (refine opsW_op rfl rfl rfl ?_ rfl ?_; (first | exact trivial | omega | (dsimp only; omega) | (dsimp only; exact ⟨by omega, by omega, by omega⟩) | (simp only [Mid.len, Blk.cells, List.length_map, List.length_set, List.length_replicate, List.length_append, Nat.mul_one, Nat.zero_add, reduceCtorEq, List.length_cons, List.length_nil, List.length_take, List.length_drop, true_and, and_true, false_implies, implies_true]; first | done | omega) | (simp; done) | (simp; omega) | grind)) | (refine opsW_callP (qs := ?_) (rd := ?_) (u := ?_) (c1) rfl rfl rfl ?_ ?_ ?_ ?_ ?_; rotate_right 6; (focus rfl); (focus (first | rfl | (simp only [nrm1, nrm, List.map, List.drop_zero, Nat.mul_one, takeI, dropI, List.take_length]; done) | (simp only [nrm1, nrm, List.map, List.drop_zero, Nat.mul_one, takeI, dropI, List.take_length]; rfl))); rotate_left 1; (focus rfl); (focus rfl); rotate_right 0)); (try simp only [Mid.get, Mid.set, mx_fold, PV.flat, flats, nrm1, nrm, Bool.true_and, Bool.and_true, Bool.and_self, ev, List.replicate, Option.map_some, Option.bind_some, Nat.reduceBEq, beq_self_eq_true, setD, List.set, puts, put, del, cellsTo, cells1, allP, lay, putIn, joinB, sub, overB, rep, Blk.mk, AV.cells, List.map, List.drop, List.take, List.cons_append, List.nil_append, List.append_nil, List.getD_cons_succ, List.getD_cons_zero, if_true, if_false, Bool.false_eq_true, reduceIte, wrap_i64, getI, takeI, dropI, setI, repI, Nat.mul_one, Nat.one_mul, Nat.zero_add, Nat.add_zero, Nat.zero_mul, Int.toNat_natCast, Int.reduceNeg, Int.reduceToNat, Nat.reduceAdd, Nat.reduceMul, Nat.reduceSub, decide_true, decide_false, Bool.not_true, Bool.not_false, cond_true, cond_false, gt_iff_lt, ge_iff_le, Int.reduceLT, Int.reduceLE, Int.lt_irrefl, Int.le_refl, List.length_set, List.length_map, *])) | (refine opsW_skip rfl ?_; simp only [setD, List.set]) | (refine opsW_nil ⟨?_, hKQ _ _ _ ?_⟩; (focus kernel_rfl); clear hKQ KQ; try simp only [seqK, blockK, loopG, List.length_cons, List.length_nil, Nat.reduceAdd, Nat.reduceMul]) | (refine opsW_nil (hKQ _ _ _ ?_); clear hKQ KQ; try simp only [seqK, blockK, loopG, List.length_cons, List.length_nil, Nat.reduceAdd, Nat.reduceMul]) | (refine WP_cond (t := true) rfl ?_; simp only [if_true]) | (refine WP_cond (t := false) rfl ?_; simp only [if_false, Bool.false_eq_true]) | (refine WP_skip ?_; simp only [seqK, blockK, loopG]) | (refine WP_ret ?_; simp only [seqK, blockK, loopG, Fin]) | (refine WP_exit ?_; simp only [seqK, blockK, loopG, reduceIte, Nat.reduceEqDiff]))
  (refine Res_of rfl ?_ ?_; (focus (first | (refine ⟨⟨?_, ?_⟩, trivial⟩ <;> first | exact Nat.le_of_ble_eq_true rfl | (refine Nat.le_of_ble_eq_true ?_; kernel_rfl) | (intro hh; cases hh)) | (refine ⟨⟨?_, ?_⟩, trivial, trivial⟩ <;> first | (refine Nat.le_of_ble_eq_true ?_; kernel_rfl) | (intro hh; cases hh)) | (refine ⟨⟨?_, ?_⟩, trivial⟩ <;> decide) | (refine ⟨⟨?_, ?_⟩, ⟨trivial, trivial⟩⟩ <;> decide) | decide | (simp [Blk.cells]; done))); exact ⟨_, rfl⟩)
theorem wet_Step.ok (f r c : Int) (x : Rt) (h : beginS f r c x = 0) : Sound Try.prog 17 [Wt f r c, R x] (.tup [R (doneR f r c x).1, R (doneR f r c x).2.1, R (doneR f r c x).2.2, I 0]) := by
  have c1 := begin_ok f r c x h
  have c2 := wet_done.c f r c x
  generalize doneR f r c x = z at *
  clear h
  obtain ⟨xn, xp, xq⟩ := x
  obtain ⟨⟨an, ap, aq⟩, ⟨bn, bp, bq⟩, ⟨cn, cp, cq⟩⟩ := z
  exact runL tok mixed [36, 37] 300 6 (Good.cons c1 (Good.cons c2 Good.nil)) (by kernel_rfl)
theorem r20_Step.bad (f r c : Int) (x : Rt) (h : beginS f r c x ≠ 0) : Sound Try.prog 18 [Wt f r c, R x] (.tup [R zR, R zR, R zR, I (beginS f r c x)]) := by
  have c1 := r20_Check.c f r c
  have c2 := r20_White.c x
  unfold beginS at *
  by_cases hc : checkS f r c = 0
  · rw [if_pos hc] at *
    rw [hc] at c1
    generalize whiteS x = e at *
    refine Sound.of_WP tok Try.func18 rfl rfl ?_; simp only [Try.f18, args0, List.map, List.length_cons, List.length_nil, Nat.reduceAdd, Nat.reduceSub, List.replicate, List.cons_append, List.nil_append]
    repeat' (first | refine WP_seq ?_ | refine WP_block ?_ | (refine WP_R 64 (by decide) fun KQ hKQ => ?_) | (refine WP_D 64 (by decide) ?_ fun KQ hKQ => ?_; (focus kernel_rfl)) | ((first | (refine opsW_op rfl rfl rfl ?_ rfl ?_; (first | exact trivial | omega | (dsimp only; omega) | (dsimp only; exact ⟨by omega, by omega, by omega⟩) | (simp only [Mid.len, Blk.cells, List.length_map, List.length_set, List.length_replicate, List.length_append, Nat.mul_one, Nat.zero_add, reduceCtorEq, List.length_cons, List.length_nil, List.length_take, List.length_drop, true_and, and_true, false_implies, implies_true]; first | done | omega) | (simp; done) | (simp; omega) | grind)) | (refine opsW_callP (qs := ?_) (rd := ?_) (u := ?_) (c1) rfl rfl rfl ?_ ?_ ?_ ?_ ?_; rotate_right 6; (focus rfl); (focus (first | rfl | (simp only [nrm1, nrm, List.map, List.drop_zero, Nat.mul_one, takeI, dropI, List.take_length]; done) | (simp only [nrm1, nrm, List.map, List.drop_zero, Nat.mul_one, takeI, dropI, List.take_length]; rfl))); rotate_left 1; (focus rfl); (focus rfl); rotate_right 0) | (refine opsW_callP (qs := ?_) (rd := ?_) (u := ?_) (c2) rfl rfl rfl ?_ ?_ ?_ ?_ ?_; rotate_right 6; (focus rfl); (focus (first | rfl | (simp only [nrm1, nrm, List.map, List.drop_zero, Nat.mul_one, takeI, dropI, List.take_length]; done) | (simp only [nrm1, nrm, List.map, List.drop_zero, Nat.mul_one, takeI, dropI, List.take_length]; rfl))); rotate_left 1; (focus rfl); (focus rfl); rotate_right 0)); (try simp only [Mid.get, Mid.set, mx_fold, PV.flat, flats, nrm1, nrm, Bool.true_and, Bool.and_true, Bool.and_self, ev, List.replicate, Option.map_some, Option.bind_some, Nat.reduceBEq, beq_self_eq_true, setD, List.set, puts, put, del, cellsTo, cells1, allP, lay, putIn, joinB, sub, overB, rep, Blk.mk, AV.cells, List.map, List.drop, List.take, List.cons_append, List.nil_append, List.append_nil, List.getD_cons_succ, List.getD_cons_zero, if_true, if_false, Bool.false_eq_true, reduceIte, wrap_i64, getI, takeI, dropI, setI, repI, Nat.mul_one, Nat.one_mul, Nat.zero_add, Nat.add_zero, Nat.zero_mul, Int.toNat_natCast, Int.reduceNeg, Int.reduceToNat, Nat.reduceAdd, Nat.reduceMul, Nat.reduceSub, decide_true, decide_false, Bool.not_true, Bool.not_false, cond_true, cond_false, gt_iff_lt, ge_iff_le, Int.reduceLT, Int.reduceLE, Int.lt_irrefl, Int.le_refl, List.length_set, List.length_map, *])) | (refine opsW_skip rfl ?_; simp only [setD, List.set]) | (refine opsW_nil ⟨?_, hKQ _ _ _ ?_⟩; (focus kernel_rfl); clear hKQ KQ; try simp only [seqK, blockK, loopG, List.length_cons, List.length_nil, Nat.reduceAdd, Nat.reduceMul]) | (refine opsW_nil (hKQ _ _ _ ?_); clear hKQ KQ; try simp only [seqK, blockK, loopG, List.length_cons, List.length_nil, Nat.reduceAdd, Nat.reduceMul]) | (refine WP_cond (t := true) rfl ?_; simp only [if_true]) | (refine WP_cond (t := false) rfl ?_; simp only [if_false, Bool.false_eq_true]) | (refine WP_skip ?_; simp only [seqK, blockK, loopG]) | (refine WP_ret ?_; simp only [seqK, blockK, loopG, Fin]) | (refine WP_exit ?_; simp only [seqK, blockK, loopG, reduceIte, Nat.reduceEqDiff]))
    (refine Res_of rfl ?_ ?_; (focus (first | (refine ⟨⟨?_, ?_⟩, trivial⟩ <;> first | exact Nat.le_of_ble_eq_true rfl | (refine Nat.le_of_ble_eq_true ?_; kernel_rfl) | (intro hh; cases hh)) | (refine ⟨⟨?_, ?_⟩, trivial, trivial⟩ <;> first | (refine Nat.le_of_ble_eq_true ?_; kernel_rfl) | (intro hh; cases hh)) | (refine ⟨⟨?_, ?_⟩, trivial⟩ <;> decide) | (refine ⟨⟨?_, ?_⟩, ⟨trivial, trivial⟩⟩ <;> decide) | decide | (simp [Blk.cells]; done))); exact ⟨_, rfl⟩)
  · rw [if_neg hc] at *
    generalize checkS f r c = e at *
    refine Sound.of_WP tok Try.func18 rfl rfl ?_; simp only [Try.f18, args0, List.map, List.length_cons, List.length_nil, Nat.reduceAdd, Nat.reduceSub, List.replicate, List.cons_append, List.nil_append]
    repeat' (first | refine WP_seq ?_ | refine WP_block ?_ | (refine WP_R 64 (by decide) fun KQ hKQ => ?_) | (refine WP_D 64 (by decide) ?_ fun KQ hKQ => ?_; (focus kernel_rfl)) | ((first | (refine opsW_op rfl rfl rfl ?_ rfl ?_; (first | exact trivial | omega | (dsimp only; omega) | (dsimp only; exact ⟨by omega, by omega, by omega⟩) | (simp only [Mid.len, Blk.cells, List.length_map, List.length_set, List.length_replicate, List.length_append, Nat.mul_one, Nat.zero_add, reduceCtorEq, List.length_cons, List.length_nil, List.length_take, List.length_drop, true_and, and_true, false_implies, implies_true]; first | done | omega) | (simp; done) | (simp; omega) | grind)) | (refine opsW_callP (qs := ?_) (rd := ?_) (u := ?_) (c1) rfl rfl rfl ?_ ?_ ?_ ?_ ?_; rotate_right 6; (focus rfl); (focus (first | rfl | (simp only [nrm1, nrm, List.map, List.drop_zero, Nat.mul_one, takeI, dropI, List.take_length]; done) | (simp only [nrm1, nrm, List.map, List.drop_zero, Nat.mul_one, takeI, dropI, List.take_length]; rfl))); rotate_left 1; (focus rfl); (focus rfl); rotate_right 0)); (try simp only [Mid.get, Mid.set, mx_fold, PV.flat, flats, nrm1, nrm, Bool.true_and, Bool.and_true, Bool.and_self, ev, List.replicate, Option.map_some, Option.bind_some, Nat.reduceBEq, beq_self_eq_true, setD, List.set, puts, put, del, cellsTo, cells1, allP, lay, putIn, joinB, sub, overB, rep, Blk.mk, AV.cells, List.map, List.drop, List.take, List.cons_append, List.nil_append, List.append_nil, List.getD_cons_succ, List.getD_cons_zero, if_true, if_false, Bool.false_eq_true, reduceIte, wrap_i64, getI, takeI, dropI, setI, repI, Nat.mul_one, Nat.one_mul, Nat.zero_add, Nat.add_zero, Nat.zero_mul, Int.toNat_natCast, Int.reduceNeg, Int.reduceToNat, Nat.reduceAdd, Nat.reduceMul, Nat.reduceSub, decide_true, decide_false, Bool.not_true, Bool.not_false, cond_true, cond_false, gt_iff_lt, ge_iff_le, Int.reduceLT, Int.reduceLE, Int.lt_irrefl, Int.le_refl, List.length_set, List.length_map, *])) | (refine opsW_skip rfl ?_; simp only [setD, List.set]) | (refine opsW_nil ⟨?_, hKQ _ _ _ ?_⟩; (focus kernel_rfl); clear hKQ KQ; try simp only [seqK, blockK, loopG, List.length_cons, List.length_nil, Nat.reduceAdd, Nat.reduceMul]) | (refine opsW_nil (hKQ _ _ _ ?_); clear hKQ KQ; try simp only [seqK, blockK, loopG, List.length_cons, List.length_nil, Nat.reduceAdd, Nat.reduceMul]) | (refine WP_cond (t := true) rfl ?_; simp only [if_true]) | (refine WP_cond (t := false) rfl ?_; simp only [if_false, Bool.false_eq_true]) | (refine WP_skip ?_; simp only [seqK, blockK, loopG]) | (refine WP_ret ?_; simp only [seqK, blockK, loopG, Fin]) | (refine WP_exit ?_; simp only [seqK, blockK, loopG, reduceIte, Nat.reduceEqDiff]))
    (refine Res_of rfl ?_ ?_; (focus (first | (refine ⟨⟨?_, ?_⟩, trivial⟩ <;> first | exact Nat.le_of_ble_eq_true rfl | (refine Nat.le_of_ble_eq_true ?_; kernel_rfl) | (intro hh; cases hh)) | (refine ⟨⟨?_, ?_⟩, trivial, trivial⟩ <;> first | (refine Nat.le_of_ble_eq_true ?_; kernel_rfl) | (intro hh; cases hh)) | (refine ⟨⟨?_, ?_⟩, trivial⟩ <;> decide) | (refine ⟨⟨?_, ?_⟩, ⟨trivial, trivial⟩⟩ <;> decide) | decide | (simp [Blk.cells]; done))); exact ⟨_, rfl⟩)
theorem begin_zero {f r c : Int} {x : Rt} (h : beginS f r c x = 0) : checkS f r c = 0 ∧ whiteS x = 0 := by
  unfold beginS at h
  by_cases hc : checkS f r c = 0
  · rw [if_pos hc] at h; exact ⟨hc, h⟩
  · rw [if_neg hc] at h; exact absurd h hc
theorem r20_Step.ok (f r c : Int) (x : Rt) (h : beginS f r c x = 0) : Sound Try.prog 18 [Wt f r c, R x] (.tup [R (doneR f r c x).1, R (doneR f r c x).2.1, R (doneR f r c x).2.2, I 0]) := by
  obtain ⟨h1, h2⟩ := begin_zero h
  have c1 := r20_Check.c f r c
  have c2 := r20_White.c x
  have c3 := r20_step.c f r c x h1
  rw [h1] at c1; rw [h2] at c2
  generalize doneR f r c x = z at *
  clear h h1 h2
  obtain ⟨xn, xp, xq⟩ := x
  obtain ⟨⟨an, ap, aq⟩, ⟨bn, bp, bq⟩, ⟨cn, cp, cq⟩⟩ := z
  exact runL tok mixed [13, 24, 38] 300 6 (Good.cons c1 (Good.cons c2 (Good.cons c3 Good.nil))) (by kernel_rfl)
end Go.Proofs.Ytbjamhkhocjdkaa.Pw
namespace Go.Proofs.Ytbjamhkhocjdkaa.Pw
open Go Wd Px Mat
set_option linter.unusedVariables false
set_option linter.unusedSimpArgs false
set_option maxRecDepth 100000
set_option maxHeartbeats 8000000
attribute [local irreducible] Int.tmod Int.tdiv
def steadyR (f r c : Int) : Rt := timesR (makeS f 1).1 ((1000 - r) * c) (1000000 - (1000 - r) * c)
theorem back_facts {f r c : Int} (h : checkS f r c = 0) : 0 ≤ (1000 - r) * c ∧ (1000 - r) * c ≤ 998001 := by
  obtain ⟨_, ⟨r1, r2⟩, c1, c2⟩ := checkS_zero h
  refine ⟨Int.mul_nonneg (by omega) c1, ?_⟩
  have h1 : (1000 - r) * c ≤ 999 * c := Int.mul_le_mul_of_nonneg_right (by omega) c1
  omega
theorem raw_back {f r c : Int} (h : checkS f r c = 0) : IntKind.i64.wrap (IntKind.i64.wrap (1000 - r) * c) = (1000 - r) * c ∧ IntKind.i64.wrap (1000000 - IntKind.i64.wrap (IntKind.i64.wrap (1000 - r) * c)) = 1000000 - (1000 - r) * c := by
  obtain ⟨_, ⟨r1, r2⟩, c1, c2⟩ := checkS_zero h
  obtain ⟨b1, b2⟩ := back_facts h
  have e1 : IntKind.i64.wrap (1000 - r) = 1000 - r := by rw [wrap_i64]; exact w64 (by omega) (by omega)
  have e2 : IntKind.i64.wrap ((1000 - r) * c) = (1000 - r) * c := by rw [wrap_i64]; exact w64 (by omega) (by omega)
  rw [e1, e2]
  refine ⟨rfl, ?_⟩
  rw [wrap_i64]; exact w64 (by omega) (by omega)
theorem wet_Steady.bad (f r c : Int) (h : checkS f r c ≠ 0) : Sound Try.prog 10 [Wt f r c] (.tup [R zR, I (checkS f r c)]) := by
  have c1 := wet_Check.c f r c
  generalize checkS f r c = e at *
  refine Sound.of_WP tok Try.func10 rfl rfl ?_; simp only [Try.f10, args0, List.map, List.length_cons, List.length_nil, Nat.reduceAdd, Nat.reduceSub, List.replicate, List.cons_append, List.nil_append]
  repeat' (first | refine WP_seq ?_ | refine WP_block ?_ | (refine WP_R 64 (by decide) fun KQ hKQ => ?_) | (refine WP_D 64 (by decide) ?_ fun KQ hKQ => ?_; (focus kernel_rfl)) | ((first | (refine opsW_op rfl rfl rfl ?_ rfl ?_; (first | exact trivial | omega | (dsimp only; omega) | (dsimp only; exact ⟨by omega, by omega, by omega⟩) | (simp only [Mid.len, Blk.cells, List.length_map, List.length_set, List.length_replicate, List.length_append, Nat.mul_one, Nat.zero_add, reduceCtorEq, List.length_cons, List.length_nil, List.length_take, List.length_drop, true_and, and_true, false_implies, implies_true]; first | done | omega) | (simp; done) | (simp; omega) | grind)) | (refine opsW_callP (qs := ?_) (rd := ?_) (u := ?_) (c1) rfl rfl rfl ?_ ?_ ?_ ?_ ?_; rotate_right 6; (focus rfl); (focus (first | rfl | (simp only [nrm1, nrm, List.map, List.drop_zero, Nat.mul_one, takeI, dropI, List.take_length]; done) | (simp only [nrm1, nrm, List.map, List.drop_zero, Nat.mul_one, takeI, dropI, List.take_length]; rfl))); rotate_left 1; (focus rfl); (focus rfl); rotate_right 0)); (try simp only [Mid.get, Mid.set, mx_fold, PV.flat, flats, nrm1, nrm, Bool.true_and, Bool.and_true, Bool.and_self, ev, List.replicate, Option.map_some, Option.bind_some, Nat.reduceBEq, beq_self_eq_true, setD, List.set, puts, put, del, cellsTo, cells1, allP, lay, putIn, joinB, sub, overB, rep, Blk.mk, AV.cells, List.map, List.drop, List.take, List.cons_append, List.nil_append, List.append_nil, List.getD_cons_succ, List.getD_cons_zero, if_true, if_false, Bool.false_eq_true, reduceIte, wrap_i64, getI, takeI, dropI, setI, repI, Nat.mul_one, Nat.one_mul, Nat.zero_add, Nat.add_zero, Nat.zero_mul, Int.toNat_natCast, Int.reduceNeg, Int.reduceToNat, Nat.reduceAdd, Nat.reduceMul, Nat.reduceSub, decide_true, decide_false, Bool.not_true, Bool.not_false, cond_true, cond_false, gt_iff_lt, ge_iff_le, Int.reduceLT, Int.reduceLE, Int.lt_irrefl, Int.le_refl, List.length_set, List.length_map, *])) | (refine opsW_skip rfl ?_; simp only [setD, List.set]) | (refine opsW_nil ⟨?_, hKQ _ _ _ ?_⟩; (focus kernel_rfl); clear hKQ KQ; try simp only [seqK, blockK, loopG, List.length_cons, List.length_nil, Nat.reduceAdd, Nat.reduceMul]) | (refine opsW_nil (hKQ _ _ _ ?_); clear hKQ KQ; try simp only [seqK, blockK, loopG, List.length_cons, List.length_nil, Nat.reduceAdd, Nat.reduceMul]) | (refine WP_cond (t := true) rfl ?_; simp only [if_true]) | (refine WP_cond (t := false) rfl ?_; simp only [if_false, Bool.false_eq_true]) | (refine WP_skip ?_; simp only [seqK, blockK, loopG]) | (refine WP_ret ?_; simp only [seqK, blockK, loopG, Fin]) | (refine WP_exit ?_; simp only [seqK, blockK, loopG, reduceIte, Nat.reduceEqDiff]))
  (refine Res_of rfl ?_ ?_; (focus (first | (refine ⟨⟨?_, ?_⟩, trivial⟩ <;> first | exact Nat.le_of_ble_eq_true rfl | (refine Nat.le_of_ble_eq_true ?_; kernel_rfl) | (intro hh; cases hh)) | (refine ⟨⟨?_, ?_⟩, trivial, trivial⟩ <;> first | (refine Nat.le_of_ble_eq_true ?_; kernel_rfl) | (intro hh; cases hh)) | (refine ⟨⟨?_, ?_⟩, trivial⟩ <;> decide) | (refine ⟨⟨?_, ?_⟩, ⟨trivial, trivial⟩⟩ <;> decide) | decide | (simp [Blk.cells]; done))); exact ⟨_, rfl⟩)
theorem r20_Steady.bad (f r c : Int) (h : checkS f r c ≠ 0) : Sound Try.prog 11 [Wt f r c] (.tup [R zR, I (checkS f r c)]) := by
  have c1 := r20_Check.c f r c
  generalize checkS f r c = e at *
  refine Sound.of_WP tok Try.func11 rfl rfl ?_; simp only [Try.f11, args0, List.map, List.length_cons, List.length_nil, Nat.reduceAdd, Nat.reduceSub, List.replicate, List.cons_append, List.nil_append]
  repeat' (first | refine WP_seq ?_ | refine WP_block ?_ | (refine WP_R 64 (by decide) fun KQ hKQ => ?_) | (refine WP_D 64 (by decide) ?_ fun KQ hKQ => ?_; (focus kernel_rfl)) | ((first | (refine opsW_op rfl rfl rfl ?_ rfl ?_; (first | exact trivial | omega | (dsimp only; omega) | (dsimp only; exact ⟨by omega, by omega, by omega⟩) | (simp only [Mid.len, Blk.cells, List.length_map, List.length_set, List.length_replicate, List.length_append, Nat.mul_one, Nat.zero_add, reduceCtorEq, List.length_cons, List.length_nil, List.length_take, List.length_drop, true_and, and_true, false_implies, implies_true]; first | done | omega) | (simp; done) | (simp; omega) | grind)) | (refine opsW_callP (qs := ?_) (rd := ?_) (u := ?_) (c1) rfl rfl rfl ?_ ?_ ?_ ?_ ?_; rotate_right 6; (focus rfl); (focus (first | rfl | (simp only [nrm1, nrm, List.map, List.drop_zero, Nat.mul_one, takeI, dropI, List.take_length]; done) | (simp only [nrm1, nrm, List.map, List.drop_zero, Nat.mul_one, takeI, dropI, List.take_length]; rfl))); rotate_left 1; (focus rfl); (focus rfl); rotate_right 0)); (try simp only [Mid.get, Mid.set, mx_fold, PV.flat, flats, nrm1, nrm, Bool.true_and, Bool.and_true, Bool.and_self, ev, List.replicate, Option.map_some, Option.bind_some, Nat.reduceBEq, beq_self_eq_true, setD, List.set, puts, put, del, cellsTo, cells1, allP, lay, putIn, joinB, sub, overB, rep, Blk.mk, AV.cells, List.map, List.drop, List.take, List.cons_append, List.nil_append, List.append_nil, List.getD_cons_succ, List.getD_cons_zero, if_true, if_false, Bool.false_eq_true, reduceIte, wrap_i64, getI, takeI, dropI, setI, repI, Nat.mul_one, Nat.one_mul, Nat.zero_add, Nat.add_zero, Nat.zero_mul, Int.toNat_natCast, Int.reduceNeg, Int.reduceToNat, Nat.reduceAdd, Nat.reduceMul, Nat.reduceSub, decide_true, decide_false, Bool.not_true, Bool.not_false, cond_true, cond_false, gt_iff_lt, ge_iff_le, Int.reduceLT, Int.reduceLE, Int.lt_irrefl, Int.le_refl, List.length_set, List.length_map, *])) | (refine opsW_skip rfl ?_; simp only [setD, List.set]) | (refine opsW_nil ⟨?_, hKQ _ _ _ ?_⟩; (focus kernel_rfl); clear hKQ KQ; try simp only [seqK, blockK, loopG, List.length_cons, List.length_nil, Nat.reduceAdd, Nat.reduceMul]) | (refine opsW_nil (hKQ _ _ _ ?_); clear hKQ KQ; try simp only [seqK, blockK, loopG, List.length_cons, List.length_nil, Nat.reduceAdd, Nat.reduceMul]) | (refine WP_cond (t := true) rfl ?_; simp only [if_true]) | (refine WP_cond (t := false) rfl ?_; simp only [if_false, Bool.false_eq_true]) | (refine WP_skip ?_; simp only [seqK, blockK, loopG]) | (refine WP_ret ?_; simp only [seqK, blockK, loopG, Fin]) | (refine WP_exit ?_; simp only [seqK, blockK, loopG, reduceIte, Nat.reduceEqDiff]))
  (refine Res_of rfl ?_ ?_; (focus (first | (refine ⟨⟨?_, ?_⟩, trivial⟩ <;> first | exact Nat.le_of_ble_eq_true rfl | (refine Nat.le_of_ble_eq_true ?_; kernel_rfl) | (intro hh; cases hh)) | (refine ⟨⟨?_, ?_⟩, trivial, trivial⟩ <;> first | (refine Nat.le_of_ble_eq_true ?_; kernel_rfl) | (intro hh; cases hh)) | (refine ⟨⟨?_, ?_⟩, trivial⟩ <;> decide) | (refine ⟨⟨?_, ?_⟩, ⟨trivial, trivial⟩⟩ <;> decide) | decide | (simp [Blk.cells]; done))); exact ⟨_, rfl⟩)
theorem wet_Steady.ok (f r c : Int) (h : checkS f r c = 0) : Sound Try.prog 10 [Wt f r c] (.tup [R (steadyR f r c), I 0]) := by
  have c1 := wet_Check.c f r c
  rw [h] at c1
  obtain ⟨hA, hB⟩ := raw_back h
  have c2 := rat_Of.c f
  have c3 := rat_Make.c (IntKind.i64.wrap (IntKind.i64.wrap (1000 - r) * c)) (IntKind.i64.wrap (1000000 - IntKind.i64.wrap (IntKind.i64.wrap (1000 - r) * c)))
  unfold steadyR timesR
  rw [show makeS ((1000 - r) * c) (1000000 - (1000 - r) * c) = makeS (IntKind.i64.wrap (IntKind.i64.wrap (1000 - r) * c)) (IntKind.i64.wrap (1000000 - IntKind.i64.wrap (IntKind.i64.wrap (1000 - r) * c))) by rw [hB, hA]]
  generalize makeS (IntKind.i64.wrap (IntKind.i64.wrap (1000 - r) * c)) (IntKind.i64.wrap (1000000 - IntKind.i64.wrap (IntKind.i64.wrap (1000 - r) * c))) = t at *
  generalize makeS f 1 = F at *
  have c4 := rat_Mul.c F.1 t.1
  generalize mulR F.1 t.1 = m at *
  clear hA hB h
  obtain ⟨⟨Fn, Fp, Fq⟩, Fe⟩ := F; obtain ⟨⟨tn, tp, tq⟩, te⟩ := t; obtain ⟨⟨mn, mp, mq⟩, me⟩ := m
  dsimp only at *
  exact runL tok mixed [12, 32, 50, 49] 300 6 (Good.cons c1 (Good.cons c2 (Good.cons c3 (Good.cons c4 Good.nil)))) (by kernel_rfl)
theorem r20_Steady.ok (f r c : Int) (h : checkS f r c = 0) : Sound Try.prog 11 [Wt f r c] (.tup [R (steadyR f r c), I 0]) := by
  have c1 := r20_Check.c f r c
  rw [h] at c1
  obtain ⟨hA, hB⟩ := raw_back h
  obtain ⟨b1, b2⟩ := back_facts h
  have c2 := r3_Of.c f (by have := checkS_zero h; omega)
  have c3 := r3_Make.c (IntKind.i64.wrap (IntKind.i64.wrap (1000 - r) * c)) (IntKind.i64.wrap (1000000 - IntKind.i64.wrap (IntKind.i64.wrap (1000 - r) * c))) (by omega) (by omega)
  unfold steadyR timesR
  rw [show makeS ((1000 - r) * c) (1000000 - (1000 - r) * c) = makeS (IntKind.i64.wrap (IntKind.i64.wrap (1000 - r) * c)) (IntKind.i64.wrap (1000000 - IntKind.i64.wrap (IntKind.i64.wrap (1000 - r) * c))) by rw [hB, hA]]
  generalize makeS (IntKind.i64.wrap (IntKind.i64.wrap (1000 - r) * c)) (IntKind.i64.wrap (1000000 - IntKind.i64.wrap (IntKind.i64.wrap (1000 - r) * c))) = t at *
  generalize makeS f 1 = F at *
  have c4 := r3_Mul.c F.1 t.1
  generalize mulR F.1 t.1 = m at *
  clear hA hB h b1 b2
  obtain ⟨⟨Fn, Fp, Fq⟩, Fe⟩ := F; obtain ⟨⟨tn, tp, tq⟩, te⟩ := t; obtain ⟨⟨mn, mp, mq⟩, me⟩ := m
  dsimp only at *
  exact runL tok mixed [13, 33, 27, 29] 300 6 (Good.cons c1 (Good.cons c3 (Good.cons c2 (Good.cons c4 Good.nil)))) (by kernel_rfl)
/-- The white water and the paper of all after some steps. -/
def itR (f r c : Int) : Nat → Rt → Rt → Rt × Rt
  | 0, x, a => (x, a)
  | n + 1, x, a => itR f r c n (doneR f r c x).2.2 (addR a (doneR f r c x).1).1
theorem wet_run.bad (f r c : Int) (x : Rt) (n : Int) (h : beginS f r c x ≠ 0) : Sound Try.prog 39 [Wt f r c, R x, I n] (.tup [R zR, R zR, I (beginS f r c x)]) := by
  have c1 := begin_bad f r c x h
  generalize beginS f r c x = e at *
  refine Sound.of_WP tok Try.func39 rfl rfl ?_; simp only [Try.f39, args0, List.map, List.length_cons, List.length_nil, Nat.reduceAdd, Nat.reduceSub, List.replicate, List.cons_append, List.nil_append]
  repeat' (first | refine WP_seq ?_ | refine WP_block ?_ | (refine WP_R 64 (by decide) fun KQ hKQ => ?_) | (refine WP_D 64 (by decide) ?_ fun KQ hKQ => ?_; (focus kernel_rfl)) | ((first | (refine opsW_op rfl rfl rfl ?_ rfl ?_; (first | exact trivial | omega | (dsimp only; omega) | (dsimp only; exact ⟨by omega, by omega, by omega⟩) | (simp only [Mid.len, Blk.cells, List.length_map, List.length_set, List.length_replicate, List.length_append, Nat.mul_one, Nat.zero_add, reduceCtorEq, List.length_cons, List.length_nil, List.length_take, List.length_drop, true_and, and_true, false_implies, implies_true]; first | done | omega) | (simp; done) | (simp; omega) | grind)) | (refine opsW_callP (qs := ?_) (rd := ?_) (u := ?_) (c1) rfl rfl rfl ?_ ?_ ?_ ?_ ?_; rotate_right 6; (focus rfl); (focus (first | rfl | (simp only [nrm1, nrm, List.map, List.drop_zero, Nat.mul_one, takeI, dropI, List.take_length]; done) | (simp only [nrm1, nrm, List.map, List.drop_zero, Nat.mul_one, takeI, dropI, List.take_length]; rfl))); rotate_left 1; (focus rfl); (focus rfl); rotate_right 0)); (try simp only [Mid.get, Mid.set, mx_fold, PV.flat, flats, nrm1, nrm, Bool.true_and, Bool.and_true, Bool.and_self, ev, List.replicate, Option.map_some, Option.bind_some, Nat.reduceBEq, beq_self_eq_true, setD, List.set, puts, put, del, cellsTo, cells1, allP, lay, putIn, joinB, sub, overB, rep, Blk.mk, AV.cells, List.map, List.drop, List.take, List.cons_append, List.nil_append, List.append_nil, List.getD_cons_succ, List.getD_cons_zero, if_true, if_false, Bool.false_eq_true, reduceIte, wrap_i64, getI, takeI, dropI, setI, repI, Nat.mul_one, Nat.one_mul, Nat.zero_add, Nat.add_zero, Nat.zero_mul, Int.toNat_natCast, Int.reduceNeg, Int.reduceToNat, Nat.reduceAdd, Nat.reduceMul, Nat.reduceSub, decide_true, decide_false, Bool.not_true, Bool.not_false, cond_true, cond_false, gt_iff_lt, ge_iff_le, Int.reduceLT, Int.reduceLE, Int.lt_irrefl, Int.le_refl, List.length_set, List.length_map, *])) | (refine opsW_skip rfl ?_; simp only [setD, List.set]) | (refine opsW_nil ⟨?_, hKQ _ _ _ ?_⟩; (focus kernel_rfl); clear hKQ KQ; try simp only [seqK, blockK, loopG, List.length_cons, List.length_nil, Nat.reduceAdd, Nat.reduceMul]) | (refine opsW_nil (hKQ _ _ _ ?_); clear hKQ KQ; try simp only [seqK, blockK, loopG, List.length_cons, List.length_nil, Nat.reduceAdd, Nat.reduceMul]) | (refine WP_cond (t := true) rfl ?_; simp only [if_true]) | (refine WP_cond (t := false) rfl ?_; simp only [if_false, Bool.false_eq_true]) | (refine WP_skip ?_; simp only [seqK, blockK, loopG]) | (refine WP_ret ?_; simp only [seqK, blockK, loopG, Fin]) | (refine WP_exit ?_; simp only [seqK, blockK, loopG, reduceIte, Nat.reduceEqDiff]))
  (refine Res_of rfl ?_ ?_; (focus (first | (refine ⟨⟨?_, ?_⟩, trivial⟩ <;> first | exact Nat.le_of_ble_eq_true rfl | (refine Nat.le_of_ble_eq_true ?_; kernel_rfl) | (intro hh; cases hh)) | (refine ⟨⟨?_, ?_⟩, trivial, trivial⟩ <;> first | (refine Nat.le_of_ble_eq_true ?_; kernel_rfl) | (intro hh; cases hh)) | (refine ⟨⟨?_, ?_⟩, trivial⟩ <;> decide) | (refine ⟨⟨?_, ?_⟩, ⟨trivial, trivial⟩⟩ <;> decide) | decide | (simp [Blk.cells]; done))); exact ⟨_, rfl⟩)
theorem wet_run.out (f r c : Int) (x : Rt) (n : Int) (h : beginS f r c x = 0) (hn : n < 0 ∨ (¬ n < 0 ∧ 16 < n)) : Sound Try.prog 39 [Wt f r c, R x, I n] (.tup [R zR, R zR, I 1]) := by
  have c1 := begin_ok f r c x h
  clear h
  rcases hn with h1 | ⟨h1, h2⟩
  all_goals
    refine Sound.of_WP tok Try.func39 rfl rfl ?_; simp only [Try.f39, args0, List.map, List.length_cons, List.length_nil, Nat.reduceAdd, Nat.reduceSub, List.replicate, List.cons_append, List.nil_append]
    repeat' (first | refine WP_seq ?_ | refine WP_block ?_ | (refine WP_R 64 (by decide) fun KQ hKQ => ?_) | (refine WP_D 64 (by decide) ?_ fun KQ hKQ => ?_; (focus kernel_rfl)) | ((first | (refine opsW_op rfl rfl rfl ?_ rfl ?_; (first | exact trivial | omega | (dsimp only; omega) | (dsimp only; exact ⟨by omega, by omega, by omega⟩) | (simp only [Mid.len, Blk.cells, List.length_map, List.length_set, List.length_replicate, List.length_append, Nat.mul_one, Nat.zero_add, reduceCtorEq, List.length_cons, List.length_nil, List.length_take, List.length_drop, true_and, and_true, false_implies, implies_true]; first | done | omega) | (simp; done) | (simp; omega) | grind)) | (refine opsW_callP (qs := ?_) (rd := ?_) (u := ?_) (c1) rfl rfl rfl ?_ ?_ ?_ ?_ ?_; rotate_right 6; (focus rfl); (focus (first | rfl | (simp only [nrm1, nrm, List.map, List.drop_zero, Nat.mul_one, takeI, dropI, List.take_length]; done) | (simp only [nrm1, nrm, List.map, List.drop_zero, Nat.mul_one, takeI, dropI, List.take_length]; rfl))); rotate_left 1; (focus rfl); (focus rfl); rotate_right 0)); (try simp only [Mid.get, Mid.set, mx_fold, PV.flat, flats, nrm1, nrm, Bool.true_and, Bool.and_true, Bool.and_self, ev, List.replicate, Option.map_some, Option.bind_some, Nat.reduceBEq, beq_self_eq_true, setD, List.set, puts, put, del, cellsTo, cells1, allP, lay, putIn, joinB, sub, overB, rep, Blk.mk, AV.cells, List.map, List.drop, List.take, List.cons_append, List.nil_append, List.append_nil, List.getD_cons_succ, List.getD_cons_zero, if_true, if_false, Bool.false_eq_true, reduceIte, wrap_i64, getI, takeI, dropI, setI, repI, Nat.mul_one, Nat.one_mul, Nat.zero_add, Nat.add_zero, Nat.zero_mul, Int.toNat_natCast, Int.reduceNeg, Int.reduceToNat, Nat.reduceAdd, Nat.reduceMul, Nat.reduceSub, decide_true, decide_false, Bool.not_true, Bool.not_false, cond_true, cond_false, gt_iff_lt, ge_iff_le, Int.reduceLT, Int.reduceLE, Int.lt_irrefl, Int.le_refl, List.length_set, List.length_map, *])) | (refine opsW_skip rfl ?_; simp only [setD, List.set]) | (refine opsW_nil ⟨?_, hKQ _ _ _ ?_⟩; (focus kernel_rfl); clear hKQ KQ; try simp only [seqK, blockK, loopG, List.length_cons, List.length_nil, Nat.reduceAdd, Nat.reduceMul]) | (refine opsW_nil (hKQ _ _ _ ?_); clear hKQ KQ; try simp only [seqK, blockK, loopG, List.length_cons, List.length_nil, Nat.reduceAdd, Nat.reduceMul]) | (refine WP_cond (t := true) rfl ?_; simp only [if_true]) | (refine WP_cond (t := false) rfl ?_; simp only [if_false, Bool.false_eq_true]) | (refine WP_skip ?_; simp only [seqK, blockK, loopG]) | (refine WP_ret ?_; simp only [seqK, blockK, loopG, Fin]) | (refine WP_exit ?_; simp only [seqK, blockK, loopG, reduceIte, Nat.reduceEqDiff]))
    (refine Res_of rfl ?_ ?_; (focus (first | (refine ⟨⟨?_, ?_⟩, trivial⟩ <;> first | exact Nat.le_of_ble_eq_true rfl | (refine Nat.le_of_ble_eq_true ?_; kernel_rfl) | (intro hh; cases hh)) | (refine ⟨⟨?_, ?_⟩, trivial, trivial⟩ <;> first | (refine Nat.le_of_ble_eq_true ?_; kernel_rfl) | (intro hh; cases hh)) | (refine ⟨⟨?_, ?_⟩, trivial⟩ <;> decide) | (refine ⟨⟨?_, ?_⟩, ⟨trivial, trivial⟩⟩ <;> decide) | decide | (simp [Blk.cells]; done))); exact ⟨_, rfl⟩)
theorem wet_value.c (x : Rt) (e : Int) : Sound Try.prog 31 [R x, I e] (R x) := by
  obtain ⟨n, p, q⟩ := x
  exact runL tok mixed [] 100 2 Good.nil (by kernel_rfl)
def rl (f r c n : Int) : Nat → Rt × Rt × Int → Option (Rt × Rt)
  | 0, _ => none
  | k + 1, x => if 0 ≤ x.2.2 ∧ x.2.2 ≤ 16 then (if x.2.2 < n then rl f r c n k ((doneR f r c x.1).2.2, (addR x.2.1 (doneR f r c x.1).1).1, x.2.2 + 1) else some (x.1, x.2.1)) else none
theorem rl_it (f r c n : Int) (hn : n ≤ 16) : ∀ (k : Nat) (x a : Rt) (i : Int), 0 ≤ i → n = i + k → rl f r c n (k + 1) (x, a, i) = some (itR f r c k x a)
  | 0, x, a, i, h0, h => by
    rw [rl]
    dsimp only
    rw [if_pos ⟨h0, by omega⟩, if_neg (by omega)]; rfl
  | k + 1, x, a, i, h0, h => by
    rw [rl]
    dsimp only
    rw [if_pos ⟨h0, by omega⟩, if_pos (by omega)]
    exact rl_it f r c n hn k _ _ _ (by omega) (by omega)
theorem wet_run.ok (f r c : Int) (x : Rt) (n : Int) (h : beginS f r c x = 0) (h1 : ¬ n < 0) (h2 : ¬ 16 < n) : Sound Try.prog 39 [Wt f r c, R x, I n] (.tup [R (addR (itR f r c n.toNat x (makeS 0 1).1).1 (makeS 0 1).1).1, R (itR f r c n.toNat x (makeS 0 1).1).2, I 0]) := by
  have c1 := begin_ok f r c x h
  clear h
  have c2 := rat_Of.c 0
  have c3 := wet_value.c (makeS 0 1).1 (makeS 0 1).2
  have hh := rl_it f r c n (by omega) n.toNat x (makeS 0 1).1 0 (by omega) (by omega)
  generalize itR f r c n.toNat x (makeS 0 1).1 = w at *
  generalize makeS 0 1 = z at *
  refine Sound.of_WP tok Try.func39 rfl rfl ?_; simp only [Try.f39, args0, List.map, List.length_cons, List.length_nil, Nat.reduceAdd, Nat.reduceSub, List.replicate, List.cons_append, List.nil_append]
  repeat' (first | refine WP_seq ?_ | refine WP_block ?_ | (refine WP_R 64 (by decide) fun KQ hKQ => ?_) | (refine WP_D 64 (by decide) ?_ fun KQ hKQ => ?_; (focus kernel_rfl)) | ((first | (refine opsW_op rfl rfl rfl ?_ rfl ?_; (first | exact trivial | omega | (dsimp only; omega) | (dsimp only; exact ⟨by omega, by omega, by omega⟩) | (simp only [Mid.len, Blk.cells, List.length_map, List.length_set, List.length_replicate, List.length_append, Nat.mul_one, Nat.zero_add, reduceCtorEq, List.length_cons, List.length_nil, List.length_take, List.length_drop, true_and, and_true, false_implies, implies_true]; first | done | omega) | (simp; done) | (simp; omega) | grind)) | (refine opsW_callP (qs := ?_) (rd := ?_) (u := ?_) (c1) rfl rfl rfl ?_ ?_ ?_ ?_ ?_; rotate_right 6; (focus rfl); (focus (first | rfl | (simp only [nrm1, nrm, List.map, List.drop_zero, Nat.mul_one, takeI, dropI, List.take_length]; done) | (simp only [nrm1, nrm, List.map, List.drop_zero, Nat.mul_one, takeI, dropI, List.take_length]; rfl))); rotate_left 1; (focus rfl); (focus rfl); rotate_right 0) | (refine opsW_callP (qs := ?_) (rd := ?_) (u := ?_) (c2) rfl rfl rfl ?_ ?_ ?_ ?_ ?_; rotate_right 6; (focus rfl); (focus (first | rfl | (simp only [nrm1, nrm, List.map, List.drop_zero, Nat.mul_one, takeI, dropI, List.take_length]; done) | (simp only [nrm1, nrm, List.map, List.drop_zero, Nat.mul_one, takeI, dropI, List.take_length]; rfl))); rotate_left 1; (focus rfl); (focus rfl); rotate_right 0) | (refine opsW_callP (qs := ?_) (rd := ?_) (u := ?_) (c3) rfl rfl rfl ?_ ?_ ?_ ?_ ?_; rotate_right 6; (focus rfl); (focus (first | rfl | (simp only [nrm1, nrm, List.map, List.drop_zero, Nat.mul_one, takeI, dropI, List.take_length]; done) | (simp only [nrm1, nrm, List.map, List.drop_zero, Nat.mul_one, takeI, dropI, List.take_length]; rfl))); rotate_left 1; (focus rfl); (focus rfl); rotate_right 0)); (try simp only [Mid.get, Mid.set, mx_fold, PV.flat, flats, nrm1, nrm, Bool.true_and, Bool.and_true, Bool.and_self, ev, List.replicate, Option.map_some, Option.bind_some, Nat.reduceBEq, beq_self_eq_true, setD, List.set, puts, put, del, cellsTo, cells1, allP, lay, putIn, joinB, sub, overB, rep, Blk.mk, AV.cells, List.map, List.drop, List.take, List.cons_append, List.nil_append, List.append_nil, List.getD_cons_succ, List.getD_cons_zero, if_true, if_false, Bool.false_eq_true, reduceIte, wrap_i64, getI, takeI, dropI, setI, repI, Nat.mul_one, Nat.one_mul, Nat.zero_add, Nat.add_zero, Nat.zero_mul, Int.toNat_natCast, Int.reduceNeg, Int.reduceToNat, Nat.reduceAdd, Nat.reduceMul, Nat.reduceSub, decide_true, decide_false, Bool.not_true, Bool.not_false, cond_true, cond_false, gt_iff_lt, ge_iff_le, Int.reduceLT, Int.reduceLE, Int.lt_irrefl, Int.le_refl, List.length_set, List.length_map, *])) | (refine opsW_skip rfl ?_; simp only [setD, List.set]) | (refine opsW_nil ⟨?_, hKQ _ _ _ ?_⟩; (focus kernel_rfl); clear hKQ KQ; try simp only [seqK, blockK, loopG, List.length_cons, List.length_nil, Nat.reduceAdd, Nat.reduceMul]) | (refine opsW_nil (hKQ _ _ _ ?_); clear hKQ KQ; try simp only [seqK, blockK, loopG, List.length_cons, List.length_nil, Nat.reduceAdd, Nat.reduceMul]) | (refine WP_cond (t := true) rfl ?_; simp only [if_true]) | (refine WP_cond (t := false) rfl ?_; simp only [if_false, Bool.false_eq_true]) | (refine WP_skip ?_; simp only [seqK, blockK, loopG]) | (refine WP_ret ?_; simp only [seqK, blockK, loopG, Fin]) | (refine WP_exit ?_; simp only [seqK, blockK, loopG, reduceIte, Nat.reduceEqDiff]))
  refine WP_loop (WPL_weaken ?_ (WPL_rec (α := Rt × Rt × Int) (fun k x => rl f r c n k x) w (fun x => (mkE 64 [(6, .own 0 0), (7, .own 1 0), (9, .own 2 0), (11, .own 3 0), (36, .p (I n)), (37, .p (I x.2.2))], [(0, .pc 27 [B false, .v (.slice none 0 0), .v (.slice none 0 0)]), (1, .pc 27 [B false, .v (.slice none 0 0), .v (.slice none 0 0)]), (2, .pc 51 [I f, I r, I c, B x.1.neg, N x.1.p, N x.1.q]), (3, .pc 27 [B x.2.1.neg, N x.2.1.p, N x.2.1.q])], 4)) ?_ _ (x, z.1, 0) hh))
  · (refine Wk.auto _ rfl rfl ?_ ?_ <;> simp only [nilA, Bool.false_eq_true, reduceCtorEq, false_or, or_false, Nat.le_refl, fitS, fitE, Stands, ren, rens, rho, renB, findR, get, Blk.cells, mkE, List.replicate, List.foldl, List.set, List.any_nil, List.any_cons, Bool.or_false, Bool.false_or, beq_self_eq_true, Nat.reduceBEq, Nat.blt_eq, Nat.not_lt_zero, decide_false, cond_true, cond_false, if_true, if_false, reduceIte, Nat.reduceEqDiff, Nat.reduceLT, List.length_set, List.length_append, List.length_replicate, List.length_cons, List.length_nil, List.map, true_or, or_true, and_true, true_and, and_self, Nat.reduceLeDiff, *] <;> (try (first | done | (simp; done) | omega)))
  · clear hh
    intro k ⟨x1, x2, x3⟩ K ih h
    simp only [mkE, List.replicate, List.foldl, List.set]
    cases k with
    | zero => simp [rl] at h
    | succ k =>
      simp only [rl] at h
      split at h
      · rename_i hb
        obtain ⟨b1, b2⟩ := hb
        have d1 := wet_done.c f r c x1
        have d2 := rat_Add.c x2 (doneR f r c x1).1
        have d3 := wet_value.c (addR x2 (doneR f r c x1).1).1 (addR x2 (doneR f r c x1).1).2
        have d4 := rat_Add.c x1 z.1
        have d5 := wet_value.c (addR x1 z.1).1 (addR x1 z.1).2
        split at h
        · have w1 : wrap64 (x3 + 1) = x3 + 1 := w64 (by omega) (by omega)
          generalize doneR f r c x1 = D at *
          generalize addR x2 D.1 = E at *
          repeat' (first | refine WP_seq ?_ | refine WP_block ?_ | (refine WP_R 64 (by decide) fun KQ hKQ => ?_) | (refine WP_D 64 (by decide) ?_ fun KQ hKQ => ?_; (focus kernel_rfl)) | ((first | (refine opsW_op rfl rfl rfl ?_ rfl ?_; (first | exact trivial | omega | (dsimp only; omega) | (dsimp only; exact ⟨by omega, by omega, by omega⟩) | (simp only [Mid.len, Blk.cells, List.length_map, List.length_set, List.length_replicate, List.length_append, Nat.mul_one, Nat.zero_add, reduceCtorEq, List.length_cons, List.length_nil, List.length_take, List.length_drop, true_and, and_true, false_implies, implies_true]; first | done | omega) | (simp; done) | (simp; omega) | grind)) | (refine opsW_callP (qs := ?_) (rd := ?_) (u := ?_) (d1) rfl rfl rfl ?_ ?_ ?_ ?_ ?_; rotate_right 6; (focus rfl); (focus (first | rfl | (simp only [nrm1, nrm, List.map, List.drop_zero, Nat.mul_one, takeI, dropI, List.take_length]; done) | (simp only [nrm1, nrm, List.map, List.drop_zero, Nat.mul_one, takeI, dropI, List.take_length]; rfl))); rotate_left 1; (focus rfl); (focus rfl); rotate_right 0) | (refine opsW_callP (qs := ?_) (rd := ?_) (u := ?_) (d2) rfl rfl rfl ?_ ?_ ?_ ?_ ?_; rotate_right 6; (focus rfl); (focus (first | rfl | (simp only [nrm1, nrm, List.map, List.drop_zero, Nat.mul_one, takeI, dropI, List.take_length]; done) | (simp only [nrm1, nrm, List.map, List.drop_zero, Nat.mul_one, takeI, dropI, List.take_length]; rfl))); rotate_left 1; (focus rfl); (focus rfl); rotate_right 0) | (refine opsW_callP (qs := ?_) (rd := ?_) (u := ?_) (d3) rfl rfl rfl ?_ ?_ ?_ ?_ ?_; rotate_right 6; (focus rfl); (focus (first | rfl | (simp only [nrm1, nrm, List.map, List.drop_zero, Nat.mul_one, takeI, dropI, List.take_length]; done) | (simp only [nrm1, nrm, List.map, List.drop_zero, Nat.mul_one, takeI, dropI, List.take_length]; rfl))); rotate_left 1; (focus rfl); (focus rfl); rotate_right 0)); (try simp only [Mid.get, Mid.set, mx_fold, PV.flat, flats, nrm1, nrm, Bool.true_and, Bool.and_true, Bool.and_self, ev, List.replicate, Option.map_some, Option.bind_some, Nat.reduceBEq, beq_self_eq_true, setD, List.set, puts, put, del, cellsTo, cells1, allP, lay, putIn, joinB, sub, overB, rep, Blk.mk, AV.cells, List.map, List.drop, List.take, List.cons_append, List.nil_append, List.append_nil, List.getD_cons_succ, List.getD_cons_zero, if_true, if_false, Bool.false_eq_true, reduceIte, wrap_i64, getI, takeI, dropI, setI, repI, Nat.mul_one, Nat.one_mul, Nat.zero_add, Nat.add_zero, Nat.zero_mul, Int.toNat_natCast, Int.reduceNeg, Int.reduceToNat, Nat.reduceAdd, Nat.reduceMul, Nat.reduceSub, decide_true, decide_false, Bool.not_true, Bool.not_false, cond_true, cond_false, gt_iff_lt, ge_iff_le, Int.reduceLT, Int.reduceLE, Int.lt_irrefl, Int.le_refl, List.length_set, List.length_map, *])) | (refine opsW_skip rfl ?_; simp only [setD, List.set]) | (refine opsW_nil ⟨?_, hKQ _ _ _ ?_⟩; (focus kernel_rfl); clear hKQ KQ; try simp only [seqK, blockK, loopG, List.length_cons, List.length_nil, Nat.reduceAdd, Nat.reduceMul]) | (refine opsW_nil (hKQ _ _ _ ?_); clear hKQ KQ; try simp only [seqK, blockK, loopG, List.length_cons, List.length_nil, Nat.reduceAdd, Nat.reduceMul]) | (refine WP_cond (t := true) rfl ?_; simp only [if_true]) | (refine WP_cond (t := false) rfl ?_; simp only [if_false, Bool.false_eq_true]) | (refine WP_skip ?_; simp only [seqK, blockK, loopG]) | (refine WP_ret ?_; simp only [seqK, blockK, loopG, Fin]) | (refine WP_exit ?_; simp only [seqK, blockK, loopG, reduceIte, Nat.reduceEqDiff]))
          first
          | (refine ih _ _ _ _ (_, _, _) (Nat.lt_succ_self _) h ?_; (refine Wk.auto _ rfl rfl ?_ ?_ <;> simp only [nilA, Bool.false_eq_true, reduceCtorEq, false_or, or_false, Nat.le_refl, fitS, fitE, Stands, ren, rens, rho, renB, findR, get, Blk.cells, mkE, List.replicate, List.foldl, List.set, List.any_nil, List.any_cons, Bool.or_false, Bool.false_or, beq_self_eq_true, Nat.reduceBEq, Nat.blt_eq, Nat.not_lt_zero, decide_false, cond_true, cond_false, if_true, if_false, reduceIte, Nat.reduceEqDiff, Nat.reduceLT, List.length_set, List.length_append, List.length_replicate, List.length_cons, List.length_nil, List.map, true_or, or_true, and_true, true_and, and_self, Nat.reduceLeDiff, *] <;> (try (first | done | (simp; done) | omega))))
        · injection h with h
          subst h
          repeat' (first | refine WP_seq ?_ | refine WP_block ?_ | (refine WP_R 64 (by decide) fun KQ hKQ => ?_) | (refine WP_D 64 (by decide) ?_ fun KQ hKQ => ?_; (focus kernel_rfl)) | ((first | (refine opsW_op rfl rfl rfl ?_ rfl ?_; (first | exact trivial | omega | (dsimp only; omega) | (dsimp only; exact ⟨by omega, by omega, by omega⟩) | (simp only [Mid.len, Blk.cells, List.length_map, List.length_set, List.length_replicate, List.length_append, Nat.mul_one, Nat.zero_add, reduceCtorEq, List.length_cons, List.length_nil, List.length_take, List.length_drop, true_and, and_true, false_implies, implies_true]; first | done | omega) | (simp; done) | (simp; omega) | grind)) | (refine opsW_callP (qs := ?_) (rd := ?_) (u := ?_) (c2) rfl rfl rfl ?_ ?_ ?_ ?_ ?_; rotate_right 6; (focus rfl); (focus (first | rfl | (simp only [nrm1, nrm, List.map, List.drop_zero, Nat.mul_one, takeI, dropI, List.take_length]; done) | (simp only [nrm1, nrm, List.map, List.drop_zero, Nat.mul_one, takeI, dropI, List.take_length]; rfl))); rotate_left 1; (focus rfl); (focus rfl); rotate_right 0) | (refine opsW_callP (qs := ?_) (rd := ?_) (u := ?_) (c3) rfl rfl rfl ?_ ?_ ?_ ?_ ?_; rotate_right 6; (focus rfl); (focus (first | rfl | (simp only [nrm1, nrm, List.map, List.drop_zero, Nat.mul_one, takeI, dropI, List.take_length]; done) | (simp only [nrm1, nrm, List.map, List.drop_zero, Nat.mul_one, takeI, dropI, List.take_length]; rfl))); rotate_left 1; (focus rfl); (focus rfl); rotate_right 0) | (refine opsW_callP (qs := ?_) (rd := ?_) (u := ?_) (d4) rfl rfl rfl ?_ ?_ ?_ ?_ ?_; rotate_right 6; (focus rfl); (focus (first | rfl | (simp only [nrm1, nrm, List.map, List.drop_zero, Nat.mul_one, takeI, dropI, List.take_length]; done) | (simp only [nrm1, nrm, List.map, List.drop_zero, Nat.mul_one, takeI, dropI, List.take_length]; rfl))); rotate_left 1; (focus rfl); (focus rfl); rotate_right 0) | (refine opsW_callP (qs := ?_) (rd := ?_) (u := ?_) (d5) rfl rfl rfl ?_ ?_ ?_ ?_ ?_; rotate_right 6; (focus rfl); (focus (first | rfl | (simp only [nrm1, nrm, List.map, List.drop_zero, Nat.mul_one, takeI, dropI, List.take_length]; done) | (simp only [nrm1, nrm, List.map, List.drop_zero, Nat.mul_one, takeI, dropI, List.take_length]; rfl))); rotate_left 1; (focus rfl); (focus rfl); rotate_right 0)); (try simp only [Mid.get, Mid.set, mx_fold, PV.flat, flats, nrm1, nrm, Bool.true_and, Bool.and_true, Bool.and_self, ev, List.replicate, Option.map_some, Option.bind_some, Nat.reduceBEq, beq_self_eq_true, setD, List.set, puts, put, del, cellsTo, cells1, allP, lay, putIn, joinB, sub, overB, rep, Blk.mk, AV.cells, List.map, List.drop, List.take, List.cons_append, List.nil_append, List.append_nil, List.getD_cons_succ, List.getD_cons_zero, if_true, if_false, Bool.false_eq_true, reduceIte, wrap_i64, getI, takeI, dropI, setI, repI, Nat.mul_one, Nat.one_mul, Nat.zero_add, Nat.add_zero, Nat.zero_mul, Int.toNat_natCast, Int.reduceNeg, Int.reduceToNat, Nat.reduceAdd, Nat.reduceMul, Nat.reduceSub, decide_true, decide_false, Bool.not_true, Bool.not_false, cond_true, cond_false, gt_iff_lt, ge_iff_le, Int.reduceLT, Int.reduceLE, Int.lt_irrefl, Int.le_refl, List.length_set, List.length_map, *])) | (refine opsW_skip rfl ?_; simp only [setD, List.set]) | (refine opsW_nil ⟨?_, hKQ _ _ _ ?_⟩; (focus kernel_rfl); clear hKQ KQ; try simp only [seqK, blockK, loopG, List.length_cons, List.length_nil, Nat.reduceAdd, Nat.reduceMul]) | (refine opsW_nil (hKQ _ _ _ ?_); clear hKQ KQ; try simp only [seqK, blockK, loopG, List.length_cons, List.length_nil, Nat.reduceAdd, Nat.reduceMul]) | (refine WP_cond (t := true) rfl ?_; simp only [if_true]) | (refine WP_cond (t := false) rfl ?_; simp only [if_false, Bool.false_eq_true]) | (refine WP_skip ?_; simp only [seqK, blockK, loopG]) | (refine WP_ret ?_; simp only [seqK, blockK, loopG, Fin]) | (refine WP_exit ?_; simp only [seqK, blockK, loopG, reduceIte, Nat.reduceEqDiff]))
          first
          | (refine Res_of rfl ?_ ?_; (focus (first | (refine ⟨⟨?_, ?_⟩, trivial⟩ <;> first | exact Nat.le_of_ble_eq_true rfl | (refine Nat.le_of_ble_eq_true ?_; kernel_rfl) | (intro hh; cases hh)) | (refine ⟨⟨?_, ?_⟩, trivial, trivial⟩ <;> first | (refine Nat.le_of_ble_eq_true ?_; kernel_rfl) | (intro hh; cases hh)) | (refine ⟨⟨?_, ?_⟩, trivial⟩ <;> decide) | (refine ⟨⟨?_, ?_⟩, ⟨trivial, trivial⟩⟩ <;> decide) | decide | (simp [Blk.cells]; done))); exact ⟨_, rfl⟩)
      · cases h
theorem wet_After.bad (f r c : Int) (x : Rt) (n : Int) (h : beginS f r c x ≠ 0) : Sound Try.prog 19 [Wt f r c, R x, I n] (.tup [R zR, I (beginS f r c x)]) := by
  have c1 := wet_run.bad f r c x n h
  generalize beginS f r c x = e at *
  obtain ⟨xn, xp, xq⟩ := x
  exact runL tok mixed [39] 100 2 (Good.cons c1 Good.nil) (by kernel_rfl)
theorem wet_After.out (f r c : Int) (x : Rt) (n : Int) (h : beginS f r c x = 0) (hn : n < 0 ∨ (¬ n < 0 ∧ 16 < n)) : Sound Try.prog 19 [Wt f r c, R x, I n] (.tup [R zR, I 1]) := by
  have c1 := wet_run.out f r c x n h hn
  obtain ⟨xn, xp, xq⟩ := x
  exact runL tok mixed [39] 100 2 (Good.cons c1 Good.nil) (by kernel_rfl)
theorem wet_After.ok (f r c : Int) (x : Rt) (n : Int) (h : beginS f r c x = 0) (h1 : ¬ n < 0) (h2 : ¬ 16 < n) : Sound Try.prog 19 [Wt f r c, R x, I n] (.tup [R (addR (itR f r c n.toNat x (makeS 0 1).1).1 (makeS 0 1).1).1, I 0]) := by
  have c1 := wet_run.ok f r c x n h h1 h2
  generalize (addR (itR f r c n.toNat x (makeS 0 1).1).1 (makeS 0 1).1).1 = y at *
  generalize (itR f r c n.toNat x (makeS 0 1).1).2 = z at *
  obtain ⟨xn, xp, xq⟩ := x
  obtain ⟨yn, yp, yq⟩ := y
  obtain ⟨zn, zp, zq⟩ := z
  exact runL tok mixed [39] 100 2 (Good.cons c1 Good.nil) (by kernel_rfl)
theorem wet_Paper.bad (f r c : Int) (x : Rt) (n : Int) (h : beginS f r c x ≠ 0) : Sound Try.prog 21 [Wt f r c, R x, I n] (.tup [R zR, I (beginS f r c x)]) := by
  have c1 := wet_run.bad f r c x n h
  generalize beginS f r c x = e at *
  obtain ⟨xn, xp, xq⟩ := x
  exact runL tok mixed [39] 100 2 (Good.cons c1 Good.nil) (by kernel_rfl)
theorem wet_Paper.out (f r c : Int) (x : Rt) (n : Int) (h : beginS f r c x = 0) (hn : n < 0 ∨ (¬ n < 0 ∧ 16 < n)) : Sound Try.prog 21 [Wt f r c, R x, I n] (.tup [R zR, I 1]) := by
  have c1 := wet_run.out f r c x n h hn
  obtain ⟨xn, xp, xq⟩ := x
  exact runL tok mixed [39] 100 2 (Good.cons c1 Good.nil) (by kernel_rfl)
theorem wet_Paper.ok (f r c : Int) (x : Rt) (n : Int) (h : beginS f r c x = 0) (h1 : ¬ n < 0) (h2 : ¬ 16 < n) : Sound Try.prog 21 [Wt f r c, R x, I n] (.tup [R (itR f r c n.toNat x (makeS 0 1).1).2, I 0]) := by
  have c1 := wet_run.ok f r c x n h h1 h2
  generalize (addR (itR f r c n.toNat x (makeS 0 1).1).1 (makeS 0 1).1).1 = y at *
  generalize (itR f r c n.toNat x (makeS 0 1).1).2 = z at *
  obtain ⟨xn, xp, xq⟩ := x
  obtain ⟨yn, yp, yq⟩ := y
  obtain ⟨zn, zp, zq⟩ := z
  exact runL tok mixed [39] 100 2 (Good.cons c1 Good.nil) (by kernel_rfl)
def AfterS (f r c : Int) (x : Rt) (n : Int) : Rt := (addR (itR f r c n.toNat x (makeS 0 1).1).1 (makeS 0 1).1).1
theorem out_of {n : Int} (h : ¬ (¬ n < 0 ∧ ¬ 16 < n)) : n < 0 ∨ (¬ n < 0 ∧ 16 < n) := by omega
end Go.Proofs.Ytbjamhkhocjdkaa.Pw
namespace Go.Proofs.Ytbjamhkhocjdkaa.Pw
open Go Wd Px Mat
set_option linter.unusedVariables false
set_option linter.unusedSimpArgs false
set_option maxRecDepth 100000
set_option maxHeartbeats 8000000
attribute [local irreducible] Int.tmod Int.tdiv
theorem r20_steps.bad (f r c : Int) (x : Rt) (n : Int) (h : beginS f r c x ≠ 0) : Sound Try.prog 40 [Wt f r c, R x, I n] (.tup [R zR, R zR, I (beginS f r c x)]) := by
  have c1 := r20_Check.c f r c
  have c2 := r20_White.c x
  unfold beginS at *
  by_cases hc : checkS f r c = 0
  · rw [if_pos hc] at *
    rw [hc] at c1
    generalize whiteS x = e at *
    refine Sound.of_WP tok Try.func40 rfl rfl ?_; simp only [Try.f40, args0, List.map, List.length_cons, List.length_nil, Nat.reduceAdd, Nat.reduceSub, List.replicate, List.cons_append, List.nil_append]
    repeat' (first | refine WP_seq ?_ | refine WP_block ?_ | (refine WP_R 64 (by decide) fun KQ hKQ => ?_) | (refine WP_D 64 (by decide) ?_ fun KQ hKQ => ?_; (focus kernel_rfl)) | ((first | (refine opsW_op rfl rfl rfl ?_ rfl ?_; (first | exact trivial | omega | (dsimp only; omega) | (dsimp only; exact ⟨by omega, by omega, by omega⟩) | (simp only [Mid.len, Blk.cells, List.length_map, List.length_set, List.length_replicate, List.length_append, Nat.mul_one, Nat.zero_add, reduceCtorEq, List.length_cons, List.length_nil, List.length_take, List.length_drop, true_and, and_true, false_implies, implies_true]; first | done | omega) | (simp; done) | (simp; omega) | grind)) | (refine opsW_callP (qs := ?_) (rd := ?_) (u := ?_) (c1) rfl rfl rfl ?_ ?_ ?_ ?_ ?_; rotate_right 6; (focus rfl); (focus (first | rfl | (simp only [nrm1, nrm, List.map, List.drop_zero, Nat.mul_one, takeI, dropI, List.take_length]; done) | (simp only [nrm1, nrm, List.map, List.drop_zero, Nat.mul_one, takeI, dropI, List.take_length]; rfl))); rotate_left 1; (focus rfl); (focus rfl); rotate_right 0) | (refine opsW_callP (qs := ?_) (rd := ?_) (u := ?_) (c2) rfl rfl rfl ?_ ?_ ?_ ?_ ?_; rotate_right 6; (focus rfl); (focus (first | rfl | (simp only [nrm1, nrm, List.map, List.drop_zero, Nat.mul_one, takeI, dropI, List.take_length]; done) | (simp only [nrm1, nrm, List.map, List.drop_zero, Nat.mul_one, takeI, dropI, List.take_length]; rfl))); rotate_left 1; (focus rfl); (focus rfl); rotate_right 0)); (try simp only [Mid.get, Mid.set, mx_fold, PV.flat, flats, nrm1, nrm, Bool.true_and, Bool.and_true, Bool.and_self, ev, List.replicate, Option.map_some, Option.bind_some, Nat.reduceBEq, beq_self_eq_true, setD, List.set, puts, put, del, cellsTo, cells1, allP, lay, putIn, joinB, sub, overB, rep, Blk.mk, AV.cells, List.map, List.drop, List.take, List.cons_append, List.nil_append, List.append_nil, List.getD_cons_succ, List.getD_cons_zero, if_true, if_false, Bool.false_eq_true, reduceIte, wrap_i64, getI, takeI, dropI, setI, repI, Nat.mul_one, Nat.one_mul, Nat.zero_add, Nat.add_zero, Nat.zero_mul, Int.toNat_natCast, Int.reduceNeg, Int.reduceToNat, Nat.reduceAdd, Nat.reduceMul, Nat.reduceSub, decide_true, decide_false, Bool.not_true, Bool.not_false, cond_true, cond_false, gt_iff_lt, ge_iff_le, Int.reduceLT, Int.reduceLE, Int.lt_irrefl, Int.le_refl, List.length_set, List.length_map, *])) | (refine opsW_skip rfl ?_; simp only [setD, List.set]) | (refine opsW_nil ⟨?_, hKQ _ _ _ ?_⟩; (focus kernel_rfl); clear hKQ KQ; try simp only [seqK, blockK, loopG, List.length_cons, List.length_nil, Nat.reduceAdd, Nat.reduceMul]) | (refine opsW_nil (hKQ _ _ _ ?_); clear hKQ KQ; try simp only [seqK, blockK, loopG, List.length_cons, List.length_nil, Nat.reduceAdd, Nat.reduceMul]) | (refine WP_cond (t := true) rfl ?_; simp only [if_true]) | (refine WP_cond (t := false) rfl ?_; simp only [if_false, Bool.false_eq_true]) | (refine WP_skip ?_; simp only [seqK, blockK, loopG]) | (refine WP_ret ?_; simp only [seqK, blockK, loopG, Fin]) | (refine WP_exit ?_; simp only [seqK, blockK, loopG, reduceIte, Nat.reduceEqDiff]))
    (refine Res_of rfl ?_ ?_; (focus (first | (refine ⟨⟨?_, ?_⟩, trivial⟩ <;> first | exact Nat.le_of_ble_eq_true rfl | (refine Nat.le_of_ble_eq_true ?_; kernel_rfl) | (intro hh; cases hh)) | (refine ⟨⟨?_, ?_⟩, trivial, trivial⟩ <;> first | (refine Nat.le_of_ble_eq_true ?_; kernel_rfl) | (intro hh; cases hh)) | (refine ⟨⟨?_, ?_⟩, trivial⟩ <;> decide) | (refine ⟨⟨?_, ?_⟩, ⟨trivial, trivial⟩⟩ <;> decide) | decide | (simp [Blk.cells]; done))); exact ⟨_, rfl⟩)
  · rw [if_neg hc] at *
    generalize checkS f r c = e at *
    refine Sound.of_WP tok Try.func40 rfl rfl ?_; simp only [Try.f40, args0, List.map, List.length_cons, List.length_nil, Nat.reduceAdd, Nat.reduceSub, List.replicate, List.cons_append, List.nil_append]
    repeat' (first | refine WP_seq ?_ | refine WP_block ?_ | (refine WP_R 64 (by decide) fun KQ hKQ => ?_) | (refine WP_D 64 (by decide) ?_ fun KQ hKQ => ?_; (focus kernel_rfl)) | ((first | (refine opsW_op rfl rfl rfl ?_ rfl ?_; (first | exact trivial | omega | (dsimp only; omega) | (dsimp only; exact ⟨by omega, by omega, by omega⟩) | (simp only [Mid.len, Blk.cells, List.length_map, List.length_set, List.length_replicate, List.length_append, Nat.mul_one, Nat.zero_add, reduceCtorEq, List.length_cons, List.length_nil, List.length_take, List.length_drop, true_and, and_true, false_implies, implies_true]; first | done | omega) | (simp; done) | (simp; omega) | grind)) | (refine opsW_callP (qs := ?_) (rd := ?_) (u := ?_) (c1) rfl rfl rfl ?_ ?_ ?_ ?_ ?_; rotate_right 6; (focus rfl); (focus (first | rfl | (simp only [nrm1, nrm, List.map, List.drop_zero, Nat.mul_one, takeI, dropI, List.take_length]; done) | (simp only [nrm1, nrm, List.map, List.drop_zero, Nat.mul_one, takeI, dropI, List.take_length]; rfl))); rotate_left 1; (focus rfl); (focus rfl); rotate_right 0)); (try simp only [Mid.get, Mid.set, mx_fold, PV.flat, flats, nrm1, nrm, Bool.true_and, Bool.and_true, Bool.and_self, ev, List.replicate, Option.map_some, Option.bind_some, Nat.reduceBEq, beq_self_eq_true, setD, List.set, puts, put, del, cellsTo, cells1, allP, lay, putIn, joinB, sub, overB, rep, Blk.mk, AV.cells, List.map, List.drop, List.take, List.cons_append, List.nil_append, List.append_nil, List.getD_cons_succ, List.getD_cons_zero, if_true, if_false, Bool.false_eq_true, reduceIte, wrap_i64, getI, takeI, dropI, setI, repI, Nat.mul_one, Nat.one_mul, Nat.zero_add, Nat.add_zero, Nat.zero_mul, Int.toNat_natCast, Int.reduceNeg, Int.reduceToNat, Nat.reduceAdd, Nat.reduceMul, Nat.reduceSub, decide_true, decide_false, Bool.not_true, Bool.not_false, cond_true, cond_false, gt_iff_lt, ge_iff_le, Int.reduceLT, Int.reduceLE, Int.lt_irrefl, Int.le_refl, List.length_set, List.length_map, *])) | (refine opsW_skip rfl ?_; simp only [setD, List.set]) | (refine opsW_nil ⟨?_, hKQ _ _ _ ?_⟩; (focus kernel_rfl); clear hKQ KQ; try simp only [seqK, blockK, loopG, List.length_cons, List.length_nil, Nat.reduceAdd, Nat.reduceMul]) | (refine opsW_nil (hKQ _ _ _ ?_); clear hKQ KQ; try simp only [seqK, blockK, loopG, List.length_cons, List.length_nil, Nat.reduceAdd, Nat.reduceMul]) | (refine WP_cond (t := true) rfl ?_; simp only [if_true]) | (refine WP_cond (t := false) rfl ?_; simp only [if_false, Bool.false_eq_true]) | (refine WP_skip ?_; simp only [seqK, blockK, loopG]) | (refine WP_ret ?_; simp only [seqK, blockK, loopG, Fin]) | (refine WP_exit ?_; simp only [seqK, blockK, loopG, reduceIte, Nat.reduceEqDiff]))
    (refine Res_of rfl ?_ ?_; (focus (first | (refine ⟨⟨?_, ?_⟩, trivial⟩ <;> first | exact Nat.le_of_ble_eq_true rfl | (refine Nat.le_of_ble_eq_true ?_; kernel_rfl) | (intro hh; cases hh)) | (refine ⟨⟨?_, ?_⟩, trivial, trivial⟩ <;> first | (refine Nat.le_of_ble_eq_true ?_; kernel_rfl) | (intro hh; cases hh)) | (refine ⟨⟨?_, ?_⟩, trivial⟩ <;> decide) | (refine ⟨⟨?_, ?_⟩, ⟨trivial, trivial⟩⟩ <;> decide) | decide | (simp [Blk.cells]; done))); exact ⟨_, rfl⟩)
theorem r20_steps.out (f r c : Int) (x : Rt) (n : Int) (h : beginS f r c x = 0) (hn : n < 0 ∨ (¬ n < 0 ∧ 16 < n)) : Sound Try.prog 40 [Wt f r c, R x, I n] (.tup [R zR, R zR, I 1]) := by
  obtain ⟨h1, h2⟩ := begin_zero h
  have c1 := r20_Check.c f r c
  have c2 := r20_White.c x
  rw [h1] at c1; rw [h2] at c2
  clear h h1 h2
  rcases hn with h1 | ⟨h1, h2⟩
  all_goals
    refine Sound.of_WP tok Try.func40 rfl rfl ?_; simp only [Try.f40, args0, List.map, List.length_cons, List.length_nil, Nat.reduceAdd, Nat.reduceSub, List.replicate, List.cons_append, List.nil_append]
    repeat' (first | refine WP_seq ?_ | refine WP_block ?_ | (refine WP_R 64 (by decide) fun KQ hKQ => ?_) | (refine WP_D 64 (by decide) ?_ fun KQ hKQ => ?_; (focus kernel_rfl)) | ((first | (refine opsW_op rfl rfl rfl ?_ rfl ?_; (first | exact trivial | omega | (dsimp only; omega) | (dsimp only; exact ⟨by omega, by omega, by omega⟩) | (simp only [Mid.len, Blk.cells, List.length_map, List.length_set, List.length_replicate, List.length_append, Nat.mul_one, Nat.zero_add, reduceCtorEq, List.length_cons, List.length_nil, List.length_take, List.length_drop, true_and, and_true, false_implies, implies_true]; first | done | omega) | (simp; done) | (simp; omega) | grind)) | (refine opsW_callP (qs := ?_) (rd := ?_) (u := ?_) (c1) rfl rfl rfl ?_ ?_ ?_ ?_ ?_; rotate_right 6; (focus rfl); (focus (first | rfl | (simp only [nrm1, nrm, List.map, List.drop_zero, Nat.mul_one, takeI, dropI, List.take_length]; done) | (simp only [nrm1, nrm, List.map, List.drop_zero, Nat.mul_one, takeI, dropI, List.take_length]; rfl))); rotate_left 1; (focus rfl); (focus rfl); rotate_right 0) | (refine opsW_callP (qs := ?_) (rd := ?_) (u := ?_) (c2) rfl rfl rfl ?_ ?_ ?_ ?_ ?_; rotate_right 6; (focus rfl); (focus (first | rfl | (simp only [nrm1, nrm, List.map, List.drop_zero, Nat.mul_one, takeI, dropI, List.take_length]; done) | (simp only [nrm1, nrm, List.map, List.drop_zero, Nat.mul_one, takeI, dropI, List.take_length]; rfl))); rotate_left 1; (focus rfl); (focus rfl); rotate_right 0)); (try simp only [Mid.get, Mid.set, mx_fold, PV.flat, flats, nrm1, nrm, Bool.true_and, Bool.and_true, Bool.and_self, ev, List.replicate, Option.map_some, Option.bind_some, Nat.reduceBEq, beq_self_eq_true, setD, List.set, puts, put, del, cellsTo, cells1, allP, lay, putIn, joinB, sub, overB, rep, Blk.mk, AV.cells, List.map, List.drop, List.take, List.cons_append, List.nil_append, List.append_nil, List.getD_cons_succ, List.getD_cons_zero, if_true, if_false, Bool.false_eq_true, reduceIte, wrap_i64, getI, takeI, dropI, setI, repI, Nat.mul_one, Nat.one_mul, Nat.zero_add, Nat.add_zero, Nat.zero_mul, Int.toNat_natCast, Int.reduceNeg, Int.reduceToNat, Nat.reduceAdd, Nat.reduceMul, Nat.reduceSub, decide_true, decide_false, Bool.not_true, Bool.not_false, cond_true, cond_false, gt_iff_lt, ge_iff_le, Int.reduceLT, Int.reduceLE, Int.lt_irrefl, Int.le_refl, List.length_set, List.length_map, *])) | (refine opsW_skip rfl ?_; simp only [setD, List.set]) | (refine opsW_nil ⟨?_, hKQ _ _ _ ?_⟩; (focus kernel_rfl); clear hKQ KQ; try simp only [seqK, blockK, loopG, List.length_cons, List.length_nil, Nat.reduceAdd, Nat.reduceMul]) | (refine opsW_nil (hKQ _ _ _ ?_); clear hKQ KQ; try simp only [seqK, blockK, loopG, List.length_cons, List.length_nil, Nat.reduceAdd, Nat.reduceMul]) | (refine WP_cond (t := true) rfl ?_; simp only [if_true]) | (refine WP_cond (t := false) rfl ?_; simp only [if_false, Bool.false_eq_true]) | (refine WP_skip ?_; simp only [seqK, blockK, loopG]) | (refine WP_ret ?_; simp only [seqK, blockK, loopG, Fin]) | (refine WP_exit ?_; simp only [seqK, blockK, loopG, reduceIte, Nat.reduceEqDiff]))
    (refine Res_of rfl ?_ ?_; (focus (first | (refine ⟨⟨?_, ?_⟩, trivial⟩ <;> first | exact Nat.le_of_ble_eq_true rfl | (refine Nat.le_of_ble_eq_true ?_; kernel_rfl) | (intro hh; cases hh)) | (refine ⟨⟨?_, ?_⟩, trivial, trivial⟩ <;> first | (refine Nat.le_of_ble_eq_true ?_; kernel_rfl) | (intro hh; cases hh)) | (refine ⟨⟨?_, ?_⟩, trivial⟩ <;> decide) | (refine ⟨⟨?_, ?_⟩, ⟨trivial, trivial⟩⟩ <;> decide) | decide | (simp [Blk.cells]; done))); exact ⟨_, rfl⟩)
theorem r20_steps.ok (f r c : Int) (x : Rt) (n : Int) (h : beginS f r c x = 0) (h1 : ¬ n < 0) (h2 : ¬ 16 < n) : Sound Try.prog 40 [Wt f r c, R x, I n] (.tup [R (itR f r c n.toNat x (makeS 0 1).1).1, R (itR f r c n.toNat x (makeS 0 1).1).2, I 0]) := by
  obtain ⟨k1, k2⟩ := begin_zero h
  have c1 := r20_Check.c f r c
  have c2 := r20_White.c x
  have sd := fun x => r20_step.c f r c x k1
  rw [k1] at c1; rw [k2] at c2
  clear h k1 k2
  have c3 := r3_Of.c 0 (by decide)
  have hh := rl_it f r c n (by omega) n.toNat x (makeS 0 1).1 0 (by omega) (by omega)
  generalize itR f r c n.toNat x (makeS 0 1).1 = w at *
  generalize makeS 0 1 = z at *
  refine Sound.of_WP tok Try.func40 rfl rfl ?_; simp only [Try.f40, args0, List.map, List.length_cons, List.length_nil, Nat.reduceAdd, Nat.reduceSub, List.replicate, List.cons_append, List.nil_append]
  repeat' (first | refine WP_seq ?_ | refine WP_block ?_ | (refine WP_R 64 (by decide) fun KQ hKQ => ?_) | (refine WP_D 64 (by decide) ?_ fun KQ hKQ => ?_; (focus kernel_rfl)) | ((first | (refine opsW_op rfl rfl rfl ?_ rfl ?_; (first | exact trivial | omega | (dsimp only; omega) | (dsimp only; exact ⟨by omega, by omega, by omega⟩) | (simp only [Mid.len, Blk.cells, List.length_map, List.length_set, List.length_replicate, List.length_append, Nat.mul_one, Nat.zero_add, reduceCtorEq, List.length_cons, List.length_nil, List.length_take, List.length_drop, true_and, and_true, false_implies, implies_true]; first | done | omega) | (simp; done) | (simp; omega) | grind)) | (refine opsW_callP (qs := ?_) (rd := ?_) (u := ?_) (c1) rfl rfl rfl ?_ ?_ ?_ ?_ ?_; rotate_right 6; (focus rfl); (focus (first | rfl | (simp only [nrm1, nrm, List.map, List.drop_zero, Nat.mul_one, takeI, dropI, List.take_length]; done) | (simp only [nrm1, nrm, List.map, List.drop_zero, Nat.mul_one, takeI, dropI, List.take_length]; rfl))); rotate_left 1; (focus rfl); (focus rfl); rotate_right 0) | (refine opsW_callP (qs := ?_) (rd := ?_) (u := ?_) (c2) rfl rfl rfl ?_ ?_ ?_ ?_ ?_; rotate_right 6; (focus rfl); (focus (first | rfl | (simp only [nrm1, nrm, List.map, List.drop_zero, Nat.mul_one, takeI, dropI, List.take_length]; done) | (simp only [nrm1, nrm, List.map, List.drop_zero, Nat.mul_one, takeI, dropI, List.take_length]; rfl))); rotate_left 1; (focus rfl); (focus rfl); rotate_right 0) | (refine opsW_callP (qs := ?_) (rd := ?_) (u := ?_) (c3) rfl rfl rfl ?_ ?_ ?_ ?_ ?_; rotate_right 6; (focus rfl); (focus (first | rfl | (simp only [nrm1, nrm, List.map, List.drop_zero, Nat.mul_one, takeI, dropI, List.take_length]; done) | (simp only [nrm1, nrm, List.map, List.drop_zero, Nat.mul_one, takeI, dropI, List.take_length]; rfl))); rotate_left 1; (focus rfl); (focus rfl); rotate_right 0)); (try simp only [Mid.get, Mid.set, mx_fold, PV.flat, flats, nrm1, nrm, Bool.true_and, Bool.and_true, Bool.and_self, ev, List.replicate, Option.map_some, Option.bind_some, Nat.reduceBEq, beq_self_eq_true, setD, List.set, puts, put, del, cellsTo, cells1, allP, lay, putIn, joinB, sub, overB, rep, Blk.mk, AV.cells, List.map, List.drop, List.take, List.cons_append, List.nil_append, List.append_nil, List.getD_cons_succ, List.getD_cons_zero, if_true, if_false, Bool.false_eq_true, reduceIte, wrap_i64, getI, takeI, dropI, setI, repI, Nat.mul_one, Nat.one_mul, Nat.zero_add, Nat.add_zero, Nat.zero_mul, Int.toNat_natCast, Int.reduceNeg, Int.reduceToNat, Nat.reduceAdd, Nat.reduceMul, Nat.reduceSub, decide_true, decide_false, Bool.not_true, Bool.not_false, cond_true, cond_false, gt_iff_lt, ge_iff_le, Int.reduceLT, Int.reduceLE, Int.lt_irrefl, Int.le_refl, List.length_set, List.length_map, *])) | (refine opsW_skip rfl ?_; simp only [setD, List.set]) | (refine opsW_nil ⟨?_, hKQ _ _ _ ?_⟩; (focus kernel_rfl); clear hKQ KQ; try simp only [seqK, blockK, loopG, List.length_cons, List.length_nil, Nat.reduceAdd, Nat.reduceMul]) | (refine opsW_nil (hKQ _ _ _ ?_); clear hKQ KQ; try simp only [seqK, blockK, loopG, List.length_cons, List.length_nil, Nat.reduceAdd, Nat.reduceMul]) | (refine WP_cond (t := true) rfl ?_; simp only [if_true]) | (refine WP_cond (t := false) rfl ?_; simp only [if_false, Bool.false_eq_true]) | (refine WP_skip ?_; simp only [seqK, blockK, loopG]) | (refine WP_ret ?_; simp only [seqK, blockK, loopG, Fin]) | (refine WP_exit ?_; simp only [seqK, blockK, loopG, reduceIte, Nat.reduceEqDiff]))
  refine WP_loop (WPL_weaken ?_ (WPL_rec (α := Rt × Rt × Int) (fun k x => rl f r c n k x) w (fun x => (mkE 62 [(2, .p (I n)), (3, .own 0 0), (4, .own 1 0), (6, .own 2 0), (7, .own 3 0), (10, .own 4 0), (12, .p (I x.2.2))], [(0, .pc 23 [I f, I r, I c]), (1, .pc 27 [B x.1.neg, N x.1.p, N x.1.q]), (2, .pc 27 [B false, .v (.slice none 0 0), .v (.slice none 0 0)]), (3, .pc 27 [B false, .v (.slice none 0 0), .v (.slice none 0 0)]), (4, .pc 27 [B x.2.1.neg, N x.2.1.p, N x.2.1.q])], 5)) ?_ _ (x, z.1, 0) hh))
  · (refine Wk.auto _ rfl rfl ?_ ?_ <;> simp only [nilA, Bool.false_eq_true, reduceCtorEq, false_or, or_false, Nat.le_refl, fitS, fitE, Stands, ren, rens, rho, renB, findR, get, Blk.cells, mkE, List.replicate, List.foldl, List.set, List.any_nil, List.any_cons, Bool.or_false, Bool.false_or, beq_self_eq_true, Nat.reduceBEq, Nat.blt_eq, Nat.not_lt_zero, decide_false, cond_true, cond_false, if_true, if_false, reduceIte, Nat.reduceEqDiff, Nat.reduceLT, List.length_set, List.length_append, List.length_replicate, List.length_cons, List.length_nil, List.map, true_or, or_true, and_true, true_and, and_self, Nat.reduceLeDiff, *] <;> (try (first | done | (simp; done) | omega)))
  · clear hh
    intro k ⟨x1, x2, x3⟩ K ih h
    simp only [mkE, List.replicate, List.foldl, List.set]
    cases k with
    | zero => simp [rl] at h
    | succ k =>
      simp only [rl] at h
      split at h
      · rename_i hb
        obtain ⟨b1, b2⟩ := hb
        have d1 := sd x1
        have d2 := r3_Add.c x2 (doneR f r c x1).1
        split at h
        · have w1 : wrap64 (x3 + 1) = x3 + 1 := w64 (by omega) (by omega)
          generalize doneR f r c x1 = D at *
          generalize addR x2 D.1 = E at *
          repeat' (first | refine WP_seq ?_ | refine WP_block ?_ | (refine WP_R 64 (by decide) fun KQ hKQ => ?_) | (refine WP_D 64 (by decide) ?_ fun KQ hKQ => ?_; (focus kernel_rfl)) | ((first | (refine opsW_op rfl rfl rfl ?_ rfl ?_; (first | exact trivial | omega | (dsimp only; omega) | (dsimp only; exact ⟨by omega, by omega, by omega⟩) | (simp only [Mid.len, Blk.cells, List.length_map, List.length_set, List.length_replicate, List.length_append, Nat.mul_one, Nat.zero_add, reduceCtorEq, List.length_cons, List.length_nil, List.length_take, List.length_drop, true_and, and_true, false_implies, implies_true]; first | done | omega) | (simp; done) | (simp; omega) | grind)) | (refine opsW_callP (qs := ?_) (rd := ?_) (u := ?_) (d1) rfl rfl rfl ?_ ?_ ?_ ?_ ?_; rotate_right 6; (focus rfl); (focus (first | rfl | (simp only [nrm1, nrm, List.map, List.drop_zero, Nat.mul_one, takeI, dropI, List.take_length]; done) | (simp only [nrm1, nrm, List.map, List.drop_zero, Nat.mul_one, takeI, dropI, List.take_length]; rfl))); rotate_left 1; (focus rfl); (focus rfl); rotate_right 0) | (refine opsW_callP (qs := ?_) (rd := ?_) (u := ?_) (d2) rfl rfl rfl ?_ ?_ ?_ ?_ ?_; rotate_right 6; (focus rfl); (focus (first | rfl | (simp only [nrm1, nrm, List.map, List.drop_zero, Nat.mul_one, takeI, dropI, List.take_length]; done) | (simp only [nrm1, nrm, List.map, List.drop_zero, Nat.mul_one, takeI, dropI, List.take_length]; rfl))); rotate_left 1; (focus rfl); (focus rfl); rotate_right 0)); (try simp only [Mid.get, Mid.set, mx_fold, PV.flat, flats, nrm1, nrm, Bool.true_and, Bool.and_true, Bool.and_self, ev, List.replicate, Option.map_some, Option.bind_some, Nat.reduceBEq, beq_self_eq_true, setD, List.set, puts, put, del, cellsTo, cells1, allP, lay, putIn, joinB, sub, overB, rep, Blk.mk, AV.cells, List.map, List.drop, List.take, List.cons_append, List.nil_append, List.append_nil, List.getD_cons_succ, List.getD_cons_zero, if_true, if_false, Bool.false_eq_true, reduceIte, wrap_i64, getI, takeI, dropI, setI, repI, Nat.mul_one, Nat.one_mul, Nat.zero_add, Nat.add_zero, Nat.zero_mul, Int.toNat_natCast, Int.reduceNeg, Int.reduceToNat, Nat.reduceAdd, Nat.reduceMul, Nat.reduceSub, decide_true, decide_false, Bool.not_true, Bool.not_false, cond_true, cond_false, gt_iff_lt, ge_iff_le, Int.reduceLT, Int.reduceLE, Int.lt_irrefl, Int.le_refl, List.length_set, List.length_map, *])) | (refine opsW_skip rfl ?_; simp only [setD, List.set]) | (refine opsW_nil ⟨?_, hKQ _ _ _ ?_⟩; (focus kernel_rfl); clear hKQ KQ; try simp only [seqK, blockK, loopG, List.length_cons, List.length_nil, Nat.reduceAdd, Nat.reduceMul]) | (refine opsW_nil (hKQ _ _ _ ?_); clear hKQ KQ; try simp only [seqK, blockK, loopG, List.length_cons, List.length_nil, Nat.reduceAdd, Nat.reduceMul]) | (refine WP_cond (t := true) rfl ?_; simp only [if_true]) | (refine WP_cond (t := false) rfl ?_; simp only [if_false, Bool.false_eq_true]) | (refine WP_skip ?_; simp only [seqK, blockK, loopG]) | (refine WP_ret ?_; simp only [seqK, blockK, loopG, Fin]) | (refine WP_exit ?_; simp only [seqK, blockK, loopG, reduceIte, Nat.reduceEqDiff]))
          first
          | (refine ih _ _ _ _ (_, _, _) (Nat.lt_succ_self _) h ?_; (refine Wk.auto _ rfl rfl ?_ ?_ <;> simp only [nilA, Bool.false_eq_true, reduceCtorEq, false_or, or_false, Nat.le_refl, fitS, fitE, Stands, ren, rens, rho, renB, findR, get, Blk.cells, mkE, List.replicate, List.foldl, List.set, List.any_nil, List.any_cons, Bool.or_false, Bool.false_or, beq_self_eq_true, Nat.reduceBEq, Nat.blt_eq, Nat.not_lt_zero, decide_false, cond_true, cond_false, if_true, if_false, reduceIte, Nat.reduceEqDiff, Nat.reduceLT, List.length_set, List.length_append, List.length_replicate, List.length_cons, List.length_nil, List.map, true_or, or_true, and_true, true_and, and_self, Nat.reduceLeDiff, *] <;> (try (first | done | (simp; done) | omega))))
        · injection h with h
          subst h
          repeat' (first | refine WP_seq ?_ | refine WP_block ?_ | (refine WP_R 64 (by decide) fun KQ hKQ => ?_) | (refine WP_D 64 (by decide) ?_ fun KQ hKQ => ?_; (focus kernel_rfl)) | ((first | (refine opsW_op rfl rfl rfl ?_ rfl ?_; (first | exact trivial | omega | (dsimp only; omega) | (dsimp only; exact ⟨by omega, by omega, by omega⟩) | (simp only [Mid.len, Blk.cells, List.length_map, List.length_set, List.length_replicate, List.length_append, Nat.mul_one, Nat.zero_add, reduceCtorEq, List.length_cons, List.length_nil, List.length_take, List.length_drop, true_and, and_true, false_implies, implies_true]; first | done | omega) | (simp; done) | (simp; omega) | grind))); (try simp only [Mid.get, Mid.set, mx_fold, PV.flat, flats, nrm1, nrm, Bool.true_and, Bool.and_true, Bool.and_self, ev, List.replicate, Option.map_some, Option.bind_some, Nat.reduceBEq, beq_self_eq_true, setD, List.set, puts, put, del, cellsTo, cells1, allP, lay, putIn, joinB, sub, overB, rep, Blk.mk, AV.cells, List.map, List.drop, List.take, List.cons_append, List.nil_append, List.append_nil, List.getD_cons_succ, List.getD_cons_zero, if_true, if_false, Bool.false_eq_true, reduceIte, wrap_i64, getI, takeI, dropI, setI, repI, Nat.mul_one, Nat.one_mul, Nat.zero_add, Nat.add_zero, Nat.zero_mul, Int.toNat_natCast, Int.reduceNeg, Int.reduceToNat, Nat.reduceAdd, Nat.reduceMul, Nat.reduceSub, decide_true, decide_false, Bool.not_true, Bool.not_false, cond_true, cond_false, gt_iff_lt, ge_iff_le, Int.reduceLT, Int.reduceLE, Int.lt_irrefl, Int.le_refl, List.length_set, List.length_map, *])) | (refine opsW_skip rfl ?_; simp only [setD, List.set]) | (refine opsW_nil ⟨?_, hKQ _ _ _ ?_⟩; (focus kernel_rfl); clear hKQ KQ; try simp only [seqK, blockK, loopG, List.length_cons, List.length_nil, Nat.reduceAdd, Nat.reduceMul]) | (refine opsW_nil (hKQ _ _ _ ?_); clear hKQ KQ; try simp only [seqK, blockK, loopG, List.length_cons, List.length_nil, Nat.reduceAdd, Nat.reduceMul]) | (refine WP_cond (t := true) rfl ?_; simp only [if_true]) | (refine WP_cond (t := false) rfl ?_; simp only [if_false, Bool.false_eq_true]) | (refine WP_skip ?_; simp only [seqK, blockK, loopG]) | (refine WP_ret ?_; simp only [seqK, blockK, loopG, Fin]) | (refine WP_exit ?_; simp only [seqK, blockK, loopG, reduceIte, Nat.reduceEqDiff]))
          first
          | (refine Res_of rfl ?_ ?_; (focus (first | (refine ⟨⟨?_, ?_⟩, trivial⟩ <;> first | exact Nat.le_of_ble_eq_true rfl | (refine Nat.le_of_ble_eq_true ?_; kernel_rfl) | (intro hh; cases hh)) | (refine ⟨⟨?_, ?_⟩, trivial, trivial⟩ <;> first | (refine Nat.le_of_ble_eq_true ?_; kernel_rfl) | (intro hh; cases hh)) | (refine ⟨⟨?_, ?_⟩, trivial⟩ <;> decide) | (refine ⟨⟨?_, ?_⟩, ⟨trivial, trivial⟩⟩ <;> decide) | decide | (simp [Blk.cells]; done))); exact ⟨_, rfl⟩)
      · cases h
theorem r20_After.bad (f r c : Int) (x : Rt) (n : Int) (h : beginS f r c x ≠ 0) : Sound Try.prog 20 [Wt f r c, R x, I n] (.tup [R zR, I (beginS f r c x)]) := by
  have c1 := r20_steps.bad f r c x n h
  generalize beginS f r c x = e at *
  obtain ⟨xn, xp, xq⟩ := x
  exact runL tok mixed [40] 100 2 (Good.cons c1 Good.nil) (by kernel_rfl)
theorem r20_After.out (f r c : Int) (x : Rt) (n : Int) (h : beginS f r c x = 0) (hn : n < 0 ∨ (¬ n < 0 ∧ 16 < n)) : Sound Try.prog 20 [Wt f r c, R x, I n] (.tup [R zR, I 1]) := by
  have c1 := r20_steps.out f r c x n h hn
  obtain ⟨xn, xp, xq⟩ := x
  exact runL tok mixed [40] 100 2 (Good.cons c1 Good.nil) (by kernel_rfl)
theorem r20_After.ok (f r c : Int) (x : Rt) (n : Int) (h : beginS f r c x = 0) (h1 : ¬ n < 0) (h2 : ¬ 16 < n) : Sound Try.prog 20 [Wt f r c, R x, I n] (.tup [R (itR f r c n.toNat x (makeS 0 1).1).1, I 0]) := by
  have c1 := r20_steps.ok f r c x n h h1 h2
  generalize itR f r c n.toNat x (makeS 0 1).1 = w at *
  obtain ⟨xn, xp, xq⟩ := x
  obtain ⟨⟨yn, yp, yq⟩, ⟨zn, zp, zq⟩⟩ := w
  exact runL tok mixed [40] 100 2 (Good.cons c1 Good.nil) (by kernel_rfl)
theorem r20_Paper.bad (f r c : Int) (x : Rt) (n : Int) (h : beginS f r c x ≠ 0) : Sound Try.prog 22 [Wt f r c, R x, I n] (.tup [R zR, I (beginS f r c x)]) := by
  have c1 := r20_steps.bad f r c x n h
  generalize beginS f r c x = e at *
  obtain ⟨xn, xp, xq⟩ := x
  exact runL tok mixed [40] 100 2 (Good.cons c1 Good.nil) (by kernel_rfl)
theorem r20_Paper.out (f r c : Int) (x : Rt) (n : Int) (h : beginS f r c x = 0) (hn : n < 0 ∨ (¬ n < 0 ∧ 16 < n)) : Sound Try.prog 22 [Wt f r c, R x, I n] (.tup [R zR, I 1]) := by
  have c1 := r20_steps.out f r c x n h hn
  obtain ⟨xn, xp, xq⟩ := x
  exact runL tok mixed [40] 100 2 (Good.cons c1 Good.nil) (by kernel_rfl)
theorem r20_Paper.ok (f r c : Int) (x : Rt) (n : Int) (h : beginS f r c x = 0) (h1 : ¬ n < 0) (h2 : ¬ 16 < n) : Sound Try.prog 22 [Wt f r c, R x, I n] (.tup [R (itR f r c n.toNat x (makeS 0 1).1).2, I 0]) := by
  have c1 := r20_steps.ok f r c x n h h1 h2
  generalize itR f r c n.toNat x (makeS 0 1).1 = w at *
  obtain ⟨xn, xp, xq⟩ := x
  obtain ⟨⟨yn, yp, yq⟩, ⟨zn, zp, zq⟩⟩ := w
  exact runL tok mixed [40] 100 2 (Good.cons c1 Good.nil) (by kernel_rfl)
end Go.Proofs.Ytbjamhkhocjdkaa.Pw
namespace Go.Proofs.Ytbjamhkhocjdkaa.Px
open Go.Proofs.Ytbjamhkhocjdkaa.Wd Go.Proofs.Ytbjamhkhocjdkaa.Mat
set_option linter.unusedVariables false
def Q (a b : Int) : Rt := ⟨false, [a], [b]⟩
def lim (n : Int) : Prop := 0 < n ∧ n < 1000000000
theorem dg_small {n : Int} (h : lim n) : dg n = [n] := by
  rw [dg_pos h.1, Int.emod_eq_of_lt (by have := h.1; omega) h.2, Int.ediv_eq_zero_of_lt (by have := h.1; omega) h.2, dg_zero]
theorem val_one (n : Int) : val [n] = n := by simp [val]
theorem ok_small {n : Int} (h : lim n) : okN [n] = true := by
  rw [← dg_small h]
  exact okN_iff.2 (ok_dg (by have := h.1; omega) (by have := h.2; have : (1000000000 : Int) < pw 48 := by decide
                                                     omega))
theorem fit_small {n : Int} (h : lim n) : fitS n = ([n], 0) := by
  have := fit_val (ok_small h)
  rwa [val_one] at this
theorem rv_Q {a b : Int} (ha : lim a) (hb : lim b) (g : gcdI a b = 1) : rvB (Q a b) = true :=
  rvB_iff.2 ⟨ok_small ha, ok_small hb, by simp [Q], by simp [Q], by show gcdI (val [a]) (val [b]) = 1; rw [val_one, val_one]; exact g⟩
theorem red_Q {N M n m : Int} (hN : lim N) (hM : lim M) (hn : lim n) (hm : lim m) (g : gcdI n m = 1) (h : N * m = n * M) : redS false [N] [M] = Q n m := by
  have r := redS_ok false (ok_small hN) (ok_small hM) (by simp)
  refine canon r.1 (rv_Q hn hm g) ?_
  have r2 := r.2
  rw [val_one, val_one] at r2
  simp only [Bool.false_eq_true, if_false] at r2
  have e1 : dd (Q n m) = m := val_one m
  have e2 : nn (Q n m) = n := val_one n
  rw [e1, e2]
  have hM0 : M ≠ 0 := by have := hM.1; omega
  refine Int.eq_of_mul_eq_mul_right hM0 ?_
  grind
theorem mul_small {a c : Int} (ha : lim a) (hc : lim c) (h : lim (a * c)) : mulS [a] [c] = ([a * c], 0) := by rw [mulS_ok (ok_small ha) (ok_small hc), val_one, val_one, fit_small h]
theorem mul_Q {a b c d n m : Int} (ha : lim a) (hb : lim b) (hc : lim c) (hd : lim d) (g1 : gcdI a b = 1) (g2 : gcdI c d = 1) (h1 : lim (a * c)) (h2 : lim (b * d)) (hn : lim n) (hm : lim m) (g : gcdI n m = 1) (h : a * c * m = n * (b * d)) : mulR (Q a b) (Q c d) = (Q n m, 0) := by
  unfold mulR
  rw [if_pos ⟨rv_Q ha hb g1, rv_Q hc hd g2⟩]
  have e1 : mulS (Q a b).p (Q c d).p = ([a * c], 0) := mul_small ha hc h1
  have e2 : mulS (Q a b).q (Q c d).q = ([b * d], 0) := mul_small hb hd h2
  rw [e1, e2, if_pos rfl, if_pos rfl]
  show (redS false [a * c] [b * d], (0 : Int)) = _
  rw [red_Q h1 h2 hn hm g h]
theorem add_Q {a b c d n m : Int} (ha : lim a) (hb : lim b) (hc : lim c) (hd : lim d) (g1 : gcdI a b = 1) (g2 : gcdI c d = 1) (h1 : lim (a * d)) (h2 : lim (c * b)) (h3 : lim (b * d)) (h4 : lim (a * d + c * b)) (hn : lim n) (hm : lim m) (g : gcdI n m = 1) (h : (a * d + c * b) * m = n * (b * d)) : addR (Q a b) (Q c d) = (Q n m, 0) := by
  unfold addR
  rw [if_pos ⟨rv_Q ha hb g1, rv_Q hc hd g2⟩]
  have e1 : mulS (Q a b).p (Q c d).q = ([a * d], 0) := mul_small ha hd h1
  have e2 : mulS (Q c d).p (Q a b).q = ([c * b], 0) := mul_small hc hb h2
  have e3 : mulS (Q a b).q (Q c d).q = ([b * d], 0) := mul_small hb hd h3
  have e4 : plusS (Q a b).neg [a * d] (Q c d).neg [c * b] = (false, [a * d + c * b], 0) := by
    show plusS false [a * d] false [c * b] = _
    unfold plusS
    rw [if_pos rfl]
    have : addS [a * d] [c * b] = ([a * d + c * b], 0) := by unfold addS; rw [if_pos ⟨ok_small h1, ok_small h2⟩, val_one, val_one, fit_small h4]
    rw [this]
  rw [e1, e2, e3, e4, if_pos ⟨rfl, rfl, rfl, rfl⟩]
  show (redS false [a * d + c * b] [b * d], (0 : Int)) = _
  rw [red_Q h4 h3 hn hm g h]
theorem sub_Q {a b c d n m : Int} (ha : lim a) (hb : lim b) (hc : lim c) (hd : lim d) (g1 : gcdI a b = 1) (g2 : gcdI c d = 1) (h1 : lim (a * d)) (h2 : lim (c * b)) (h3 : lim (b * d)) (h4 : lim (a * d - c * b)) (hn : lim n) (hm : lim m) (g : gcdI n m = 1) (h : (a * d - c * b) * m = n * (b * d)) : subR (Q a b) (Q c d) = (Q n m, 0) := by
  unfold subR
  rw [if_pos ⟨rv_Q ha hb g1, rv_Q hc hd g2⟩]
  have hv := (negR_ok (rv_Q hc hd g2)).1
  have en : negR (Q c d) = ⟨true, [c], [d]⟩ := rfl
  rw [en] at hv ⊢
  unfold addR
  rw [if_pos ⟨rv_Q ha hb g1, hv⟩]
  have e1 : mulS (Q a b).p [d] = ([a * d], 0) := mul_small ha hd h1
  have e2 : mulS [c] (Q a b).q = ([c * b], 0) := mul_small hc hb h2
  have e3 : mulS (Q a b).q [d] = ([b * d], 0) := mul_small hb hd h3
  have e4 : plusS (Q a b).neg [a * d] true [c * b] = (false, [a * d - c * b], 0) := by
    show plusS false [a * d] true [c * b] = _
    unfold plusS
    have l4 := h4.1
    rw [if_neg (by decide), val_one, val_one, if_neg (by unfold cmpS; rw [if_neg (by omega)]; split <;> omega)]
    have : subS [a * d] [c * b] = ([a * d - c * b], 0) := by unfold subS; rw [if_pos ⟨ok_small h1, ok_small h2⟩, val_one, val_one, if_neg (by omega), dg_small h4]
    rw [this]
  simp only [e1, e2, e3, e4, and_self, if_true]
  rw [red_Q h4 h3 hn hm g h]
theorem make_Q {p q n m : Int} (hp : lim p) (hq : lim q) (hn : lim n) (hm : lim m) (g : gcdI n m = 1) (h : p * m = n * q) : makeS p q = (Q n m, 0) := by
  have i1 : inR p = true := inR_of (by have := hp.1; omega) (by have := hp.2; omega)
  have i2 : inR q = true := inR_of (by have := hq.1; omega) (by have := hq.2; omega)
  unfold makeS
  rw [if_pos ⟨i1, i2⟩, if_neg (by have := hq.1; omega)]
  have a1 : absI p = p := by unfold absI; rw [if_neg (by have := hp.1; omega)]
  have a2 : absI q = q := by unfold absI; rw [if_neg (by have := hq.1; omega)]
  have b1 : decide (p < 0) = false := by simp; have := hp.1; omega
  have b2 : decide (q < 0) = false := by simp; have := hq.1; omega
  rw [a1, a2, b1, b2, dg_small hp, dg_small hq]
  show (redS false [p] [q], (0 : Int)) = _
  rw [red_Q hp hq hn hm g h]
theorem add_0Q {c d : Int} (hc : lim c) (hd : lim d) (g2 : gcdI c d = 1) : addR ⟨false, [], [1]⟩ (Q c d) = (Q c d, 0) := by
  have h0 : rvB ⟨false, [], [1]⟩ = true := by
    refine rvB_iff.2 ⟨by decide, by decide, by decide, by simp, ?_⟩
    show gcdI (val []) (val [1]) = 1
    decide
  have l1 : lim 1 := by constructor <;> decide
  unfold addR
  rw [if_pos ⟨h0, rv_Q hc hd g2⟩]
  have e1 : mulS [] (Q c d).q = ([], 0) := by show mulS [] [d] = _; rw [mulS_ok (by decide) (ok_small hd), show val [] = 0 from rfl, Int.zero_mul]; exact fit_val (l := []) (by decide)
  have e2 : mulS (Q c d).p [1] = ([c], 0) := by show mulS [c] [1] = _; rw [mulS_ok (ok_small hc) (ok_small l1), val_one, val_one, Int.mul_one, fit_small hc]
  have e3 : mulS [1] (Q c d).q = ([d], 0) := by show mulS [1] [d] = _; rw [mulS_ok (ok_small l1) (ok_small hd), val_one, val_one, Int.one_mul, fit_small hd]
  have e4 : plusS false [] (Q c d).neg [c] = (false, [c], 0) := by
    show plusS false [] false [c] = _
    unfold plusS
    rw [if_pos rfl]
    have : addS [] [c] = ([c], 0) := by unfold addS; rw [if_pos ⟨by decide, ok_small hc⟩, val_one, show val [] = 0 from rfl, Int.zero_add, fit_small hc]
    rw [this]
  simp only [e1, e2, e3, e4, and_self, if_true]
  rw [red_Q hc hd hc hd g2 rfl]
theorem w_make (n : Int) (h : lim n) : makeS n 1 = (Q n 1, 0) := make_Q h ⟨by decide, by decide⟩ h ⟨by decide, by decide⟩ (by unfold gcdI; simp) rfl
theorem t_600 : makeS 600 1000 = (Q 3 5, 0) := make_Q ⟨by decide, by decide⟩ ⟨by decide, by decide⟩ ⟨by decide, by decide⟩ ⟨by decide, by decide⟩ (by decide) (by decide)
theorem t_500 : makeS 500 1000 = (Q 1 2, 0) := make_Q ⟨by decide, by decide⟩ ⟨by decide, by decide⟩ ⟨by decide, by decide⟩ ⟨by decide, by decide⟩ (by decide) (by decide)
theorem done_100 : doneR 900 600 500 (Q 100 1) = (Q 600 1, Q 200 1, Q 200 1) := by
  unfold doneR timesR
  simp only [w_make 900 ⟨by decide, by decide⟩, t_600, t_500, (add_Q (a := 900) (b := 1) (c := 100) (d := 1) (n := 1000) (m := 1) ⟨by decide, by decide⟩ ⟨by decide, by decide⟩ ⟨by decide, by decide⟩ ⟨by decide, by decide⟩ (by decide) (by decide) ⟨by decide, by decide⟩ ⟨by decide, by decide⟩ ⟨by decide, by decide⟩ ⟨by decide, by decide⟩ ⟨by decide, by decide⟩ ⟨by decide, by decide⟩ (by decide) (by decide)), (mul_Q (a := 1000) (b := 1) (c := 3) (d := 5) (n := 600) (m := 1) ⟨by decide, by decide⟩ ⟨by decide, by decide⟩ ⟨by decide, by decide⟩ ⟨by decide, by decide⟩ (by decide) (by decide) ⟨by decide, by decide⟩ ⟨by decide, by decide⟩ ⟨by decide, by decide⟩ ⟨by decide, by decide⟩ (by decide) (by decide)), (sub_Q (a := 1000) (b := 1) (c := 600) (d := 1) (n := 400) (m := 1) ⟨by decide, by decide⟩ ⟨by decide, by decide⟩ ⟨by decide, by decide⟩ ⟨by decide, by decide⟩ (by decide) (by decide) ⟨by decide, by decide⟩ ⟨by decide, by decide⟩ ⟨by decide, by decide⟩ ⟨by decide, by decide⟩ ⟨by decide, by decide⟩ ⟨by decide, by decide⟩ (by decide) (by decide)), (mul_Q (a := 400) (b := 1) (c := 1) (d := 2) (n := 200) (m := 1) ⟨by decide, by decide⟩ ⟨by decide, by decide⟩ ⟨by decide, by decide⟩ ⟨by decide, by decide⟩ (by decide) (by decide) ⟨by decide, by decide⟩ ⟨by decide, by decide⟩ ⟨by decide, by decide⟩ ⟨by decide, by decide⟩ (by decide) (by decide)), (sub_Q (a := 400) (b := 1) (c := 200) (d := 1) (n := 200) (m := 1) ⟨by decide, by decide⟩ ⟨by decide, by decide⟩ ⟨by decide, by decide⟩ ⟨by decide, by decide⟩ (by decide) (by decide) ⟨by decide, by decide⟩ ⟨by decide, by decide⟩ ⟨by decide, by decide⟩ ⟨by decide, by decide⟩ ⟨by decide, by decide⟩ ⟨by decide, by decide⟩ (by decide) (by decide))]
theorem done_225 : doneR 900 600 500 (Q 225 1) = (Q 675 1, Q 225 1, Q 225 1) := by
  unfold doneR timesR
  simp only [w_make 900 ⟨by decide, by decide⟩, t_600, t_500, (add_Q (a := 900) (b := 1) (c := 225) (d := 1) (n := 1125) (m := 1) ⟨by decide, by decide⟩ ⟨by decide, by decide⟩ ⟨by decide, by decide⟩ ⟨by decide, by decide⟩ (by decide) (by decide) ⟨by decide, by decide⟩ ⟨by decide, by decide⟩ ⟨by decide, by decide⟩ ⟨by decide, by decide⟩ ⟨by decide, by decide⟩ ⟨by decide, by decide⟩ (by decide) (by decide)), (mul_Q (a := 1125) (b := 1) (c := 3) (d := 5) (n := 675) (m := 1) ⟨by decide, by decide⟩ ⟨by decide, by decide⟩ ⟨by decide, by decide⟩ ⟨by decide, by decide⟩ (by decide) (by decide) ⟨by decide, by decide⟩ ⟨by decide, by decide⟩ ⟨by decide, by decide⟩ ⟨by decide, by decide⟩ (by decide) (by decide)), (sub_Q (a := 1125) (b := 1) (c := 675) (d := 1) (n := 450) (m := 1) ⟨by decide, by decide⟩ ⟨by decide, by decide⟩ ⟨by decide, by decide⟩ ⟨by decide, by decide⟩ (by decide) (by decide) ⟨by decide, by decide⟩ ⟨by decide, by decide⟩ ⟨by decide, by decide⟩ ⟨by decide, by decide⟩ ⟨by decide, by decide⟩ ⟨by decide, by decide⟩ (by decide) (by decide)), (mul_Q (a := 450) (b := 1) (c := 1) (d := 2) (n := 225) (m := 1) ⟨by decide, by decide⟩ ⟨by decide, by decide⟩ ⟨by decide, by decide⟩ ⟨by decide, by decide⟩ (by decide) (by decide) ⟨by decide, by decide⟩ ⟨by decide, by decide⟩ ⟨by decide, by decide⟩ ⟨by decide, by decide⟩ (by decide) (by decide)), (sub_Q (a := 450) (b := 1) (c := 225) (d := 1) (n := 225) (m := 1) ⟨by decide, by decide⟩ ⟨by decide, by decide⟩ ⟨by decide, by decide⟩ ⟨by decide, by decide⟩ (by decide) (by decide) ⟨by decide, by decide⟩ ⟨by decide, by decide⟩ ⟨by decide, by decide⟩ ⟨by decide, by decide⟩ ⟨by decide, by decide⟩ ⟨by decide, by decide⟩ (by decide) (by decide))]
theorem steady_end : timesR (makeS 900 1).1 ((1000 - 600) * 500) (1000000 - (1000 - 600) * 500) = Q 225 1 := by
  have e : makeS ((1000 - 600) * 500) (1000000 - (1000 - 600) * 500) = (Q 1 4, 0) := make_Q ⟨by decide, by decide⟩ ⟨by decide, by decide⟩ ⟨by decide, by decide⟩ ⟨by decide, by decide⟩ (by decide) (by decide)
  unfold timesR
  simp only [e, w_make 900 ⟨by decide, by decide⟩, (mul_Q (a := 900) (b := 1) (c := 1) (d := 4) (n := 225) (m := 1) ⟨by decide, by decide⟩ ⟨by decide, by decide⟩ ⟨by decide, by decide⟩ ⟨by decide, by decide⟩ (by decide) (by decide) ⟨by decide, by decide⟩ ⟨by decide, by decide⟩ ⟨by decide, by decide⟩ ⟨by decide, by decide⟩ (by decide) (by decide))]
theorem all_1 : addR ⟨false, [], [1]⟩ (Q 675 1) = (Q 675 1, 0) := add_0Q ⟨by decide, by decide⟩ ⟨by decide, by decide⟩ (by decide)
theorem all_2 : addR (Q 675 1) (Q 675 1) = (Q 1350 1, 0) := (add_Q (a := 675) (b := 1) (c := 675) (d := 1) (n := 1350) (m := 1) ⟨by decide, by decide⟩ ⟨by decide, by decide⟩ ⟨by decide, by decide⟩ ⟨by decide, by decide⟩ (by decide) (by decide) ⟨by decide, by decide⟩ ⟨by decide, by decide⟩ ⟨by decide, by decide⟩ ⟨by decide, by decide⟩ ⟨by decide, by decide⟩ ⟨by decide, by decide⟩ (by decide) (by decide))
theorem all_3 : addR (Q 1350 1) (Q 675 1) = (Q 2025 1, 0) := (add_Q (a := 1350) (b := 1) (c := 675) (d := 1) (n := 2025) (m := 1) ⟨by decide, by decide⟩ ⟨by decide, by decide⟩ ⟨by decide, by decide⟩ ⟨by decide, by decide⟩ (by decide) (by decide) ⟨by decide, by decide⟩ ⟨by decide, by decide⟩ ⟨by decide, by decide⟩ ⟨by decide, by decide⟩ ⟨by decide, by decide⟩ ⟨by decide, by decide⟩ (by decide) (by decide))
end Go.Proofs.Ytbjamhkhocjdkaa.Px
namespace Go.Proofs.Ytbjamhkhocjdkaa.Pw
open Go Wd Px Mat
set_option linter.unusedVariables false
set_option linter.unusedSimpArgs false
set_option maxRecDepth 100000
set_option maxHeartbeats 8000000
attribute [local irreducible] Int.tmod Int.tdiv
def lightS (x : Rt) : Bool := decide (mx (x.p.length : Int) x.q.length ≤ 3) || (decide (8 < mx (x.p.length : Int) x.q.length) && decide (mx (x.p.length : Int) x.q.length ≤ 12))
theorem light.c (x : Rt) : Sound Try.prog 16 [R x] (B (lightS x)) := by
  obtain ⟨n, p, q⟩ := x
  unfold lightS
  dsimp only
  by_cases h1 : mx (p.length : Int) q.length ≤ 3
  · simp only [h1, decide_true, Bool.true_or]
    refine Sound.of_WP tok Try.func16 rfl rfl ?_; simp only [Try.f16, args0, List.map, List.length_cons, List.length_nil, Nat.reduceAdd, Nat.reduceSub, List.replicate, List.cons_append, List.nil_append]
    repeat' (first | refine WP_seq ?_ | refine WP_block ?_ | (refine WP_R 64 (by decide) fun KQ hKQ => ?_) | (refine WP_D 64 (by decide) ?_ fun KQ hKQ => ?_; (focus kernel_rfl)) | ((first | (refine opsW_op rfl rfl rfl ?_ rfl ?_; (first | exact trivial | omega | (dsimp only; omega) | (dsimp only; exact ⟨by omega, by omega, by omega⟩) | (simp only [Mid.len, Blk.cells, List.length_map, List.length_set, List.length_replicate, List.length_append, Nat.mul_one, Nat.zero_add, reduceCtorEq, List.length_cons, List.length_nil, List.length_take, List.length_drop, true_and, and_true, false_implies, implies_true]; first | done | omega) | (simp; done) | (simp; omega) | grind))); (try simp only [Mid.get, Mid.set, mx_fold, PV.flat, flats, nrm1, nrm, Bool.true_and, Bool.and_true, Bool.and_self, ev, List.replicate, Option.map_some, Option.bind_some, Nat.reduceBEq, beq_self_eq_true, setD, List.set, puts, put, del, cellsTo, cells1, allP, lay, putIn, joinB, sub, overB, rep, Blk.mk, AV.cells, List.map, List.drop, List.take, List.cons_append, List.nil_append, List.append_nil, List.getD_cons_succ, List.getD_cons_zero, if_true, if_false, Bool.false_eq_true, reduceIte, wrap_i64, getI, takeI, dropI, setI, repI, Nat.mul_one, Nat.one_mul, Nat.zero_add, Nat.add_zero, Nat.zero_mul, Int.toNat_natCast, Int.reduceNeg, Int.reduceToNat, Nat.reduceAdd, Nat.reduceMul, Nat.reduceSub, decide_true, decide_false, Bool.not_true, Bool.not_false, cond_true, cond_false, gt_iff_lt, ge_iff_le, Int.reduceLT, Int.reduceLE, Int.lt_irrefl, Int.le_refl, List.length_set, List.length_map, *])) | (refine opsW_skip rfl ?_; simp only [setD, List.set]) | (refine opsW_nil ⟨?_, hKQ _ _ _ ?_⟩; (focus kernel_rfl); clear hKQ KQ; try simp only [seqK, blockK, loopG, List.length_cons, List.length_nil, Nat.reduceAdd, Nat.reduceMul]) | (refine opsW_nil (hKQ _ _ _ ?_); clear hKQ KQ; try simp only [seqK, blockK, loopG, List.length_cons, List.length_nil, Nat.reduceAdd, Nat.reduceMul]) | (refine WP_cond (t := true) rfl ?_; simp only [if_true]) | (refine WP_cond (t := false) rfl ?_; simp only [if_false, Bool.false_eq_true]) | (refine WP_skip ?_; simp only [seqK, blockK, loopG]) | (refine WP_ret ?_; simp only [seqK, blockK, loopG, Fin]) | (refine WP_exit ?_; simp only [seqK, blockK, loopG, reduceIte, Nat.reduceEqDiff]))
    (simp only [List.take_take, Nat.min_self, List.nil_append, Int.toNat_natCast, take_set_len, get, dropI, takeI, List.drop_zero, List.take_length, Nat.mul_one, Nat.reduceBEq, cond_true, cond_false, beq_self_eq_true, Option.map_some, Option.bind_some, Res, resAll, resOne, Fin, pack, frz, frzs, nrm1, nrm, Option.bind, Option.map, List.getD_cons_succ, List.getD_cons_zero, List.map, true_and, and_self, and_true]; first | exact ⟨_, rfl⟩ | (refine ⟨_, Option.some_inj.2 (Prod.ext ?_ rfl)⟩; simp only [List.take_take, Nat.min_self, List.nil_append, List.take_length, List.length_take, List.length_set, List.length_append, List.length_replicate, List.length_cons, List.length_nil, takeI, repI, setI, PV.tup.injEq, PV.lst.injEq, List.cons.injEq, and_true, true_and, *] <;> first | done | omega | (refine ⟨?_, ?_⟩ <;> first | rfl | omega)))
  · by_cases h2 : 8 < mx (p.length : Int) q.length <;> by_cases h3 : mx (p.length : Int) q.length ≤ 12
    all_goals
      simp only [h1, h2, h3, decide_true, decide_false, Bool.false_or, Bool.and_true, Bool.and_false, Bool.true_and]
      refine Sound.of_WP tok Try.func16 rfl rfl ?_; simp only [Try.f16, args0, List.map, List.length_cons, List.length_nil, Nat.reduceAdd, Nat.reduceSub, List.replicate, List.cons_append, List.nil_append]
      repeat' (first | refine WP_seq ?_ | refine WP_block ?_ | (refine WP_R 64 (by decide) fun KQ hKQ => ?_) | (refine WP_D 64 (by decide) ?_ fun KQ hKQ => ?_; (focus kernel_rfl)) | ((first | (refine opsW_op rfl rfl rfl ?_ rfl ?_; (first | exact trivial | omega | (dsimp only; omega) | (dsimp only; exact ⟨by omega, by omega, by omega⟩) | (simp only [Mid.len, Blk.cells, List.length_map, List.length_set, List.length_replicate, List.length_append, Nat.mul_one, Nat.zero_add, reduceCtorEq, List.length_cons, List.length_nil, List.length_take, List.length_drop, true_and, and_true, false_implies, implies_true]; first | done | omega) | (simp; done) | (simp; omega) | grind))); (try simp only [Mid.get, Mid.set, mx_fold, PV.flat, flats, nrm1, nrm, Bool.true_and, Bool.and_true, Bool.and_self, ev, List.replicate, Option.map_some, Option.bind_some, Nat.reduceBEq, beq_self_eq_true, setD, List.set, puts, put, del, cellsTo, cells1, allP, lay, putIn, joinB, sub, overB, rep, Blk.mk, AV.cells, List.map, List.drop, List.take, List.cons_append, List.nil_append, List.append_nil, List.getD_cons_succ, List.getD_cons_zero, if_true, if_false, Bool.false_eq_true, reduceIte, wrap_i64, getI, takeI, dropI, setI, repI, Nat.mul_one, Nat.one_mul, Nat.zero_add, Nat.add_zero, Nat.zero_mul, Int.toNat_natCast, Int.reduceNeg, Int.reduceToNat, Nat.reduceAdd, Nat.reduceMul, Nat.reduceSub, decide_true, decide_false, Bool.not_true, Bool.not_false, cond_true, cond_false, gt_iff_lt, ge_iff_le, Int.reduceLT, Int.reduceLE, Int.lt_irrefl, Int.le_refl, List.length_set, List.length_map, *])) | (refine opsW_skip rfl ?_; simp only [setD, List.set]) | (refine opsW_nil ⟨?_, hKQ _ _ _ ?_⟩; (focus kernel_rfl); clear hKQ KQ; try simp only [seqK, blockK, loopG, List.length_cons, List.length_nil, Nat.reduceAdd, Nat.reduceMul]) | (refine opsW_nil (hKQ _ _ _ ?_); clear hKQ KQ; try simp only [seqK, blockK, loopG, List.length_cons, List.length_nil, Nat.reduceAdd, Nat.reduceMul]) | (refine WP_cond (t := true) rfl ?_; simp only [if_true]) | (refine WP_cond (t := false) rfl ?_; simp only [if_false, Bool.false_eq_true]) | (refine WP_skip ?_; simp only [seqK, blockK, loopG]) | (refine WP_ret ?_; simp only [seqK, blockK, loopG, Fin]) | (refine WP_exit ?_; simp only [seqK, blockK, loopG, reduceIte, Nat.reduceEqDiff]))
      (simp only [List.take_take, Nat.min_self, List.nil_append, Int.toNat_natCast, take_set_len, get, dropI, takeI, List.drop_zero, List.take_length, Nat.mul_one, Nat.reduceBEq, cond_true, cond_false, beq_self_eq_true, Option.map_some, Option.bind_some, Res, resAll, resOne, Fin, pack, frz, frzs, nrm1, nrm, Option.bind, Option.map, List.getD_cons_succ, List.getD_cons_zero, List.map, true_and, and_self, and_true]; first | exact ⟨_, rfl⟩ | (refine ⟨_, Option.some_inj.2 (Prod.ext ?_ rfl)⟩; simp only [List.take_take, Nat.min_self, List.nil_append, List.take_length, List.length_take, List.length_set, List.length_append, List.length_replicate, List.length_cons, List.length_nil, takeI, repI, setI, PV.tup.injEq, PV.lst.injEq, List.cons.injEq, and_true, true_and, *] <;> first | done | omega | (refine ⟨?_, ?_⟩ <;> first | rfl | omega)))
theorem whole.c (n : Int) (hw : -9223372036854775808 ≤ n ∧ n ≤ 9223372036854775807) : Sound Try.prog 26 [I n] (R (makeS n 1).1) := by
  have c1 := r3_Of.c n hw
  generalize makeS n 1 = z at *
  obtain ⟨⟨zn, zp, zq⟩, ze⟩ := z
  exact runL tok mixed [33] 100 3 (Good.cons c1 Good.nil) (by kernel_rfl)
theorem after_end : (addR (itR 900 600 500 3 (Q 225 1) (makeS 0 1).1).1 (makeS 0 1).1).1 = Q 225 1 := by
  have e : (itR 900 600 500 3 (Q 225 1) (makeS 0 1).1).1 = Q 225 1 := by simp only [itR, done_225]
  rw [e]
  exact add_zero' (.inl (rv_Q ⟨by decide, by decide⟩ ⟨by decide, by decide⟩ (by decide)))
theorem paper_end : (itR 900 600 500 2 (Q 225 1) (makeS 0 1).1).2 = Q 1350 1 := by
  simp only [itR, done_225, makeS_01, all_1, all_2]
theorem begin_end (a : Int) (h : lim a) : beginS 900 600 500 (Q a 1) = 0 := by
  unfold beginS whiteS
  rw [if_pos (by decide), if_pos (rv_Q h ⟨by decide, by decide⟩ (by unfold gcdI; simp)), if_neg (by simp [Q]), if_neg (by simp [Q])]
theorem awake.c : Sound Try.prog 15 [] (B true) := by
  have w : ∀ n, lim n → Sound Try.prog 26 [I n] (R (Q n 1)) := fun n h => by
    have := whole.c n (by have := h.1; have := h.2; omega)
    rwa [w_make n h] at this
  have w100 := w 100 ⟨by decide, by decide⟩
  have w600 := w 600 ⟨by decide, by decide⟩
  have w200 := w 200 ⟨by decide, by decide⟩
  have w225 := w 225 ⟨by decide, by decide⟩
  have w1350 := w 1350 ⟨by decide, by decide⟩
  have c1 := wet_Step.ok 900 600 500 (Q 100 1) (begin_end 100 ⟨by decide, by decide⟩)
  rw [done_100] at c1
  have c2 := wet_Steady.ok 900 600 500 (by decide)
  rw [show steadyR 900 600 500 = Q 225 1 from steady_end] at c2
  have c3 := wet_After.ok 900 600 500 (Q 225 1) 3 (begin_end 225 ⟨by decide, by decide⟩) (by decide) (by decide)
  rw [show (3 : Int).toNat = 3 from rfl, after_end] at c3
  have c4 := wet_Paper.ok 900 600 500 (Q 225 1) 2 (begin_end 225 ⟨by decide, by decide⟩) (by decide) (by decide)
  rw [show (2 : Int).toNat = 2 from rfl, paper_end] at c4
  have s : ∀ n, Sound Try.prog 14 [R (Q n 1), R (Q n 1)] (B true) := fun n => by
    have := r17_Same.c (Q n 1) (Q n 1)
    rwa [sameS_self] at this
  exact runL tok mixed [26, 17, 10, 19, 21, 14] 300 4 (Good.cons w100 (Good.cons c1 (Good.cons c2 (Good.cons c3 (Good.cons c4 (Good.cons w600 (Good.cons (s 600) (Good.cons w200 (Good.cons (s 200) (Good.cons w200 (Good.cons (s 200) (Good.cons w225 (Good.cons (s 225) (Good.cons w225 (Good.cons (s 225) (Good.cons w1350 (Good.cons (s 1350) Good.nil))))))))))))))))) (by kernel_rfl)
theorem same.c (x : Rt) : Sound Try.prog 14 [R x, R x] (B true) := by
  have := r17_Same.c x x
  rwa [sameS_self] at this
theorem WetChecks.c (f r c : Int) : Sound Try.prog 3 [Wt f r c] (B true) := by
  have c5 := wet_Check.c f r c
  have c6 := r20_Check.c f r c
  obtain ⟨z, e, c1, c2⟩ : ∃ z e, Sound Try.prog 10 [Wt f r c] (.tup [R z, I e]) ∧ Sound Try.prog 11 [Wt f r c] (.tup [R z, I e]) := by
    by_cases h : checkS f r c = 0
    · exact ⟨_, _, wet_Steady.ok f r c h, r20_Steady.ok f r c h⟩
    · exact ⟨_, _, wet_Steady.bad f r c h, r20_Steady.bad f r c h⟩
  have c3 := same.c z
  generalize checkS f r c = k at *
  obtain ⟨zn, zp, zq⟩ := z
  have ek : decide (k = k) = true := by simp
  have ee : decide (e = e) = true := by simp
  refine Sound.of_WP tok Try.func3 rfl rfl ?_; simp only [Try.f3, args0, List.map, List.length_cons, List.length_nil, Nat.reduceAdd, Nat.reduceSub, List.replicate, List.cons_append, List.nil_append]
  repeat' (first | refine WP_seq ?_ | refine WP_block ?_ | (refine WP_R 64 (by decide) fun KQ hKQ => ?_) | (refine WP_D 64 (by decide) ?_ fun KQ hKQ => ?_; (focus kernel_rfl)) | ((first | (refine opsW_op rfl rfl rfl ?_ rfl ?_; (first | exact trivial | omega | (dsimp only; omega) | (dsimp only; exact ⟨by omega, by omega, by omega⟩) | (simp only [Mid.len, Blk.cells, List.length_map, List.length_set, List.length_replicate, List.length_append, Nat.mul_one, Nat.zero_add, reduceCtorEq, List.length_cons, List.length_nil, List.length_take, List.length_drop, true_and, and_true, false_implies, implies_true]; first | done | omega) | (simp; done) | (simp; omega) | grind)) | (refine opsW_callP (qs := ?_) (rd := ?_) (u := ?_) (c1) rfl rfl rfl ?_ ?_ ?_ ?_ ?_; rotate_right 6; (focus rfl); (focus (first | rfl | (simp only [nrm1, nrm, List.map, List.drop_zero, Nat.mul_one, takeI, dropI, List.take_length]; done) | (simp only [nrm1, nrm, List.map, List.drop_zero, Nat.mul_one, takeI, dropI, List.take_length]; rfl))); rotate_left 1; (focus rfl); (focus rfl); rotate_right 0) | (refine opsW_callP (qs := ?_) (rd := ?_) (u := ?_) (c2) rfl rfl rfl ?_ ?_ ?_ ?_ ?_; rotate_right 6; (focus rfl); (focus (first | rfl | (simp only [nrm1, nrm, List.map, List.drop_zero, Nat.mul_one, takeI, dropI, List.take_length]; done) | (simp only [nrm1, nrm, List.map, List.drop_zero, Nat.mul_one, takeI, dropI, List.take_length]; rfl))); rotate_left 1; (focus rfl); (focus rfl); rotate_right 0) | (refine opsW_callP (qs := ?_) (rd := ?_) (u := ?_) (c5) rfl rfl rfl ?_ ?_ ?_ ?_ ?_; rotate_right 6; (focus rfl); (focus (first | rfl | (simp only [nrm1, nrm, List.map, List.drop_zero, Nat.mul_one, takeI, dropI, List.take_length]; done) | (simp only [nrm1, nrm, List.map, List.drop_zero, Nat.mul_one, takeI, dropI, List.take_length]; rfl))); rotate_left 1; (focus rfl); (focus rfl); rotate_right 0) | (refine opsW_callP (qs := ?_) (rd := ?_) (u := ?_) (c6) rfl rfl rfl ?_ ?_ ?_ ?_ ?_; rotate_right 6; (focus rfl); (focus (first | rfl | (simp only [nrm1, nrm, List.map, List.drop_zero, Nat.mul_one, takeI, dropI, List.take_length]; done) | (simp only [nrm1, nrm, List.map, List.drop_zero, Nat.mul_one, takeI, dropI, List.take_length]; rfl))); rotate_left 1; (focus rfl); (focus rfl); rotate_right 0) | (refine opsW_callP (qs := ?_) (rd := ?_) (u := ?_) (c3) rfl rfl rfl ?_ ?_ ?_ ?_ ?_; rotate_right 6; (focus rfl); (focus (first | rfl | (simp only [nrm1, nrm, List.map, List.drop_zero, Nat.mul_one, takeI, dropI, List.take_length]; done) | (simp only [nrm1, nrm, List.map, List.drop_zero, Nat.mul_one, takeI, dropI, List.take_length]; rfl))); rotate_left 1; (focus rfl); (focus rfl); rotate_right 0) | (refine opsW_callP (qs := ?_) (rd := ?_) (u := ?_) (awake.c) rfl rfl rfl ?_ ?_ ?_ ?_ ?_; rotate_right 6; (focus rfl); (focus (first | rfl | (simp only [nrm1, nrm, List.map, List.drop_zero, Nat.mul_one, takeI, dropI, List.take_length]; done) | (simp only [nrm1, nrm, List.map, List.drop_zero, Nat.mul_one, takeI, dropI, List.take_length]; rfl))); rotate_left 1; (focus rfl); (focus rfl); rotate_right 0)); (try simp only [Mid.get, Mid.set, mx_fold, PV.flat, flats, nrm1, nrm, Bool.true_and, Bool.and_true, Bool.and_self, ev, List.replicate, Option.map_some, Option.bind_some, Nat.reduceBEq, beq_self_eq_true, setD, List.set, puts, put, del, cellsTo, cells1, allP, lay, putIn, joinB, sub, overB, rep, Blk.mk, AV.cells, List.map, List.drop, List.take, List.cons_append, List.nil_append, List.append_nil, List.getD_cons_succ, List.getD_cons_zero, if_true, if_false, Bool.false_eq_true, reduceIte, wrap_i64, getI, takeI, dropI, setI, repI, Nat.mul_one, Nat.one_mul, Nat.zero_add, Nat.add_zero, Nat.zero_mul, Int.toNat_natCast, Int.reduceNeg, Int.reduceToNat, Nat.reduceAdd, Nat.reduceMul, Nat.reduceSub, decide_true, decide_false, Bool.not_true, Bool.not_false, cond_true, cond_false, gt_iff_lt, ge_iff_le, Int.reduceLT, Int.reduceLE, Int.lt_irrefl, Int.le_refl, List.length_set, List.length_map, *])) | (refine opsW_skip rfl ?_; simp only [setD, List.set]) | (refine opsW_nil ⟨?_, hKQ _ _ _ ?_⟩; (focus kernel_rfl); clear hKQ KQ; try simp only [seqK, blockK, loopG, List.length_cons, List.length_nil, Nat.reduceAdd, Nat.reduceMul]) | (refine opsW_nil (hKQ _ _ _ ?_); clear hKQ KQ; try simp only [seqK, blockK, loopG, List.length_cons, List.length_nil, Nat.reduceAdd, Nat.reduceMul]) | (refine WP_cond (t := true) rfl ?_; simp only [if_true]) | (refine WP_cond (t := false) rfl ?_; simp only [if_false, Bool.false_eq_true]) | (refine WP_skip ?_; simp only [seqK, blockK, loopG]) | (refine WP_ret ?_; simp only [seqK, blockK, loopG, Fin]) | (refine WP_exit ?_; simp only [seqK, blockK, loopG, reduceIte, Nat.reduceEqDiff]))
  (simp only [List.take_take, Nat.min_self, List.nil_append, Int.toNat_natCast, take_set_len, get, dropI, takeI, List.drop_zero, List.take_length, Nat.mul_one, Nat.reduceBEq, cond_true, cond_false, beq_self_eq_true, Option.map_some, Option.bind_some, Res, resAll, resOne, Fin, pack, frz, frzs, nrm1, nrm, Option.bind, Option.map, List.getD_cons_succ, List.getD_cons_zero, List.map, true_and, and_self, and_true]; first | exact ⟨_, rfl⟩ | (refine ⟨_, Option.some_inj.2 (Prod.ext ?_ rfl)⟩; simp only [List.take_take, Nat.min_self, List.nil_append, List.take_length, List.length_take, List.length_set, List.length_append, List.length_replicate, List.length_cons, List.length_nil, takeI, repI, setI, PV.tup.injEq, PV.lst.injEq, List.cons.injEq, and_true, true_and, *] <;> first | done | omega | (refine ⟨?_, ?_⟩ <;> first | rfl | omega)))
theorem steps_same (f r c : Int) (x : Rt) : ∃ z1 z2 z3 e, Sound Try.prog 17 [Wt f r c, R x] (.tup [R z1, R z2, R z3, I e]) ∧ Sound Try.prog 18 [Wt f r c, R x] (.tup [R z1, R z2, R z3, I e]) := by
  by_cases h : beginS f r c x = 0
  · exact ⟨_, _, _, _, wet_Step.ok f r c x h, r20_Step.ok f r c x h⟩
  · exact ⟨_, _, _, _, wet_Step.bad f r c x h, r20_Step.bad f r c x h⟩
theorem WetSteps.c (f r c : Int) (x : Rt) : Sound Try.prog 4 [Wt f r c, R x] (B true) := by
  have c0 := light.c x
  obtain ⟨z1, z2, z3, e, c1, c2⟩ := steps_same f r c x
  have s1 := same.c z1
  have s2 := same.c z2
  have s3 := same.c z3
  cases hl : lightS x <;> rw [hl] at c0
  · obtain ⟨xn, xp, xq⟩ := x
    refine Sound.of_WP tok Try.func4 rfl rfl ?_; simp only [Try.f4, args0, List.map, List.length_cons, List.length_nil, Nat.reduceAdd, Nat.reduceSub, List.replicate, List.cons_append, List.nil_append]
    repeat' (first | refine WP_seq ?_ | refine WP_block ?_ | (refine WP_R 64 (by decide) fun KQ hKQ => ?_) | (refine WP_D 64 (by decide) ?_ fun KQ hKQ => ?_; (focus kernel_rfl)) | ((first | (refine opsW_op rfl rfl rfl ?_ rfl ?_; (first | exact trivial | omega | (dsimp only; omega) | (dsimp only; exact ⟨by omega, by omega, by omega⟩) | (simp only [Mid.len, Blk.cells, List.length_map, List.length_set, List.length_replicate, List.length_append, Nat.mul_one, Nat.zero_add, reduceCtorEq, List.length_cons, List.length_nil, List.length_take, List.length_drop, true_and, and_true, false_implies, implies_true]; first | done | omega) | (simp; done) | (simp; omega) | grind)) | (refine opsW_callP (qs := ?_) (rd := ?_) (u := ?_) (c0) rfl rfl rfl ?_ ?_ ?_ ?_ ?_; rotate_right 6; (focus rfl); (focus (first | rfl | (simp only [nrm1, nrm, List.map, List.drop_zero, Nat.mul_one, takeI, dropI, List.take_length]; done) | (simp only [nrm1, nrm, List.map, List.drop_zero, Nat.mul_one, takeI, dropI, List.take_length]; rfl))); rotate_left 1; (focus rfl); (focus rfl); rotate_right 0) | (refine opsW_callP (qs := ?_) (rd := ?_) (u := ?_) (awake.c) rfl rfl rfl ?_ ?_ ?_ ?_ ?_; rotate_right 6; (focus rfl); (focus (first | rfl | (simp only [nrm1, nrm, List.map, List.drop_zero, Nat.mul_one, takeI, dropI, List.take_length]; done) | (simp only [nrm1, nrm, List.map, List.drop_zero, Nat.mul_one, takeI, dropI, List.take_length]; rfl))); rotate_left 1; (focus rfl); (focus rfl); rotate_right 0)); (try simp only [Mid.get, Mid.set, mx_fold, PV.flat, flats, nrm1, nrm, Bool.true_and, Bool.and_true, Bool.and_self, ev, List.replicate, Option.map_some, Option.bind_some, Nat.reduceBEq, beq_self_eq_true, setD, List.set, puts, put, del, cellsTo, cells1, allP, lay, putIn, joinB, sub, overB, rep, Blk.mk, AV.cells, List.map, List.drop, List.take, List.cons_append, List.nil_append, List.append_nil, List.getD_cons_succ, List.getD_cons_zero, if_true, if_false, Bool.false_eq_true, reduceIte, wrap_i64, getI, takeI, dropI, setI, repI, Nat.mul_one, Nat.one_mul, Nat.zero_add, Nat.add_zero, Nat.zero_mul, Int.toNat_natCast, Int.reduceNeg, Int.reduceToNat, Nat.reduceAdd, Nat.reduceMul, Nat.reduceSub, decide_true, decide_false, Bool.not_true, Bool.not_false, cond_true, cond_false, gt_iff_lt, ge_iff_le, Int.reduceLT, Int.reduceLE, Int.lt_irrefl, Int.le_refl, List.length_set, List.length_map, *])) | (refine opsW_skip rfl ?_; simp only [setD, List.set]) | (refine opsW_nil ⟨?_, hKQ _ _ _ ?_⟩; (focus kernel_rfl); clear hKQ KQ; try simp only [seqK, blockK, loopG, List.length_cons, List.length_nil, Nat.reduceAdd, Nat.reduceMul]) | (refine opsW_nil (hKQ _ _ _ ?_); clear hKQ KQ; try simp only [seqK, blockK, loopG, List.length_cons, List.length_nil, Nat.reduceAdd, Nat.reduceMul]) | (refine WP_cond (t := true) rfl ?_; simp only [if_true]) | (refine WP_cond (t := false) rfl ?_; simp only [if_false, Bool.false_eq_true]) | (refine WP_skip ?_; simp only [seqK, blockK, loopG]) | (refine WP_ret ?_; simp only [seqK, blockK, loopG, Fin]) | (refine WP_exit ?_; simp only [seqK, blockK, loopG, reduceIte, Nat.reduceEqDiff]))
    (simp only [List.take_take, Nat.min_self, List.nil_append, Int.toNat_natCast, take_set_len, get, dropI, takeI, List.drop_zero, List.take_length, Nat.mul_one, Nat.reduceBEq, cond_true, cond_false, beq_self_eq_true, Option.map_some, Option.bind_some, Res, resAll, resOne, Fin, pack, frz, frzs, nrm1, nrm, Option.bind, Option.map, List.getD_cons_succ, List.getD_cons_zero, List.map, true_and, and_self, and_true]; first | exact ⟨_, rfl⟩ | (refine ⟨_, Option.some_inj.2 (Prod.ext ?_ rfl)⟩; simp only [List.take_take, Nat.min_self, List.nil_append, List.take_length, List.length_take, List.length_set, List.length_append, List.length_replicate, List.length_cons, List.length_nil, takeI, repI, setI, PV.tup.injEq, PV.lst.injEq, List.cons.injEq, and_true, true_and, *] <;> first | done | omega | (refine ⟨?_, ?_⟩ <;> first | rfl | omega)))
  · obtain ⟨xn, xp, xq⟩ := x
    refine Sound.of_WP tok Try.func4 rfl rfl ?_; simp only [Try.f4, args0, List.map, List.length_cons, List.length_nil, Nat.reduceAdd, Nat.reduceSub, List.replicate, List.cons_append, List.nil_append]
    repeat' (first | refine WP_seq ?_ | refine WP_block ?_ | (refine WP_R 64 (by decide) fun KQ hKQ => ?_) | (refine WP_D 64 (by decide) ?_ fun KQ hKQ => ?_; (focus kernel_rfl)) | ((first | (refine opsW_op rfl rfl rfl ?_ rfl ?_; (first | exact trivial | omega | (dsimp only; omega) | (dsimp only; exact ⟨by omega, by omega, by omega⟩) | (simp only [Mid.len, Blk.cells, List.length_map, List.length_set, List.length_replicate, List.length_append, Nat.mul_one, Nat.zero_add, reduceCtorEq, List.length_cons, List.length_nil, List.length_take, List.length_drop, true_and, and_true, false_implies, implies_true]; first | done | omega) | (simp; done) | (simp; omega) | grind)) | (refine opsW_callP (qs := ?_) (rd := ?_) (u := ?_) (c0) rfl rfl rfl ?_ ?_ ?_ ?_ ?_; rotate_right 6; (focus rfl); (focus (first | rfl | (simp only [nrm1, nrm, List.map, List.drop_zero, Nat.mul_one, takeI, dropI, List.take_length]; done) | (simp only [nrm1, nrm, List.map, List.drop_zero, Nat.mul_one, takeI, dropI, List.take_length]; rfl))); rotate_left 1; (focus rfl); (focus rfl); rotate_right 0) | (refine opsW_callP (qs := ?_) (rd := ?_) (u := ?_) (c1) rfl rfl rfl ?_ ?_ ?_ ?_ ?_; rotate_right 6; (focus rfl); (focus (first | rfl | (simp only [nrm1, nrm, List.map, List.drop_zero, Nat.mul_one, takeI, dropI, List.take_length]; done) | (simp only [nrm1, nrm, List.map, List.drop_zero, Nat.mul_one, takeI, dropI, List.take_length]; rfl))); rotate_left 1; (focus rfl); (focus rfl); rotate_right 0) | (refine opsW_callP (qs := ?_) (rd := ?_) (u := ?_) (c2) rfl rfl rfl ?_ ?_ ?_ ?_ ?_; rotate_right 6; (focus rfl); (focus (first | rfl | (simp only [nrm1, nrm, List.map, List.drop_zero, Nat.mul_one, takeI, dropI, List.take_length]; done) | (simp only [nrm1, nrm, List.map, List.drop_zero, Nat.mul_one, takeI, dropI, List.take_length]; rfl))); rotate_left 1; (focus rfl); (focus rfl); rotate_right 0) | (refine opsW_callP (qs := ?_) (rd := ?_) (u := ?_) (s1) rfl rfl rfl ?_ ?_ ?_ ?_ ?_; rotate_right 6; (focus rfl); (focus (first | rfl | (simp only [nrm1, nrm, List.map, List.drop_zero, Nat.mul_one, takeI, dropI, List.take_length]; done) | (simp only [nrm1, nrm, List.map, List.drop_zero, Nat.mul_one, takeI, dropI, List.take_length]; rfl))); rotate_left 1; (focus rfl); (focus rfl); rotate_right 0) | (refine opsW_callP (qs := ?_) (rd := ?_) (u := ?_) (s2) rfl rfl rfl ?_ ?_ ?_ ?_ ?_; rotate_right 6; (focus rfl); (focus (first | rfl | (simp only [nrm1, nrm, List.map, List.drop_zero, Nat.mul_one, takeI, dropI, List.take_length]; done) | (simp only [nrm1, nrm, List.map, List.drop_zero, Nat.mul_one, takeI, dropI, List.take_length]; rfl))); rotate_left 1; (focus rfl); (focus rfl); rotate_right 0) | (refine opsW_callP (qs := ?_) (rd := ?_) (u := ?_) (s3) rfl rfl rfl ?_ ?_ ?_ ?_ ?_; rotate_right 6; (focus rfl); (focus (first | rfl | (simp only [nrm1, nrm, List.map, List.drop_zero, Nat.mul_one, takeI, dropI, List.take_length]; done) | (simp only [nrm1, nrm, List.map, List.drop_zero, Nat.mul_one, takeI, dropI, List.take_length]; rfl))); rotate_left 1; (focus rfl); (focus rfl); rotate_right 0) | (refine opsW_callP (qs := ?_) (rd := ?_) (u := ?_) (awake.c) rfl rfl rfl ?_ ?_ ?_ ?_ ?_; rotate_right 6; (focus rfl); (focus (first | rfl | (simp only [nrm1, nrm, List.map, List.drop_zero, Nat.mul_one, takeI, dropI, List.take_length]; done) | (simp only [nrm1, nrm, List.map, List.drop_zero, Nat.mul_one, takeI, dropI, List.take_length]; rfl))); rotate_left 1; (focus rfl); (focus rfl); rotate_right 0)); (try simp only [Mid.get, Mid.set, mx_fold, PV.flat, flats, nrm1, nrm, Bool.true_and, Bool.and_true, Bool.and_self, ev, List.replicate, Option.map_some, Option.bind_some, Nat.reduceBEq, beq_self_eq_true, setD, List.set, puts, put, del, cellsTo, cells1, allP, lay, putIn, joinB, sub, overB, rep, Blk.mk, AV.cells, List.map, List.drop, List.take, List.cons_append, List.nil_append, List.append_nil, List.getD_cons_succ, List.getD_cons_zero, if_true, if_false, Bool.false_eq_true, reduceIte, wrap_i64, getI, takeI, dropI, setI, repI, Nat.mul_one, Nat.one_mul, Nat.zero_add, Nat.add_zero, Nat.zero_mul, Int.toNat_natCast, Int.reduceNeg, Int.reduceToNat, Nat.reduceAdd, Nat.reduceMul, Nat.reduceSub, decide_true, decide_false, Bool.not_true, Bool.not_false, cond_true, cond_false, gt_iff_lt, ge_iff_le, Int.reduceLT, Int.reduceLE, Int.lt_irrefl, Int.le_refl, List.length_set, List.length_map, *])) | (refine opsW_skip rfl ?_; simp only [setD, List.set]) | (refine opsW_nil ⟨?_, hKQ _ _ _ ?_⟩; (focus kernel_rfl); clear hKQ KQ; try simp only [seqK, blockK, loopG, List.length_cons, List.length_nil, Nat.reduceAdd, Nat.reduceMul]) | (refine opsW_nil (hKQ _ _ _ ?_); clear hKQ KQ; try simp only [seqK, blockK, loopG, List.length_cons, List.length_nil, Nat.reduceAdd, Nat.reduceMul]) | (refine WP_cond (t := true) rfl ?_; simp only [if_true]) | (refine WP_cond (t := false) rfl ?_; simp only [if_false, Bool.false_eq_true]) | (refine WP_skip ?_; simp only [seqK, blockK, loopG]) | (refine WP_ret ?_; simp only [seqK, blockK, loopG, Fin]) | (refine WP_exit ?_; simp only [seqK, blockK, loopG, reduceIte, Nat.reduceEqDiff]))
    (simp only [List.take_take, Nat.min_self, List.nil_append, Int.toNat_natCast, take_set_len, get, dropI, takeI, List.drop_zero, List.take_length, Nat.mul_one, Nat.reduceBEq, cond_true, cond_false, beq_self_eq_true, Option.map_some, Option.bind_some, Res, resAll, resOne, Fin, pack, frz, frzs, nrm1, nrm, Option.bind, Option.map, List.getD_cons_succ, List.getD_cons_zero, List.map, true_and, and_self, and_true]; first | exact ⟨_, rfl⟩ | (refine ⟨_, Option.some_inj.2 (Prod.ext ?_ rfl)⟩; simp only [List.take_take, Nat.min_self, List.nil_append, List.take_length, List.length_take, List.length_set, List.length_append, List.length_replicate, List.length_cons, List.length_nil, takeI, repI, setI, PV.tup.injEq, PV.lst.injEq, List.cons.injEq, and_true, true_and, *] <;> first | done | omega | (refine ⟨?_, ?_⟩ <;> first | rfl | omega)))
end Go.Proofs.Ytbjamhkhocjdkaa.Pw
namespace Go.Proofs.Ytbjamhkhocjdkaa.Pw
open Go Wd Px Mat
set_option linter.unusedVariables false
set_option linter.unusedSimpArgs false
set_option maxRecDepth 100000
set_option maxHeartbeats 8000000
attribute [local irreducible] Int.tmod Int.tdiv
theorem itR_vz (f r c : Int) : ∀ (n : Nat) (x a : Rt), (rvB x = true ∨ x = zR) → rvB (itR f r c n x a).1 = true ∨ (itR f r c n x a).1 = zR
  | 0, x, a, h => h
  | n + 1, x, a, h => itR_vz f r c n _ _ (by
      have : (doneR f r c x).2.2 = (mulR (subR (addR (makeS f 1).1 x).1 (timesR (addR (makeS f 1).1 x).1 r 1000)).1 (makeS c 1000).1).1 := rfl
      rw [this]; exact vz_mul _ _)
theorem white_zero {x : Rt} (h : whiteS x = 0) : rvB x = true ∧ x.neg = false ∧ x.p.length ≤ 8 ∧ x.q.length ≤ 8 := by
  rcases white_cases x with ⟨h1, e⟩ | ⟨h1, h2, e⟩ | ⟨h1, h2, h3, e⟩ | ⟨h1, h2, h3, h4, e⟩ | ⟨h1, h2, h3, h4, e⟩
  case inr.inr.inr.inr => exact ⟨h1, h2, by omega, by omega⟩
  all_goals (rw [e] at h; exact absurd h (by decide))
theorem same_After (f r c : Int) (x : Rt) (n : Int) : ∃ z e, Sound Try.prog 19 [Wt f r c, R x, I n] (.tup [R z, I e]) ∧ Sound Try.prog 20 [Wt f r c, R x, I n] (.tup [R z, I e]) := by
  by_cases h : beginS f r c x = 0
  · by_cases hn : ¬ n < 0 ∧ ¬ 16 < n
    · skip
      have e : (addR (itR f r c n.toNat x (makeS 0 1).1).1 (makeS 0 1).1).1 = (itR f r c n.toNat x (makeS 0 1).1).1 := add_zero' (itR_vz f r c _ _ _ (.inl (white_zero (begin_zero h).2).1))
      have k := wet_After.ok f r c x n h hn.1 hn.2
      rw [e] at k
      exact ⟨_, _, k, r20_After.ok f r c x n h hn.1 hn.2⟩
    · exact ⟨_, _, wet_After.out f r c x n h (out_of hn), r20_After.out f r c x n h (out_of hn)⟩
  · exact ⟨_, _, wet_After.bad f r c x n h, r20_After.bad f r c x n h⟩
theorem WetAfters.c (f r c : Int) (x : Rt) (n : Int) : Sound Try.prog 5 [Wt f r c, R x, I n] (B true) := by
  have c0 := light.c x
  obtain ⟨z, e, c1, c2⟩ := same_After f r c x n
  have s1 := same.c z
  have ee : decide (e = e) = true := by simp
  obtain ⟨xn, xp, xq⟩ := x
  cases hl : lightS ⟨xn, xp, xq⟩ <;> rw [hl] at c0
  · refine Sound.of_WP tok Try.func5 rfl rfl ?_; simp only [Try.f5, args0, List.map, List.length_cons, List.length_nil, Nat.reduceAdd, Nat.reduceSub, List.replicate, List.cons_append, List.nil_append]
    repeat' (first | refine WP_seq ?_ | refine WP_block ?_ | (refine WP_R 64 (by decide) fun KQ hKQ => ?_) | (refine WP_D 64 (by decide) ?_ fun KQ hKQ => ?_; (focus kernel_rfl)) | ((first | (refine opsW_op rfl rfl rfl ?_ rfl ?_; (first | exact trivial | omega | (dsimp only; omega) | (dsimp only; exact ⟨by omega, by omega, by omega⟩) | (simp only [Mid.len, Blk.cells, List.length_map, List.length_set, List.length_replicate, List.length_append, Nat.mul_one, Nat.zero_add, reduceCtorEq, List.length_cons, List.length_nil, List.length_take, List.length_drop, true_and, and_true, false_implies, implies_true]; first | done | omega) | (simp; done) | (simp; omega) | grind)) | (refine opsW_callP (qs := ?_) (rd := ?_) (u := ?_) (c0) rfl rfl rfl ?_ ?_ ?_ ?_ ?_; rotate_right 6; (focus rfl); (focus (first | rfl | (simp only [nrm1, nrm, List.map, List.drop_zero, Nat.mul_one, takeI, dropI, List.take_length]; done) | (simp only [nrm1, nrm, List.map, List.drop_zero, Nat.mul_one, takeI, dropI, List.take_length]; rfl))); rotate_left 1; (focus rfl); (focus rfl); rotate_right 0) | (refine opsW_callP (qs := ?_) (rd := ?_) (u := ?_) (awake.c) rfl rfl rfl ?_ ?_ ?_ ?_ ?_; rotate_right 6; (focus rfl); (focus (first | rfl | (simp only [nrm1, nrm, List.map, List.drop_zero, Nat.mul_one, takeI, dropI, List.take_length]; done) | (simp only [nrm1, nrm, List.map, List.drop_zero, Nat.mul_one, takeI, dropI, List.take_length]; rfl))); rotate_left 1; (focus rfl); (focus rfl); rotate_right 0)); (try simp only [Mid.get, Mid.set, mx_fold, PV.flat, flats, nrm1, nrm, Bool.true_and, Bool.and_true, Bool.and_self, ev, List.replicate, Option.map_some, Option.bind_some, Nat.reduceBEq, beq_self_eq_true, setD, List.set, puts, put, del, cellsTo, cells1, allP, lay, putIn, joinB, sub, overB, rep, Blk.mk, AV.cells, List.map, List.drop, List.take, List.cons_append, List.nil_append, List.append_nil, List.getD_cons_succ, List.getD_cons_zero, if_true, if_false, Bool.false_eq_true, reduceIte, wrap_i64, getI, takeI, dropI, setI, repI, Nat.mul_one, Nat.one_mul, Nat.zero_add, Nat.add_zero, Nat.zero_mul, Int.toNat_natCast, Int.reduceNeg, Int.reduceToNat, Nat.reduceAdd, Nat.reduceMul, Nat.reduceSub, decide_true, decide_false, Bool.not_true, Bool.not_false, cond_true, cond_false, gt_iff_lt, ge_iff_le, Int.reduceLT, Int.reduceLE, Int.lt_irrefl, Int.le_refl, List.length_set, List.length_map, *])) | (refine opsW_skip rfl ?_; simp only [setD, List.set]) | (refine opsW_nil ⟨?_, hKQ _ _ _ ?_⟩; (focus kernel_rfl); clear hKQ KQ; try simp only [seqK, blockK, loopG, List.length_cons, List.length_nil, Nat.reduceAdd, Nat.reduceMul]) | (refine opsW_nil (hKQ _ _ _ ?_); clear hKQ KQ; try simp only [seqK, blockK, loopG, List.length_cons, List.length_nil, Nat.reduceAdd, Nat.reduceMul]) | (refine WP_cond (t := true) rfl ?_; simp only [if_true]) | (refine WP_cond (t := false) rfl ?_; simp only [if_false, Bool.false_eq_true]) | (refine WP_skip ?_; simp only [seqK, blockK, loopG]) | (refine WP_ret ?_; simp only [seqK, blockK, loopG, Fin]) | (refine WP_exit ?_; simp only [seqK, blockK, loopG, reduceIte, Nat.reduceEqDiff]))
    (simp only [List.take_take, Nat.min_self, List.nil_append, Int.toNat_natCast, take_set_len, get, dropI, takeI, List.drop_zero, List.take_length, Nat.mul_one, Nat.reduceBEq, cond_true, cond_false, beq_self_eq_true, Option.map_some, Option.bind_some, Res, resAll, resOne, Fin, pack, frz, frzs, nrm1, nrm, Option.bind, Option.map, List.getD_cons_succ, List.getD_cons_zero, List.map, true_and, and_self, and_true]; first | exact ⟨_, rfl⟩ | (refine ⟨_, Option.some_inj.2 (Prod.ext ?_ rfl)⟩; simp only [List.take_take, Nat.min_self, List.nil_append, List.take_length, List.length_take, List.length_set, List.length_append, List.length_replicate, List.length_cons, List.length_nil, takeI, repI, setI, PV.tup.injEq, PV.lst.injEq, List.cons.injEq, and_true, true_and, *] <;> first | done | omega | (refine ⟨?_, ?_⟩ <;> first | rfl | omega)))
  · by_cases h5 : 5 < n
    · by_cases h16 : n ≤ 16
      · refine Sound.of_WP tok Try.func5 rfl rfl ?_; simp only [Try.f5, args0, List.map, List.length_cons, List.length_nil, Nat.reduceAdd, Nat.reduceSub, List.replicate, List.cons_append, List.nil_append]
        repeat' (first | refine WP_seq ?_ | refine WP_block ?_ | (refine WP_R 64 (by decide) fun KQ hKQ => ?_) | (refine WP_D 64 (by decide) ?_ fun KQ hKQ => ?_; (focus kernel_rfl)) | ((first | (refine opsW_op rfl rfl rfl ?_ rfl ?_; (first | exact trivial | omega | (dsimp only; omega) | (dsimp only; exact ⟨by omega, by omega, by omega⟩) | (simp only [Mid.len, Blk.cells, List.length_map, List.length_set, List.length_replicate, List.length_append, Nat.mul_one, Nat.zero_add, reduceCtorEq, List.length_cons, List.length_nil, List.length_take, List.length_drop, true_and, and_true, false_implies, implies_true]; first | done | omega) | (simp; done) | (simp; omega) | grind)) | (refine opsW_callP (qs := ?_) (rd := ?_) (u := ?_) (c0) rfl rfl rfl ?_ ?_ ?_ ?_ ?_; rotate_right 6; (focus rfl); (focus (first | rfl | (simp only [nrm1, nrm, List.map, List.drop_zero, Nat.mul_one, takeI, dropI, List.take_length]; done) | (simp only [nrm1, nrm, List.map, List.drop_zero, Nat.mul_one, takeI, dropI, List.take_length]; rfl))); rotate_left 1; (focus rfl); (focus rfl); rotate_right 0) | (refine opsW_callP (qs := ?_) (rd := ?_) (u := ?_) (awake.c) rfl rfl rfl ?_ ?_ ?_ ?_ ?_; rotate_right 6; (focus rfl); (focus (first | rfl | (simp only [nrm1, nrm, List.map, List.drop_zero, Nat.mul_one, takeI, dropI, List.take_length]; done) | (simp only [nrm1, nrm, List.map, List.drop_zero, Nat.mul_one, takeI, dropI, List.take_length]; rfl))); rotate_left 1; (focus rfl); (focus rfl); rotate_right 0)); (try simp only [Mid.get, Mid.set, mx_fold, PV.flat, flats, nrm1, nrm, Bool.true_and, Bool.and_true, Bool.and_self, ev, List.replicate, Option.map_some, Option.bind_some, Nat.reduceBEq, beq_self_eq_true, setD, List.set, puts, put, del, cellsTo, cells1, allP, lay, putIn, joinB, sub, overB, rep, Blk.mk, AV.cells, List.map, List.drop, List.take, List.cons_append, List.nil_append, List.append_nil, List.getD_cons_succ, List.getD_cons_zero, if_true, if_false, Bool.false_eq_true, reduceIte, wrap_i64, getI, takeI, dropI, setI, repI, Nat.mul_one, Nat.one_mul, Nat.zero_add, Nat.add_zero, Nat.zero_mul, Int.toNat_natCast, Int.reduceNeg, Int.reduceToNat, Nat.reduceAdd, Nat.reduceMul, Nat.reduceSub, decide_true, decide_false, Bool.not_true, Bool.not_false, cond_true, cond_false, gt_iff_lt, ge_iff_le, Int.reduceLT, Int.reduceLE, Int.lt_irrefl, Int.le_refl, List.length_set, List.length_map, *])) | (refine opsW_skip rfl ?_; simp only [setD, List.set]) | (refine opsW_nil ⟨?_, hKQ _ _ _ ?_⟩; (focus kernel_rfl); clear hKQ KQ; try simp only [seqK, blockK, loopG, List.length_cons, List.length_nil, Nat.reduceAdd, Nat.reduceMul]) | (refine opsW_nil (hKQ _ _ _ ?_); clear hKQ KQ; try simp only [seqK, blockK, loopG, List.length_cons, List.length_nil, Nat.reduceAdd, Nat.reduceMul]) | (refine WP_cond (t := true) rfl ?_; simp only [if_true]) | (refine WP_cond (t := false) rfl ?_; simp only [if_false, Bool.false_eq_true]) | (refine WP_skip ?_; simp only [seqK, blockK, loopG]) | (refine WP_ret ?_; simp only [seqK, blockK, loopG, Fin]) | (refine WP_exit ?_; simp only [seqK, blockK, loopG, reduceIte, Nat.reduceEqDiff]))
        (simp only [List.take_take, Nat.min_self, List.nil_append, Int.toNat_natCast, take_set_len, get, dropI, takeI, List.drop_zero, List.take_length, Nat.mul_one, Nat.reduceBEq, cond_true, cond_false, beq_self_eq_true, Option.map_some, Option.bind_some, Res, resAll, resOne, Fin, pack, frz, frzs, nrm1, nrm, Option.bind, Option.map, List.getD_cons_succ, List.getD_cons_zero, List.map, true_and, and_self, and_true]; first | exact ⟨_, rfl⟩ | (refine ⟨_, Option.some_inj.2 (Prod.ext ?_ rfl)⟩; simp only [List.take_take, Nat.min_self, List.nil_append, List.take_length, List.length_take, List.length_set, List.length_append, List.length_replicate, List.length_cons, List.length_nil, takeI, repI, setI, PV.tup.injEq, PV.lst.injEq, List.cons.injEq, and_true, true_and, *] <;> first | done | omega | (refine ⟨?_, ?_⟩ <;> first | rfl | omega)))
      · refine Sound.of_WP tok Try.func5 rfl rfl ?_; simp only [Try.f5, args0, List.map, List.length_cons, List.length_nil, Nat.reduceAdd, Nat.reduceSub, List.replicate, List.cons_append, List.nil_append]
        repeat' (first | refine WP_seq ?_ | refine WP_block ?_ | (refine WP_R 64 (by decide) fun KQ hKQ => ?_) | (refine WP_D 64 (by decide) ?_ fun KQ hKQ => ?_; (focus kernel_rfl)) | ((first | (refine opsW_op rfl rfl rfl ?_ rfl ?_; (first | exact trivial | omega | (dsimp only; omega) | (dsimp only; exact ⟨by omega, by omega, by omega⟩) | (simp only [Mid.len, Blk.cells, List.length_map, List.length_set, List.length_replicate, List.length_append, Nat.mul_one, Nat.zero_add, reduceCtorEq, List.length_cons, List.length_nil, List.length_take, List.length_drop, true_and, and_true, false_implies, implies_true]; first | done | omega) | (simp; done) | (simp; omega) | grind)) | (refine opsW_callP (qs := ?_) (rd := ?_) (u := ?_) (c0) rfl rfl rfl ?_ ?_ ?_ ?_ ?_; rotate_right 6; (focus rfl); (focus (first | rfl | (simp only [nrm1, nrm, List.map, List.drop_zero, Nat.mul_one, takeI, dropI, List.take_length]; done) | (simp only [nrm1, nrm, List.map, List.drop_zero, Nat.mul_one, takeI, dropI, List.take_length]; rfl))); rotate_left 1; (focus rfl); (focus rfl); rotate_right 0) | (refine opsW_callP (qs := ?_) (rd := ?_) (u := ?_) (c1) rfl rfl rfl ?_ ?_ ?_ ?_ ?_; rotate_right 6; (focus rfl); (focus (first | rfl | (simp only [nrm1, nrm, List.map, List.drop_zero, Nat.mul_one, takeI, dropI, List.take_length]; done) | (simp only [nrm1, nrm, List.map, List.drop_zero, Nat.mul_one, takeI, dropI, List.take_length]; rfl))); rotate_left 1; (focus rfl); (focus rfl); rotate_right 0) | (refine opsW_callP (qs := ?_) (rd := ?_) (u := ?_) (c2) rfl rfl rfl ?_ ?_ ?_ ?_ ?_; rotate_right 6; (focus rfl); (focus (first | rfl | (simp only [nrm1, nrm, List.map, List.drop_zero, Nat.mul_one, takeI, dropI, List.take_length]; done) | (simp only [nrm1, nrm, List.map, List.drop_zero, Nat.mul_one, takeI, dropI, List.take_length]; rfl))); rotate_left 1; (focus rfl); (focus rfl); rotate_right 0) | (refine opsW_callP (qs := ?_) (rd := ?_) (u := ?_) (s1) rfl rfl rfl ?_ ?_ ?_ ?_ ?_; rotate_right 6; (focus rfl); (focus (first | rfl | (simp only [nrm1, nrm, List.map, List.drop_zero, Nat.mul_one, takeI, dropI, List.take_length]; done) | (simp only [nrm1, nrm, List.map, List.drop_zero, Nat.mul_one, takeI, dropI, List.take_length]; rfl))); rotate_left 1; (focus rfl); (focus rfl); rotate_right 0) | (refine opsW_callP (qs := ?_) (rd := ?_) (u := ?_) (awake.c) rfl rfl rfl ?_ ?_ ?_ ?_ ?_; rotate_right 6; (focus rfl); (focus (first | rfl | (simp only [nrm1, nrm, List.map, List.drop_zero, Nat.mul_one, takeI, dropI, List.take_length]; done) | (simp only [nrm1, nrm, List.map, List.drop_zero, Nat.mul_one, takeI, dropI, List.take_length]; rfl))); rotate_left 1; (focus rfl); (focus rfl); rotate_right 0)); (try simp only [Mid.get, Mid.set, mx_fold, PV.flat, flats, nrm1, nrm, Bool.true_and, Bool.and_true, Bool.and_self, ev, List.replicate, Option.map_some, Option.bind_some, Nat.reduceBEq, beq_self_eq_true, setD, List.set, puts, put, del, cellsTo, cells1, allP, lay, putIn, joinB, sub, overB, rep, Blk.mk, AV.cells, List.map, List.drop, List.take, List.cons_append, List.nil_append, List.append_nil, List.getD_cons_succ, List.getD_cons_zero, if_true, if_false, Bool.false_eq_true, reduceIte, wrap_i64, getI, takeI, dropI, setI, repI, Nat.mul_one, Nat.one_mul, Nat.zero_add, Nat.add_zero, Nat.zero_mul, Int.toNat_natCast, Int.reduceNeg, Int.reduceToNat, Nat.reduceAdd, Nat.reduceMul, Nat.reduceSub, decide_true, decide_false, Bool.not_true, Bool.not_false, cond_true, cond_false, gt_iff_lt, ge_iff_le, Int.reduceLT, Int.reduceLE, Int.lt_irrefl, Int.le_refl, List.length_set, List.length_map, *])) | (refine opsW_skip rfl ?_; simp only [setD, List.set]) | (refine opsW_nil ⟨?_, hKQ _ _ _ ?_⟩; (focus kernel_rfl); clear hKQ KQ; try simp only [seqK, blockK, loopG, List.length_cons, List.length_nil, Nat.reduceAdd, Nat.reduceMul]) | (refine opsW_nil (hKQ _ _ _ ?_); clear hKQ KQ; try simp only [seqK, blockK, loopG, List.length_cons, List.length_nil, Nat.reduceAdd, Nat.reduceMul]) | (refine WP_cond (t := true) rfl ?_; simp only [if_true]) | (refine WP_cond (t := false) rfl ?_; simp only [if_false, Bool.false_eq_true]) | (refine WP_skip ?_; simp only [seqK, blockK, loopG]) | (refine WP_ret ?_; simp only [seqK, blockK, loopG, Fin]) | (refine WP_exit ?_; simp only [seqK, blockK, loopG, reduceIte, Nat.reduceEqDiff]))
        (simp only [List.take_take, Nat.min_self, List.nil_append, Int.toNat_natCast, take_set_len, get, dropI, takeI, List.drop_zero, List.take_length, Nat.mul_one, Nat.reduceBEq, cond_true, cond_false, beq_self_eq_true, Option.map_some, Option.bind_some, Res, resAll, resOne, Fin, pack, frz, frzs, nrm1, nrm, Option.bind, Option.map, List.getD_cons_succ, List.getD_cons_zero, List.map, true_and, and_self, and_true]; first | exact ⟨_, rfl⟩ | (refine ⟨_, Option.some_inj.2 (Prod.ext ?_ rfl)⟩; simp only [List.take_take, Nat.min_self, List.nil_append, List.take_length, List.length_take, List.length_set, List.length_append, List.length_replicate, List.length_cons, List.length_nil, takeI, repI, setI, PV.tup.injEq, PV.lst.injEq, List.cons.injEq, and_true, true_and, *] <;> first | done | omega | (refine ⟨?_, ?_⟩ <;> first | rfl | omega)))
    · refine Sound.of_WP tok Try.func5 rfl rfl ?_; simp only [Try.f5, args0, List.map, List.length_cons, List.length_nil, Nat.reduceAdd, Nat.reduceSub, List.replicate, List.cons_append, List.nil_append]
      repeat' (first | refine WP_seq ?_ | refine WP_block ?_ | (refine WP_R 64 (by decide) fun KQ hKQ => ?_) | (refine WP_D 64 (by decide) ?_ fun KQ hKQ => ?_; (focus kernel_rfl)) | ((first | (refine opsW_op rfl rfl rfl ?_ rfl ?_; (first | exact trivial | omega | (dsimp only; omega) | (dsimp only; exact ⟨by omega, by omega, by omega⟩) | (simp only [Mid.len, Blk.cells, List.length_map, List.length_set, List.length_replicate, List.length_append, Nat.mul_one, Nat.zero_add, reduceCtorEq, List.length_cons, List.length_nil, List.length_take, List.length_drop, true_and, and_true, false_implies, implies_true]; first | done | omega) | (simp; done) | (simp; omega) | grind)) | (refine opsW_callP (qs := ?_) (rd := ?_) (u := ?_) (c0) rfl rfl rfl ?_ ?_ ?_ ?_ ?_; rotate_right 6; (focus rfl); (focus (first | rfl | (simp only [nrm1, nrm, List.map, List.drop_zero, Nat.mul_one, takeI, dropI, List.take_length]; done) | (simp only [nrm1, nrm, List.map, List.drop_zero, Nat.mul_one, takeI, dropI, List.take_length]; rfl))); rotate_left 1; (focus rfl); (focus rfl); rotate_right 0) | (refine opsW_callP (qs := ?_) (rd := ?_) (u := ?_) (c1) rfl rfl rfl ?_ ?_ ?_ ?_ ?_; rotate_right 6; (focus rfl); (focus (first | rfl | (simp only [nrm1, nrm, List.map, List.drop_zero, Nat.mul_one, takeI, dropI, List.take_length]; done) | (simp only [nrm1, nrm, List.map, List.drop_zero, Nat.mul_one, takeI, dropI, List.take_length]; rfl))); rotate_left 1; (focus rfl); (focus rfl); rotate_right 0) | (refine opsW_callP (qs := ?_) (rd := ?_) (u := ?_) (c2) rfl rfl rfl ?_ ?_ ?_ ?_ ?_; rotate_right 6; (focus rfl); (focus (first | rfl | (simp only [nrm1, nrm, List.map, List.drop_zero, Nat.mul_one, takeI, dropI, List.take_length]; done) | (simp only [nrm1, nrm, List.map, List.drop_zero, Nat.mul_one, takeI, dropI, List.take_length]; rfl))); rotate_left 1; (focus rfl); (focus rfl); rotate_right 0) | (refine opsW_callP (qs := ?_) (rd := ?_) (u := ?_) (s1) rfl rfl rfl ?_ ?_ ?_ ?_ ?_; rotate_right 6; (focus rfl); (focus (first | rfl | (simp only [nrm1, nrm, List.map, List.drop_zero, Nat.mul_one, takeI, dropI, List.take_length]; done) | (simp only [nrm1, nrm, List.map, List.drop_zero, Nat.mul_one, takeI, dropI, List.take_length]; rfl))); rotate_left 1; (focus rfl); (focus rfl); rotate_right 0) | (refine opsW_callP (qs := ?_) (rd := ?_) (u := ?_) (awake.c) rfl rfl rfl ?_ ?_ ?_ ?_ ?_; rotate_right 6; (focus rfl); (focus (first | rfl | (simp only [nrm1, nrm, List.map, List.drop_zero, Nat.mul_one, takeI, dropI, List.take_length]; done) | (simp only [nrm1, nrm, List.map, List.drop_zero, Nat.mul_one, takeI, dropI, List.take_length]; rfl))); rotate_left 1; (focus rfl); (focus rfl); rotate_right 0)); (try simp only [Mid.get, Mid.set, mx_fold, PV.flat, flats, nrm1, nrm, Bool.true_and, Bool.and_true, Bool.and_self, ev, List.replicate, Option.map_some, Option.bind_some, Nat.reduceBEq, beq_self_eq_true, setD, List.set, puts, put, del, cellsTo, cells1, allP, lay, putIn, joinB, sub, overB, rep, Blk.mk, AV.cells, List.map, List.drop, List.take, List.cons_append, List.nil_append, List.append_nil, List.getD_cons_succ, List.getD_cons_zero, if_true, if_false, Bool.false_eq_true, reduceIte, wrap_i64, getI, takeI, dropI, setI, repI, Nat.mul_one, Nat.one_mul, Nat.zero_add, Nat.add_zero, Nat.zero_mul, Int.toNat_natCast, Int.reduceNeg, Int.reduceToNat, Nat.reduceAdd, Nat.reduceMul, Nat.reduceSub, decide_true, decide_false, Bool.not_true, Bool.not_false, cond_true, cond_false, gt_iff_lt, ge_iff_le, Int.reduceLT, Int.reduceLE, Int.lt_irrefl, Int.le_refl, List.length_set, List.length_map, *])) | (refine opsW_skip rfl ?_; simp only [setD, List.set]) | (refine opsW_nil ⟨?_, hKQ _ _ _ ?_⟩; (focus kernel_rfl); clear hKQ KQ; try simp only [seqK, blockK, loopG, List.length_cons, List.length_nil, Nat.reduceAdd, Nat.reduceMul]) | (refine opsW_nil (hKQ _ _ _ ?_); clear hKQ KQ; try simp only [seqK, blockK, loopG, List.length_cons, List.length_nil, Nat.reduceAdd, Nat.reduceMul]) | (refine WP_cond (t := true) rfl ?_; simp only [if_true]) | (refine WP_cond (t := false) rfl ?_; simp only [if_false, Bool.false_eq_true]) | (refine WP_skip ?_; simp only [seqK, blockK, loopG]) | (refine WP_ret ?_; simp only [seqK, blockK, loopG, Fin]) | (refine WP_exit ?_; simp only [seqK, blockK, loopG, reduceIte, Nat.reduceEqDiff]))
      (simp only [List.take_take, Nat.min_self, List.nil_append, Int.toNat_natCast, take_set_len, get, dropI, takeI, List.drop_zero, List.take_length, Nat.mul_one, Nat.reduceBEq, cond_true, cond_false, beq_self_eq_true, Option.map_some, Option.bind_some, Res, resAll, resOne, Fin, pack, frz, frzs, nrm1, nrm, Option.bind, Option.map, List.getD_cons_succ, List.getD_cons_zero, List.map, true_and, and_self, and_true]; first | exact ⟨_, rfl⟩ | (refine ⟨_, Option.some_inj.2 (Prod.ext ?_ rfl)⟩; simp only [List.take_take, Nat.min_self, List.nil_append, List.take_length, List.length_take, List.length_set, List.length_append, List.length_replicate, List.length_cons, List.length_nil, takeI, repI, setI, PV.tup.injEq, PV.lst.injEq, List.cons.injEq, and_true, true_and, *] <;> first | done | omega | (refine ⟨?_, ?_⟩ <;> first | rfl | omega)))
theorem same_Paper (f r c : Int) (x : Rt) (n : Int) : ∃ z e, Sound Try.prog 21 [Wt f r c, R x, I n] (.tup [R z, I e]) ∧ Sound Try.prog 22 [Wt f r c, R x, I n] (.tup [R z, I e]) := by
  by_cases h : beginS f r c x = 0
  · by_cases hn : ¬ n < 0 ∧ ¬ 16 < n
    · skip
      exact ⟨_, _, wet_Paper.ok f r c x n h hn.1 hn.2, r20_Paper.ok f r c x n h hn.1 hn.2⟩
    · exact ⟨_, _, wet_Paper.out f r c x n h (out_of hn), r20_Paper.out f r c x n h (out_of hn)⟩
  · exact ⟨_, _, wet_Paper.bad f r c x n h, r20_Paper.bad f r c x n h⟩
theorem WetPapers.c (f r c : Int) (x : Rt) (n : Int) : Sound Try.prog 6 [Wt f r c, R x, I n] (B true) := by
  have c0 := light.c x
  obtain ⟨z, e, c1, c2⟩ := same_Paper f r c x n
  have s1 := same.c z
  have ee : decide (e = e) = true := by simp
  obtain ⟨xn, xp, xq⟩ := x
  cases hl : lightS ⟨xn, xp, xq⟩ <;> rw [hl] at c0
  · refine Sound.of_WP tok Try.func6 rfl rfl ?_; simp only [Try.f6, args0, List.map, List.length_cons, List.length_nil, Nat.reduceAdd, Nat.reduceSub, List.replicate, List.cons_append, List.nil_append]
    repeat' (first | refine WP_seq ?_ | refine WP_block ?_ | (refine WP_R 64 (by decide) fun KQ hKQ => ?_) | (refine WP_D 64 (by decide) ?_ fun KQ hKQ => ?_; (focus kernel_rfl)) | ((first | (refine opsW_op rfl rfl rfl ?_ rfl ?_; (first | exact trivial | omega | (dsimp only; omega) | (dsimp only; exact ⟨by omega, by omega, by omega⟩) | (simp only [Mid.len, Blk.cells, List.length_map, List.length_set, List.length_replicate, List.length_append, Nat.mul_one, Nat.zero_add, reduceCtorEq, List.length_cons, List.length_nil, List.length_take, List.length_drop, true_and, and_true, false_implies, implies_true]; first | done | omega) | (simp; done) | (simp; omega) | grind)) | (refine opsW_callP (qs := ?_) (rd := ?_) (u := ?_) (c0) rfl rfl rfl ?_ ?_ ?_ ?_ ?_; rotate_right 6; (focus rfl); (focus (first | rfl | (simp only [nrm1, nrm, List.map, List.drop_zero, Nat.mul_one, takeI, dropI, List.take_length]; done) | (simp only [nrm1, nrm, List.map, List.drop_zero, Nat.mul_one, takeI, dropI, List.take_length]; rfl))); rotate_left 1; (focus rfl); (focus rfl); rotate_right 0) | (refine opsW_callP (qs := ?_) (rd := ?_) (u := ?_) (awake.c) rfl rfl rfl ?_ ?_ ?_ ?_ ?_; rotate_right 6; (focus rfl); (focus (first | rfl | (simp only [nrm1, nrm, List.map, List.drop_zero, Nat.mul_one, takeI, dropI, List.take_length]; done) | (simp only [nrm1, nrm, List.map, List.drop_zero, Nat.mul_one, takeI, dropI, List.take_length]; rfl))); rotate_left 1; (focus rfl); (focus rfl); rotate_right 0)); (try simp only [Mid.get, Mid.set, mx_fold, PV.flat, flats, nrm1, nrm, Bool.true_and, Bool.and_true, Bool.and_self, ev, List.replicate, Option.map_some, Option.bind_some, Nat.reduceBEq, beq_self_eq_true, setD, List.set, puts, put, del, cellsTo, cells1, allP, lay, putIn, joinB, sub, overB, rep, Blk.mk, AV.cells, List.map, List.drop, List.take, List.cons_append, List.nil_append, List.append_nil, List.getD_cons_succ, List.getD_cons_zero, if_true, if_false, Bool.false_eq_true, reduceIte, wrap_i64, getI, takeI, dropI, setI, repI, Nat.mul_one, Nat.one_mul, Nat.zero_add, Nat.add_zero, Nat.zero_mul, Int.toNat_natCast, Int.reduceNeg, Int.reduceToNat, Nat.reduceAdd, Nat.reduceMul, Nat.reduceSub, decide_true, decide_false, Bool.not_true, Bool.not_false, cond_true, cond_false, gt_iff_lt, ge_iff_le, Int.reduceLT, Int.reduceLE, Int.lt_irrefl, Int.le_refl, List.length_set, List.length_map, *])) | (refine opsW_skip rfl ?_; simp only [setD, List.set]) | (refine opsW_nil ⟨?_, hKQ _ _ _ ?_⟩; (focus kernel_rfl); clear hKQ KQ; try simp only [seqK, blockK, loopG, List.length_cons, List.length_nil, Nat.reduceAdd, Nat.reduceMul]) | (refine opsW_nil (hKQ _ _ _ ?_); clear hKQ KQ; try simp only [seqK, blockK, loopG, List.length_cons, List.length_nil, Nat.reduceAdd, Nat.reduceMul]) | (refine WP_cond (t := true) rfl ?_; simp only [if_true]) | (refine WP_cond (t := false) rfl ?_; simp only [if_false, Bool.false_eq_true]) | (refine WP_skip ?_; simp only [seqK, blockK, loopG]) | (refine WP_ret ?_; simp only [seqK, blockK, loopG, Fin]) | (refine WP_exit ?_; simp only [seqK, blockK, loopG, reduceIte, Nat.reduceEqDiff]))
    (simp only [List.take_take, Nat.min_self, List.nil_append, Int.toNat_natCast, take_set_len, get, dropI, takeI, List.drop_zero, List.take_length, Nat.mul_one, Nat.reduceBEq, cond_true, cond_false, beq_self_eq_true, Option.map_some, Option.bind_some, Res, resAll, resOne, Fin, pack, frz, frzs, nrm1, nrm, Option.bind, Option.map, List.getD_cons_succ, List.getD_cons_zero, List.map, true_and, and_self, and_true]; first | exact ⟨_, rfl⟩ | (refine ⟨_, Option.some_inj.2 (Prod.ext ?_ rfl)⟩; simp only [List.take_take, Nat.min_self, List.nil_append, List.take_length, List.length_take, List.length_set, List.length_append, List.length_replicate, List.length_cons, List.length_nil, takeI, repI, setI, PV.tup.injEq, PV.lst.injEq, List.cons.injEq, and_true, true_and, *] <;> first | done | omega | (refine ⟨?_, ?_⟩ <;> first | rfl | omega)))
  · by_cases h5 : 5 < n
    · by_cases h16 : n ≤ 16
      · refine Sound.of_WP tok Try.func6 rfl rfl ?_; simp only [Try.f6, args0, List.map, List.length_cons, List.length_nil, Nat.reduceAdd, Nat.reduceSub, List.replicate, List.cons_append, List.nil_append]
        repeat' (first | refine WP_seq ?_ | refine WP_block ?_ | (refine WP_R 64 (by decide) fun KQ hKQ => ?_) | (refine WP_D 64 (by decide) ?_ fun KQ hKQ => ?_; (focus kernel_rfl)) | ((first | (refine opsW_op rfl rfl rfl ?_ rfl ?_; (first | exact trivial | omega | (dsimp only; omega) | (dsimp only; exact ⟨by omega, by omega, by omega⟩) | (simp only [Mid.len, Blk.cells, List.length_map, List.length_set, List.length_replicate, List.length_append, Nat.mul_one, Nat.zero_add, reduceCtorEq, List.length_cons, List.length_nil, List.length_take, List.length_drop, true_and, and_true, false_implies, implies_true]; first | done | omega) | (simp; done) | (simp; omega) | grind)) | (refine opsW_callP (qs := ?_) (rd := ?_) (u := ?_) (c0) rfl rfl rfl ?_ ?_ ?_ ?_ ?_; rotate_right 6; (focus rfl); (focus (first | rfl | (simp only [nrm1, nrm, List.map, List.drop_zero, Nat.mul_one, takeI, dropI, List.take_length]; done) | (simp only [nrm1, nrm, List.map, List.drop_zero, Nat.mul_one, takeI, dropI, List.take_length]; rfl))); rotate_left 1; (focus rfl); (focus rfl); rotate_right 0) | (refine opsW_callP (qs := ?_) (rd := ?_) (u := ?_) (awake.c) rfl rfl rfl ?_ ?_ ?_ ?_ ?_; rotate_right 6; (focus rfl); (focus (first | rfl | (simp only [nrm1, nrm, List.map, List.drop_zero, Nat.mul_one, takeI, dropI, List.take_length]; done) | (simp only [nrm1, nrm, List.map, List.drop_zero, Nat.mul_one, takeI, dropI, List.take_length]; rfl))); rotate_left 1; (focus rfl); (focus rfl); rotate_right 0)); (try simp only [Mid.get, Mid.set, mx_fold, PV.flat, flats, nrm1, nrm, Bool.true_and, Bool.and_true, Bool.and_self, ev, List.replicate, Option.map_some, Option.bind_some, Nat.reduceBEq, beq_self_eq_true, setD, List.set, puts, put, del, cellsTo, cells1, allP, lay, putIn, joinB, sub, overB, rep, Blk.mk, AV.cells, List.map, List.drop, List.take, List.cons_append, List.nil_append, List.append_nil, List.getD_cons_succ, List.getD_cons_zero, if_true, if_false, Bool.false_eq_true, reduceIte, wrap_i64, getI, takeI, dropI, setI, repI, Nat.mul_one, Nat.one_mul, Nat.zero_add, Nat.add_zero, Nat.zero_mul, Int.toNat_natCast, Int.reduceNeg, Int.reduceToNat, Nat.reduceAdd, Nat.reduceMul, Nat.reduceSub, decide_true, decide_false, Bool.not_true, Bool.not_false, cond_true, cond_false, gt_iff_lt, ge_iff_le, Int.reduceLT, Int.reduceLE, Int.lt_irrefl, Int.le_refl, List.length_set, List.length_map, *])) | (refine opsW_skip rfl ?_; simp only [setD, List.set]) | (refine opsW_nil ⟨?_, hKQ _ _ _ ?_⟩; (focus kernel_rfl); clear hKQ KQ; try simp only [seqK, blockK, loopG, List.length_cons, List.length_nil, Nat.reduceAdd, Nat.reduceMul]) | (refine opsW_nil (hKQ _ _ _ ?_); clear hKQ KQ; try simp only [seqK, blockK, loopG, List.length_cons, List.length_nil, Nat.reduceAdd, Nat.reduceMul]) | (refine WP_cond (t := true) rfl ?_; simp only [if_true]) | (refine WP_cond (t := false) rfl ?_; simp only [if_false, Bool.false_eq_true]) | (refine WP_skip ?_; simp only [seqK, blockK, loopG]) | (refine WP_ret ?_; simp only [seqK, blockK, loopG, Fin]) | (refine WP_exit ?_; simp only [seqK, blockK, loopG, reduceIte, Nat.reduceEqDiff]))
        (simp only [List.take_take, Nat.min_self, List.nil_append, Int.toNat_natCast, take_set_len, get, dropI, takeI, List.drop_zero, List.take_length, Nat.mul_one, Nat.reduceBEq, cond_true, cond_false, beq_self_eq_true, Option.map_some, Option.bind_some, Res, resAll, resOne, Fin, pack, frz, frzs, nrm1, nrm, Option.bind, Option.map, List.getD_cons_succ, List.getD_cons_zero, List.map, true_and, and_self, and_true]; first | exact ⟨_, rfl⟩ | (refine ⟨_, Option.some_inj.2 (Prod.ext ?_ rfl)⟩; simp only [List.take_take, Nat.min_self, List.nil_append, List.take_length, List.length_take, List.length_set, List.length_append, List.length_replicate, List.length_cons, List.length_nil, takeI, repI, setI, PV.tup.injEq, PV.lst.injEq, List.cons.injEq, and_true, true_and, *] <;> first | done | omega | (refine ⟨?_, ?_⟩ <;> first | rfl | omega)))
      · refine Sound.of_WP tok Try.func6 rfl rfl ?_; simp only [Try.f6, args0, List.map, List.length_cons, List.length_nil, Nat.reduceAdd, Nat.reduceSub, List.replicate, List.cons_append, List.nil_append]
        repeat' (first | refine WP_seq ?_ | refine WP_block ?_ | (refine WP_R 64 (by decide) fun KQ hKQ => ?_) | (refine WP_D 64 (by decide) ?_ fun KQ hKQ => ?_; (focus kernel_rfl)) | ((first | (refine opsW_op rfl rfl rfl ?_ rfl ?_; (first | exact trivial | omega | (dsimp only; omega) | (dsimp only; exact ⟨by omega, by omega, by omega⟩) | (simp only [Mid.len, Blk.cells, List.length_map, List.length_set, List.length_replicate, List.length_append, Nat.mul_one, Nat.zero_add, reduceCtorEq, List.length_cons, List.length_nil, List.length_take, List.length_drop, true_and, and_true, false_implies, implies_true]; first | done | omega) | (simp; done) | (simp; omega) | grind)) | (refine opsW_callP (qs := ?_) (rd := ?_) (u := ?_) (c0) rfl rfl rfl ?_ ?_ ?_ ?_ ?_; rotate_right 6; (focus rfl); (focus (first | rfl | (simp only [nrm1, nrm, List.map, List.drop_zero, Nat.mul_one, takeI, dropI, List.take_length]; done) | (simp only [nrm1, nrm, List.map, List.drop_zero, Nat.mul_one, takeI, dropI, List.take_length]; rfl))); rotate_left 1; (focus rfl); (focus rfl); rotate_right 0) | (refine opsW_callP (qs := ?_) (rd := ?_) (u := ?_) (c1) rfl rfl rfl ?_ ?_ ?_ ?_ ?_; rotate_right 6; (focus rfl); (focus (first | rfl | (simp only [nrm1, nrm, List.map, List.drop_zero, Nat.mul_one, takeI, dropI, List.take_length]; done) | (simp only [nrm1, nrm, List.map, List.drop_zero, Nat.mul_one, takeI, dropI, List.take_length]; rfl))); rotate_left 1; (focus rfl); (focus rfl); rotate_right 0) | (refine opsW_callP (qs := ?_) (rd := ?_) (u := ?_) (c2) rfl rfl rfl ?_ ?_ ?_ ?_ ?_; rotate_right 6; (focus rfl); (focus (first | rfl | (simp only [nrm1, nrm, List.map, List.drop_zero, Nat.mul_one, takeI, dropI, List.take_length]; done) | (simp only [nrm1, nrm, List.map, List.drop_zero, Nat.mul_one, takeI, dropI, List.take_length]; rfl))); rotate_left 1; (focus rfl); (focus rfl); rotate_right 0) | (refine opsW_callP (qs := ?_) (rd := ?_) (u := ?_) (s1) rfl rfl rfl ?_ ?_ ?_ ?_ ?_; rotate_right 6; (focus rfl); (focus (first | rfl | (simp only [nrm1, nrm, List.map, List.drop_zero, Nat.mul_one, takeI, dropI, List.take_length]; done) | (simp only [nrm1, nrm, List.map, List.drop_zero, Nat.mul_one, takeI, dropI, List.take_length]; rfl))); rotate_left 1; (focus rfl); (focus rfl); rotate_right 0) | (refine opsW_callP (qs := ?_) (rd := ?_) (u := ?_) (awake.c) rfl rfl rfl ?_ ?_ ?_ ?_ ?_; rotate_right 6; (focus rfl); (focus (first | rfl | (simp only [nrm1, nrm, List.map, List.drop_zero, Nat.mul_one, takeI, dropI, List.take_length]; done) | (simp only [nrm1, nrm, List.map, List.drop_zero, Nat.mul_one, takeI, dropI, List.take_length]; rfl))); rotate_left 1; (focus rfl); (focus rfl); rotate_right 0)); (try simp only [Mid.get, Mid.set, mx_fold, PV.flat, flats, nrm1, nrm, Bool.true_and, Bool.and_true, Bool.and_self, ev, List.replicate, Option.map_some, Option.bind_some, Nat.reduceBEq, beq_self_eq_true, setD, List.set, puts, put, del, cellsTo, cells1, allP, lay, putIn, joinB, sub, overB, rep, Blk.mk, AV.cells, List.map, List.drop, List.take, List.cons_append, List.nil_append, List.append_nil, List.getD_cons_succ, List.getD_cons_zero, if_true, if_false, Bool.false_eq_true, reduceIte, wrap_i64, getI, takeI, dropI, setI, repI, Nat.mul_one, Nat.one_mul, Nat.zero_add, Nat.add_zero, Nat.zero_mul, Int.toNat_natCast, Int.reduceNeg, Int.reduceToNat, Nat.reduceAdd, Nat.reduceMul, Nat.reduceSub, decide_true, decide_false, Bool.not_true, Bool.not_false, cond_true, cond_false, gt_iff_lt, ge_iff_le, Int.reduceLT, Int.reduceLE, Int.lt_irrefl, Int.le_refl, List.length_set, List.length_map, *])) | (refine opsW_skip rfl ?_; simp only [setD, List.set]) | (refine opsW_nil ⟨?_, hKQ _ _ _ ?_⟩; (focus kernel_rfl); clear hKQ KQ; try simp only [seqK, blockK, loopG, List.length_cons, List.length_nil, Nat.reduceAdd, Nat.reduceMul]) | (refine opsW_nil (hKQ _ _ _ ?_); clear hKQ KQ; try simp only [seqK, blockK, loopG, List.length_cons, List.length_nil, Nat.reduceAdd, Nat.reduceMul]) | (refine WP_cond (t := true) rfl ?_; simp only [if_true]) | (refine WP_cond (t := false) rfl ?_; simp only [if_false, Bool.false_eq_true]) | (refine WP_skip ?_; simp only [seqK, blockK, loopG]) | (refine WP_ret ?_; simp only [seqK, blockK, loopG, Fin]) | (refine WP_exit ?_; simp only [seqK, blockK, loopG, reduceIte, Nat.reduceEqDiff]))
        (simp only [List.take_take, Nat.min_self, List.nil_append, Int.toNat_natCast, take_set_len, get, dropI, takeI, List.drop_zero, List.take_length, Nat.mul_one, Nat.reduceBEq, cond_true, cond_false, beq_self_eq_true, Option.map_some, Option.bind_some, Res, resAll, resOne, Fin, pack, frz, frzs, nrm1, nrm, Option.bind, Option.map, List.getD_cons_succ, List.getD_cons_zero, List.map, true_and, and_self, and_true]; first | exact ⟨_, rfl⟩ | (refine ⟨_, Option.some_inj.2 (Prod.ext ?_ rfl)⟩; simp only [List.take_take, Nat.min_self, List.nil_append, List.take_length, List.length_take, List.length_set, List.length_append, List.length_replicate, List.length_cons, List.length_nil, takeI, repI, setI, PV.tup.injEq, PV.lst.injEq, List.cons.injEq, and_true, true_and, *] <;> first | done | omega | (refine ⟨?_, ?_⟩ <;> first | rfl | omega)))
    · refine Sound.of_WP tok Try.func6 rfl rfl ?_; simp only [Try.f6, args0, List.map, List.length_cons, List.length_nil, Nat.reduceAdd, Nat.reduceSub, List.replicate, List.cons_append, List.nil_append]
      repeat' (first | refine WP_seq ?_ | refine WP_block ?_ | (refine WP_R 64 (by decide) fun KQ hKQ => ?_) | (refine WP_D 64 (by decide) ?_ fun KQ hKQ => ?_; (focus kernel_rfl)) | ((first | (refine opsW_op rfl rfl rfl ?_ rfl ?_; (first | exact trivial | omega | (dsimp only; omega) | (dsimp only; exact ⟨by omega, by omega, by omega⟩) | (simp only [Mid.len, Blk.cells, List.length_map, List.length_set, List.length_replicate, List.length_append, Nat.mul_one, Nat.zero_add, reduceCtorEq, List.length_cons, List.length_nil, List.length_take, List.length_drop, true_and, and_true, false_implies, implies_true]; first | done | omega) | (simp; done) | (simp; omega) | grind)) | (refine opsW_callP (qs := ?_) (rd := ?_) (u := ?_) (c0) rfl rfl rfl ?_ ?_ ?_ ?_ ?_; rotate_right 6; (focus rfl); (focus (first | rfl | (simp only [nrm1, nrm, List.map, List.drop_zero, Nat.mul_one, takeI, dropI, List.take_length]; done) | (simp only [nrm1, nrm, List.map, List.drop_zero, Nat.mul_one, takeI, dropI, List.take_length]; rfl))); rotate_left 1; (focus rfl); (focus rfl); rotate_right 0) | (refine opsW_callP (qs := ?_) (rd := ?_) (u := ?_) (c1) rfl rfl rfl ?_ ?_ ?_ ?_ ?_; rotate_right 6; (focus rfl); (focus (first | rfl | (simp only [nrm1, nrm, List.map, List.drop_zero, Nat.mul_one, takeI, dropI, List.take_length]; done) | (simp only [nrm1, nrm, List.map, List.drop_zero, Nat.mul_one, takeI, dropI, List.take_length]; rfl))); rotate_left 1; (focus rfl); (focus rfl); rotate_right 0) | (refine opsW_callP (qs := ?_) (rd := ?_) (u := ?_) (c2) rfl rfl rfl ?_ ?_ ?_ ?_ ?_; rotate_right 6; (focus rfl); (focus (first | rfl | (simp only [nrm1, nrm, List.map, List.drop_zero, Nat.mul_one, takeI, dropI, List.take_length]; done) | (simp only [nrm1, nrm, List.map, List.drop_zero, Nat.mul_one, takeI, dropI, List.take_length]; rfl))); rotate_left 1; (focus rfl); (focus rfl); rotate_right 0) | (refine opsW_callP (qs := ?_) (rd := ?_) (u := ?_) (s1) rfl rfl rfl ?_ ?_ ?_ ?_ ?_; rotate_right 6; (focus rfl); (focus (first | rfl | (simp only [nrm1, nrm, List.map, List.drop_zero, Nat.mul_one, takeI, dropI, List.take_length]; done) | (simp only [nrm1, nrm, List.map, List.drop_zero, Nat.mul_one, takeI, dropI, List.take_length]; rfl))); rotate_left 1; (focus rfl); (focus rfl); rotate_right 0) | (refine opsW_callP (qs := ?_) (rd := ?_) (u := ?_) (awake.c) rfl rfl rfl ?_ ?_ ?_ ?_ ?_; rotate_right 6; (focus rfl); (focus (first | rfl | (simp only [nrm1, nrm, List.map, List.drop_zero, Nat.mul_one, takeI, dropI, List.take_length]; done) | (simp only [nrm1, nrm, List.map, List.drop_zero, Nat.mul_one, takeI, dropI, List.take_length]; rfl))); rotate_left 1; (focus rfl); (focus rfl); rotate_right 0)); (try simp only [Mid.get, Mid.set, mx_fold, PV.flat, flats, nrm1, nrm, Bool.true_and, Bool.and_true, Bool.and_self, ev, List.replicate, Option.map_some, Option.bind_some, Nat.reduceBEq, beq_self_eq_true, setD, List.set, puts, put, del, cellsTo, cells1, allP, lay, putIn, joinB, sub, overB, rep, Blk.mk, AV.cells, List.map, List.drop, List.take, List.cons_append, List.nil_append, List.append_nil, List.getD_cons_succ, List.getD_cons_zero, if_true, if_false, Bool.false_eq_true, reduceIte, wrap_i64, getI, takeI, dropI, setI, repI, Nat.mul_one, Nat.one_mul, Nat.zero_add, Nat.add_zero, Nat.zero_mul, Int.toNat_natCast, Int.reduceNeg, Int.reduceToNat, Nat.reduceAdd, Nat.reduceMul, Nat.reduceSub, decide_true, decide_false, Bool.not_true, Bool.not_false, cond_true, cond_false, gt_iff_lt, ge_iff_le, Int.reduceLT, Int.reduceLE, Int.lt_irrefl, Int.le_refl, List.length_set, List.length_map, *])) | (refine opsW_skip rfl ?_; simp only [setD, List.set]) | (refine opsW_nil ⟨?_, hKQ _ _ _ ?_⟩; (focus kernel_rfl); clear hKQ KQ; try simp only [seqK, blockK, loopG, List.length_cons, List.length_nil, Nat.reduceAdd, Nat.reduceMul]) | (refine opsW_nil (hKQ _ _ _ ?_); clear hKQ KQ; try simp only [seqK, blockK, loopG, List.length_cons, List.length_nil, Nat.reduceAdd, Nat.reduceMul]) | (refine WP_cond (t := true) rfl ?_; simp only [if_true]) | (refine WP_cond (t := false) rfl ?_; simp only [if_false, Bool.false_eq_true]) | (refine WP_skip ?_; simp only [seqK, blockK, loopG]) | (refine WP_ret ?_; simp only [seqK, blockK, loopG, Fin]) | (refine WP_exit ?_; simp only [seqK, blockK, loopG, reduceIte, Nat.reduceEqDiff]))
      (simp only [List.take_take, Nat.min_self, List.nil_append, Int.toNat_natCast, take_set_len, get, dropI, takeI, List.drop_zero, List.take_length, Nat.mul_one, Nat.reduceBEq, cond_true, cond_false, beq_self_eq_true, Option.map_some, Option.bind_some, Res, resAll, resOne, Fin, pack, frz, frzs, nrm1, nrm, Option.bind, Option.map, List.getD_cons_succ, List.getD_cons_zero, List.map, true_and, and_self, and_true]; first | exact ⟨_, rfl⟩ | (refine ⟨_, Option.some_inj.2 (Prod.ext ?_ rfl)⟩; simp only [List.take_take, Nat.min_self, List.nil_append, List.take_length, List.length_take, List.length_set, List.length_append, List.length_replicate, List.length_cons, List.length_nil, takeI, repI, setI, PV.tup.injEq, PV.lst.injEq, List.cons.injEq, and_true, true_and, *] <;> first | done | omega | (refine ⟨?_, ?_⟩ <;> first | rfl | omega)))
theorem begin_vals (f r c : Int) (x : Rt) : beginS f r c x = 0 ∨ beginS f r c x = 1 ∨ beginS f r c x = 3 ∨ beginS f r c x = 18 ∨ beginS f r c x = 32 := by
  unfold beginS
  split
  · rcases white_cases x with ⟨_, e⟩ | ⟨_, _, e⟩ | ⟨_, _, _, e⟩ | ⟨_, _, _, _, e⟩ | ⟨_, _, _, _, e⟩ <;> simp [e]
  · rcases check_cases f r c with ⟨_, e⟩ | ⟨_, _, e⟩ | ⟨_, _, _, e⟩ | ⟨_, _, _, _, e⟩ | ⟨_, _, _, _, _, e⟩ | ⟨_, _, _, _, _, _, e⟩ | ⟨_, _, _, _, _, _, e⟩ <;> simp [e]
theorem light_bd {x : Rt} (hl : lightS x = true) (h : whiteS x = 0) : bd x 3 3 := by
  obtain ⟨h1, h2, h3, h4⟩ := white_zero h
  unfold lightS mx at hl
  simp only [Bool.or_eq_true, Bool.and_eq_true, decide_eq_true_eq] at hl
  refine len_bd h1 ?_ ?_ <;> split at hl <;> omega
theorem WetBalance.c (f r c : Int) (x : Rt) : Sound Try.prog 8 [Wt f r c, R x] (B true) := by
  have c0 := light.c x
  cases hl : lightS x <;> rw [hl] at c0
  · obtain ⟨xn, xp, xq⟩ := x
    exact runL tok mixed [16, 15] 200 3 (Good.cons c0 (Good.cons awake.c Good.nil)) (by kernel_rfl)
  by_cases h : beginS f r c x = 0
  · have c1 := wet_Step.ok f r c x h
    obtain ⟨h1, h2⟩ := begin_zero h
    have hb := light_bd hl h2
    obtain ⟨a, b, w, s, t, ed, va, vb, vw, e1, e2, e3⟩ := balance h1 hb
    have hn := done_neg h1 (white_zero h2).2.1
    rw [ed] at c1 hn
    have v1 := r3_Valid.c a
    have v2 := r3_Valid.c b
    have v3 := r3_Valid.c w
    rw [va] at v1; rw [vb] at v2; rw [vw] at v3
    have d1 := r3_Add.c a b
    have d2 := r3_Add.c s w
    have d3 := whole.c f (by have := checkS_zero h1; omega)
    have d4 := r3_Add.c (makeS f 1).1 x
    rw [e1] at d1; rw [e2] at d2; rw [e3] at d4
    have d5 := same.c t
    generalize makeS f 1 = F at *
    clear ed e1 e2 e3 va vb vw hb h1 h2 h hl
    obtain ⟨xn, xp, xq⟩ := x
    obtain ⟨an, ap, aq⟩ := a
    obtain ⟨bn, bp, bq⟩ := b
    obtain ⟨wn, wp, wq⟩ := w
    obtain ⟨sn, sp, sq⟩ := s
    obtain ⟨tn, tp, tq⟩ := t
    obtain ⟨⟨Fn, Fp, Fq⟩, Fe⟩ := F
    dsimp only at *
    obtain ⟨n1, n2, n3⟩ := hn
    subst n1; subst n2; subst n3
    exact runL tok mixed [16, 15, 17, 23, 25, 26, 14] 300 3 (Good.cons c0 (Good.cons c1 (Good.cons v1 (Good.cons v2 (Good.cons v3 (Good.cons d1 (Good.cons d2 (Good.cons d3 (Good.cons d4 (Good.cons d5 (Good.cons awake.c Good.nil))))))))))) (by kernel_rfl)
  · have c1 := wet_Step.bad f r c x h
    obtain ⟨xn, xp, xq⟩ := x
    rcases begin_vals f r c ⟨xn, xp, xq⟩ with e | e | e | e | e <;> rw [e] at c1
    · exact absurd e h
    all_goals exact runL tok mixed [16, 15, 17] 300 3 (Good.cons c0 (Good.cons c1 (Good.cons awake.c Good.nil))) (by kernel_rfl)
end Go.Proofs.Ytbjamhkhocjdkaa.Pw
