/- The functions of the program as functions of values, a further part: a proof's lemmas, with no condition of their own. -/
import Derived.Test.YtbjamhkhocjdkaaFaa
import Derived.Test.YtbjamhkhocjdkaaFab
import Derived.Test.YtbjamhkhocjdkaaFac
import Derived.Test.YtbjamhkhocjdkaaFad
import Derived.Test.YtbjamhkhocjdkaaFae
import Derived.Test.YtbjamhkhocjdkaaFg
set_option linter.unusedVariables false
set_option linter.unusedSimpArgs false
namespace Go.Proofs.Ytbjamhkhocjdkaa.Px
open Go.Proofs.Ytbjamhkhocjdkaa.Wd Go.Proofs.Ytbjamhkhocjdkaa.Mat
set_option linter.unusedVariables false
/-- In lowest terms: no fraction of the value has a smaller denominator. -/
theorem low_terms {x : Rt} (h : rvB x = true) (hn : x.neg = false) {N D : Int} (hN : 0 ≤ N) (hD : 0 < D) (e : nn x * D = N * dd x) : dd x ≤ D ∧ val x.p ≤ N := by
  obtain ⟨a1, a2, a3, a4, a5, a6⟩ := rv_facts h
  have en : nn x = val x.p := by unfold nn; rw [hn]; rfl
  rw [en] at e
  unfold dd at *
  clear en a3 a5 a6 h hn
  generalize val x.p = P at *
  generalize val x.q = Q at *
  obtain ⟨p, rfl⟩ := Int.eq_ofNat_of_zero_le a2
  obtain ⟨q, rfl⟩ := Int.eq_ofNat_of_zero_le (Int.le_of_lt a1)
  obtain ⟨n, rfl⟩ := Int.eq_ofNat_of_zero_le hN
  obtain ⟨d, rfl⟩ := Int.eq_ofNat_of_zero_le (Int.le_of_lt hD)
  simp only [gcdI, Int.toNat_natCast] at a4
  have g : Nat.gcd p q = 1 := by exact_mod_cast a4
  have e' : p * d = n * q := by exact_mod_cast e
  have d1 : q ∣ d := by
    have : q ∣ p * d := ⟨n, by rw [e', Nat.mul_comm]⟩
    exact Nat.Coprime.dvd_of_dvd_mul_left (by rw [Nat.Coprime, Nat.gcd_comm]; exact g) this
  obtain ⟨m, rfl⟩ := d1
  have hq0 : 0 < q := by omega
  have hm : 0 < m := by
    rcases Nat.eq_zero_or_pos m with h | h
    · subst h; simp at hD
    · exact h
  have : p * m = n := by
    refine Nat.eq_of_mul_eq_mul_right hq0 ?_
    rw [← e']
    rw [Nat.mul_assoc, Nat.mul_comm m q]
  have h1 : q * 1 ≤ q * m := Nat.mul_le_mul_left q hm
  have h2 : p * 1 ≤ p * m := Nat.mul_le_mul_left p hm
  constructor <;> omega
theorem nn_val {x : Rt} (hn : x.neg = false) : nn x = val x.p := by unfold nn; rw [hn]; rfl
theorem big_step {f M D k : Int} {a b : Nat} (f0 : 0 ≤ f) (f1 : f < pw 2) (M0 : 0 ≤ M) (hM : M < pw a) (D0 : 0 < D) (hD : D < pw b) (k0 : 0 ≤ k) (hk : k < 1000000) (hab : b + 2 ≤ a) : (f * D + M) * k < pw (a + 1) := by
  have h1 : f * D < pw (2 + b) := mul_pw f0 f1 (Int.le_of_lt D0) hD
  have h2 := pwle (show 2 + b ≤ a by omega)
  have h3 : 0 ≤ f * D := Int.mul_nonneg f0 (Int.le_of_lt D0)
  have h4 : (f * D + M) * k ≤ (f * D + M) * 1000000 := Int.mul_le_mul_of_nonneg_left (by omega) (by omega)
  have h5 : pw (a + 1) = pw a * pw 1 := pwa a 1
  rw [pw_one] at h5
  have := pwp a
  omega
/-- A step within bounds: the paper and the white water. -/
theorem done_bounds {f r c : Int} {x : Rt} {a b : Nat} (hc : checkS f r c = 0) (hx : bd x a b) (hn : x.neg = false) (hab : b + 2 ≤ a) (ha : a ≤ 10) (hb : b ≤ 8) : bd (doneR f r c x).1 (a + 1) (b + 1) ∧ bd (doneR f r c x).2.2 (a + 1) (b + 1) ∧ (doneR f r c x).1.neg = false ∧ (doneR f r c x).2.2.neg = false := by
  obtain ⟨n1, _, n3⟩ := done_neg hc hn
  obtain ⟨⟨f1, f2⟩, ⟨r1, r2⟩, c1, c2⟩ := checkS_zero hc
  have p1 : pw 1 = 1000000000 := pw_one
  have p2 : pw 2 = 1000000000000000000 := pw_two
  obtain ⟨F, hF, bF, vF⟩ := make_bd (p := f) (q := 1) (a := 2) (b := 1) f1 f2 (by decide) (by decide) (by omega) (by omega)
  obtain ⟨u, hu, bu, vu⟩ := make_bd (p := r) (q := 1000) (a := 1) (b := 1) (by omega) (by omega) (by decide) (by decide) (by omega) (by omega)
  obtain ⟨v, hv, bv, vv⟩ := make_bd (p := c) (q := 1000) (a := 1) (b := 1) (by omega) (by omega) (by decide) (by decide) (by omega) (by omega)
  obtain ⟨h, hh, bh⟩ := add_bd (a + 2) bF hx (by omega) (by omega) (by omega) (by omega)
  obtain ⟨p, ha', ba⟩ := mul_bd bh bu (by omega) (by omega)
  obtain ⟨rs, hrs, brs⟩ := sub_bd (a + b + 6) bh ba (by omega) (by omega) (by omega) (by omega)
  obtain ⟨w, hw, bw⟩ := mul_bd brs bv (by omega) (by omega)
  have ep : (doneR f r c x).1 = p := by
    unfold doneR timesR
    simp only [hF, hu, hh, ha']
  have ew : (doneR f r c x).2.2 = w := by
    unfold doneR timesR
    simp only [hF, hu, hv, hh, ha', hrs, hw]
  rw [ep] at n1 ⊢
  rw [ew] at n3 ⊢
  have e1 := add_eq hh
  have e2 := mul_eq ha'
  have e3 := sub_eq hrs
  have e4 := mul_eq hw
  have dF := dpos bF; have du := dpos bu; have dv := dpos bv; have dh := dpos bh; have da := dpos ba; have dr := dpos brs; have dw := dpos bw; have dx := dpos hx
  rw [Int.mul_one] at vF
  have h1 : nn h * dd x = (f * dd x + nn x) * dd h := by
    refine cancel dF ?_
    rw [vF] at e1
    grind
  have h2 : nn p * (1000 * dd h) = r * nn h * dd p := by
    refine cancel du ?_
    grind
  have h3 : nn rs * (1000 * dd h) = (1000 - r) * nn h * dd rs := by
    refine cancel da ?_
    grind
  have h4 : nn w * (1000 * dd rs) = c * nn rs * dd w := by
    refine cancel dv ?_
    grind
  have h5 : nn w * (1000000 * dd h) = (1000 - r) * c * nn h * dd w := by
    refine cancel dr ?_
    grind
  have k0 : 0 ≤ (1000 - r) * c := Int.mul_nonneg (by omega) c1
  have k1 : (1000 - r) * c ≤ 998001 := by
    have h1 : (1000 - r) * c ≤ 999 * c := Int.mul_le_mul_of_nonneg_right (by omega) c1
    omega
  generalize (1000 - r) * c = k at *
  have h6 : nn p * (1000 * dd x) = ((f * dd x + nn x) * r) * dd p := by
    refine cancel dh ?_
    grind
  have h7 : nn w * (1000000 * dd x) = ((f * dd x + nn x) * k) * dd w := by
    refine cancel dh ?_
    grind
  have xp := (rv_facts hx.1).2.1
  rw [nn_val hn] at h6 h7
  have fd : 0 ≤ f * dd x := Int.mul_nonneg f1 (Int.le_of_lt dx)
  have g1 := low_terms ba.1 n1 (Int.mul_nonneg (by omega) (by omega)) (by omega) h6
  have g2 := low_terms bw.1 n3 (Int.mul_nonneg (by omega) k0) (by omega) h7
  have b1 := big_step (k := r) f1 (by omega) xp hx.2.1 dx hx.2.2 (by omega) (by omega) hab
  have b2 := big_step (k := k) f1 (by omega) xp hx.2.1 dx hx.2.2 k0 (by omega) hab
  have b3 : pw (b + 1) = pw b * pw 1 := pwa b 1
  rw [p1] at b3
  have b4 := hx.2.2
  exact ⟨⟨ba.1, by omega, by omega⟩, ⟨bw.1, by omega, by omega⟩, n1, n3⟩
def cA : Nat → Nat | 0 => 1 | 1 => 8 | 2 => 14 | 3 => 21 | 4 => 29 | _ => 38
def dA : Nat → Nat | 0 => 1 | 1 => 5 | 2 => 10 | 3 => 16 | 4 => 23 | _ => 31
theorem zero_bd : bd (makeS 0 1).1 1 1 := by
  rw [makeS_01]
  have p1 : pw 1 = 1000000000 := pw_one
  refine ⟨by decide, ?_, ?_⟩
  · rw [p1]; decide
  · rw [p1]; decide
end Go.Proofs.Ytbjamhkhocjdkaa.Px
namespace Go.Proofs.Ytbjamhkhocjdkaa.Pw
open Go Wd Px Mat
set_option linter.unusedVariables false
set_option linter.unusedSimpArgs false
set_option maxRecDepth 100000
set_option maxHeartbeats 8000000
attribute [local irreducible] Int.tmod Int.tdiv
theorem itR_succ (f r c : Int) : ∀ (n : Nat) (x a : Rt), itR f r c (n + 1) x a = ((doneR f r c (itR f r c n x a).1).2.2, (addR (itR f r c n x a).2 (doneR f r c (itR f r c n x a).1).1).1)
  | 0, x, a => rfl
  | n + 1, x, a => by rw [itR, itR_succ f r c n, itR]
theorem chain (f r c : Int) {x : Rt} (hc : checkS f r c = 0) (hx : bd x 3 3) (hn : x.neg = false) : ∀ n, n ≤ 5 → bd (itR f r c n x (makeS 0 1).1).1 (5 + n) (3 + n) ∧ (itR f r c n x (makeS 0 1).1).1.neg = false ∧ bd (itR f r c n x (makeS 0 1).1).2 (cA n) (dA n)
  | 0, _ => ⟨bd_mono hx (by decide) (by decide), hn, zero_bd⟩
  | n + 1, h => by
    obtain ⟨h1, h2, h3⟩ := chain f r c hc hx hn n (by omega)
    obtain ⟨b1, b2, b3, b4⟩ := done_bounds hc h1 h2 (by omega) (by omega) (by omega)
    rw [itR_succ]
    refine ⟨b2, b4, ?_⟩
    have key : ∀ k, (cA n + (3 + n + 1) < k ∧ (5 + n + 1) + dA n < k ∧ k ≤ 48 ∧ dA n + (3 + n + 1) ≤ 48 ∧ k ≤ cA (n + 1) ∧ dA n + (3 + n + 1) ≤ dA (n + 1)) → bd (addR (itR f r c n x (makeS 0 1).1).2 (doneR f r c (itR f r c n x (makeS 0 1).1).1).1).1 (cA (n + 1)) (dA (n + 1)) := by
      intro k ⟨k1, k2, k3, k4, k5, k6⟩
      obtain ⟨z, hz, bz⟩ := add_bd k h3 b1 k1 k2 k3 k4
      rw [hz]
      exact bd_mono bz k5 k6
    have hn4 : n = 0 ∨ n = 1 ∨ n = 2 ∨ n = 3 ∨ n = 4 := by omega
    rcases hn4 with e | e | e | e | e <;> subst e
    · exact key 8 (by decide)
    · exact key 14 (by decide)
    · exact key 21 (by decide)
    · exact key 29 (by decide)
    · exact key 38 (by decide)
theorem WetFollows.c (f r c : Int) (x : Rt) (n : Int) : Sound Try.prog 9 [Wt f r c, R x, I n] (B true) := by
  have c0 := light.c x
  by_cases hl : lightS x = true
  rotate_left
  · replace hl : lightS x = false := by simpa using hl
    rw [hl] at c0
    obtain ⟨xn, xp, xq⟩ := x
    exact runL tok mixed [16, 15, 17, 19, 21, 23, 25, 14] 300 6 (Good.cons c0 (Good.cons awake.c Good.nil)) (by kernel_rfl)
  rw [hl] at c0
  by_cases h0 : n < 0
  · obtain ⟨xn, xp, xq⟩ := x
    refine Sound.of_WP tok Try.func9 rfl rfl ?_; simp only [Try.f9, args0, List.map, List.length_cons, List.length_nil, Nat.reduceAdd, Nat.reduceSub, List.replicate, List.cons_append, List.nil_append]
    repeat' (first | refine WP_seq ?_ | refine WP_block ?_ | (refine WP_R 64 (by decide) fun KQ hKQ => ?_) | (refine WP_D 64 (by decide) ?_ fun KQ hKQ => ?_; (focus kernel_rfl)) | ((first | (refine opsW_op rfl rfl rfl ?_ rfl ?_; (first | exact trivial | omega | (dsimp only; omega) | (dsimp only; exact ⟨by omega, by omega, by omega⟩) | (simp only [Mid.len, Blk.cells, List.length_map, List.length_set, List.length_replicate, List.length_append, Nat.mul_one, Nat.zero_add, reduceCtorEq, List.length_cons, List.length_nil, List.length_take, List.length_drop, true_and, and_true, false_implies, implies_true]; first | done | omega) | (simp; done) | (simp; omega) | grind)) | (refine opsW_callP (qs := ?_) (rd := ?_) (u := ?_) (c0) rfl rfl rfl ?_ ?_ ?_ ?_ ?_; rotate_right 6; (focus rfl); (focus (first | rfl | (simp only [nrm1, nrm, List.map, List.drop_zero, Nat.mul_one, takeI, dropI, List.take_length]; done) | (simp only [nrm1, nrm, List.map, List.drop_zero, Nat.mul_one, takeI, dropI, List.take_length]; rfl))); rotate_left 1; (focus rfl); (focus rfl); rotate_right 0) | (refine opsW_callP (qs := ?_) (rd := ?_) (u := ?_) (awake.c) rfl rfl rfl ?_ ?_ ?_ ?_ ?_; rotate_right 6; (focus rfl); (focus (first | rfl | (simp only [nrm1, nrm, List.map, List.drop_zero, Nat.mul_one, takeI, dropI, List.take_length]; done) | (simp only [nrm1, nrm, List.map, List.drop_zero, Nat.mul_one, takeI, dropI, List.take_length]; rfl))); rotate_left 1; (focus rfl); (focus rfl); rotate_right 0)); (try simp only [Mid.get, Mid.set, mx_fold, PV.flat, flats, nrm1, nrm, Bool.true_and, Bool.and_true, Bool.and_self, ev, List.replicate, Option.map_some, Option.bind_some, Nat.reduceBEq, beq_self_eq_true, setD, List.set, puts, put, del, cellsTo, cells1, allP, lay, putIn, joinB, sub, overB, rep, Blk.mk, AV.cells, List.map, List.drop, List.take, List.cons_append, List.nil_append, List.append_nil, List.getD_cons_succ, List.getD_cons_zero, if_true, if_false, Bool.false_eq_true, reduceIte, wrap_i64, getI, takeI, dropI, setI, repI, Nat.mul_one, Nat.one_mul, Nat.zero_add, Nat.add_zero, Nat.zero_mul, Int.toNat_natCast, Int.reduceNeg, Int.reduceToNat, Nat.reduceAdd, Nat.reduceMul, Nat.reduceSub, decide_true, decide_false, Bool.not_true, Bool.not_false, cond_true, cond_false, gt_iff_lt, ge_iff_le, Int.reduceLT, Int.reduceLE, Int.lt_irrefl, Int.le_refl, List.length_set, List.length_map, *])) | (refine opsW_skip rfl ?_; simp only [setD, List.set]) | (refine opsW_nil ⟨?_, hKQ _ _ _ ?_⟩; (focus kernel_rfl); clear hKQ KQ; try simp only [seqK, blockK, loopG, List.length_cons, List.length_nil, Nat.reduceAdd, Nat.reduceMul]) | (refine opsW_nil (hKQ _ _ _ ?_); clear hKQ KQ; try simp only [seqK, blockK, loopG, List.length_cons, List.length_nil, Nat.reduceAdd, Nat.reduceMul]) | (refine WP_cond (t := true) rfl ?_; simp only [if_true]) | (refine WP_cond (t := false) rfl ?_; simp only [if_false, Bool.false_eq_true]) | (refine WP_skip ?_; simp only [seqK, blockK, loopG]) | (refine WP_ret ?_; simp only [seqK, blockK, loopG, Fin]) | (refine WP_exit ?_; simp only [seqK, blockK, loopG, reduceIte, Nat.reduceEqDiff]))
    (simp only [List.take_take, Nat.min_self, List.nil_append, Int.toNat_natCast, take_set_len, get, dropI, takeI, List.drop_zero, List.take_length, Nat.mul_one, Nat.reduceBEq, cond_true, cond_false, beq_self_eq_true, Option.map_some, Option.bind_some, Res, resAll, resOne, Fin, pack, frz, frzs, nrm1, nrm, Option.bind, Option.map, List.getD_cons_succ, List.getD_cons_zero, List.map, true_and, and_self, and_true]; first | exact ⟨_, rfl⟩ | (refine ⟨_, Option.some_inj.2 (Prod.ext ?_ rfl)⟩; simp only [List.take_take, Nat.min_self, List.nil_append, List.take_length, List.length_take, List.length_set, List.length_append, List.length_replicate, List.length_cons, List.length_nil, takeI, repI, setI, PV.tup.injEq, PV.lst.injEq, List.cons.injEq, and_true, true_and, *] <;> first | done | omega | (refine ⟨?_, ?_⟩ <;> first | rfl | omega)))
  by_cases h4 : 4 < n
  · obtain ⟨xn, xp, xq⟩ := x
    refine Sound.of_WP tok Try.func9 rfl rfl ?_; simp only [Try.f9, args0, List.map, List.length_cons, List.length_nil, Nat.reduceAdd, Nat.reduceSub, List.replicate, List.cons_append, List.nil_append]
    repeat' (first | refine WP_seq ?_ | refine WP_block ?_ | (refine WP_R 64 (by decide) fun KQ hKQ => ?_) | (refine WP_D 64 (by decide) ?_ fun KQ hKQ => ?_; (focus kernel_rfl)) | ((first | (refine opsW_op rfl rfl rfl ?_ rfl ?_; (first | exact trivial | omega | (dsimp only; omega) | (dsimp only; exact ⟨by omega, by omega, by omega⟩) | (simp only [Mid.len, Blk.cells, List.length_map, List.length_set, List.length_replicate, List.length_append, Nat.mul_one, Nat.zero_add, reduceCtorEq, List.length_cons, List.length_nil, List.length_take, List.length_drop, true_and, and_true, false_implies, implies_true]; first | done | omega) | (simp; done) | (simp; omega) | grind)) | (refine opsW_callP (qs := ?_) (rd := ?_) (u := ?_) (c0) rfl rfl rfl ?_ ?_ ?_ ?_ ?_; rotate_right 6; (focus rfl); (focus (first | rfl | (simp only [nrm1, nrm, List.map, List.drop_zero, Nat.mul_one, takeI, dropI, List.take_length]; done) | (simp only [nrm1, nrm, List.map, List.drop_zero, Nat.mul_one, takeI, dropI, List.take_length]; rfl))); rotate_left 1; (focus rfl); (focus rfl); rotate_right 0) | (refine opsW_callP (qs := ?_) (rd := ?_) (u := ?_) (awake.c) rfl rfl rfl ?_ ?_ ?_ ?_ ?_; rotate_right 6; (focus rfl); (focus (first | rfl | (simp only [nrm1, nrm, List.map, List.drop_zero, Nat.mul_one, takeI, dropI, List.take_length]; done) | (simp only [nrm1, nrm, List.map, List.drop_zero, Nat.mul_one, takeI, dropI, List.take_length]; rfl))); rotate_left 1; (focus rfl); (focus rfl); rotate_right 0)); (try simp only [Mid.get, Mid.set, mx_fold, PV.flat, flats, nrm1, nrm, Bool.true_and, Bool.and_true, Bool.and_self, ev, List.replicate, Option.map_some, Option.bind_some, Nat.reduceBEq, beq_self_eq_true, setD, List.set, puts, put, del, cellsTo, cells1, allP, lay, putIn, joinB, sub, overB, rep, Blk.mk, AV.cells, List.map, List.drop, List.take, List.cons_append, List.nil_append, List.append_nil, List.getD_cons_succ, List.getD_cons_zero, if_true, if_false, Bool.false_eq_true, reduceIte, wrap_i64, getI, takeI, dropI, setI, repI, Nat.mul_one, Nat.one_mul, Nat.zero_add, Nat.add_zero, Nat.zero_mul, Int.toNat_natCast, Int.reduceNeg, Int.reduceToNat, Nat.reduceAdd, Nat.reduceMul, Nat.reduceSub, decide_true, decide_false, Bool.not_true, Bool.not_false, cond_true, cond_false, gt_iff_lt, ge_iff_le, Int.reduceLT, Int.reduceLE, Int.lt_irrefl, Int.le_refl, List.length_set, List.length_map, *])) | (refine opsW_skip rfl ?_; simp only [setD, List.set]) | (refine opsW_nil ⟨?_, hKQ _ _ _ ?_⟩; (focus kernel_rfl); clear hKQ KQ; try simp only [seqK, blockK, loopG, List.length_cons, List.length_nil, Nat.reduceAdd, Nat.reduceMul]) | (refine opsW_nil (hKQ _ _ _ ?_); clear hKQ KQ; try simp only [seqK, blockK, loopG, List.length_cons, List.length_nil, Nat.reduceAdd, Nat.reduceMul]) | (refine WP_cond (t := true) rfl ?_; simp only [if_true]) | (refine WP_cond (t := false) rfl ?_; simp only [if_false, Bool.false_eq_true]) | (refine WP_skip ?_; simp only [seqK, blockK, loopG]) | (refine WP_ret ?_; simp only [seqK, blockK, loopG, Fin]) | (refine WP_exit ?_; simp only [seqK, blockK, loopG, reduceIte, Nat.reduceEqDiff]))
    (simp only [List.take_take, Nat.min_self, List.nil_append, Int.toNat_natCast, take_set_len, get, dropI, takeI, List.drop_zero, List.take_length, Nat.mul_one, Nat.reduceBEq, cond_true, cond_false, beq_self_eq_true, Option.map_some, Option.bind_some, Res, resAll, resOne, Fin, pack, frz, frzs, nrm1, nrm, Option.bind, Option.map, List.getD_cons_succ, List.getD_cons_zero, List.map, true_and, and_self, and_true]; first | exact ⟨_, rfl⟩ | (refine ⟨_, Option.some_inj.2 (Prod.ext ?_ rfl)⟩; simp only [List.take_take, Nat.min_self, List.nil_append, List.take_length, List.length_take, List.length_set, List.length_append, List.length_replicate, List.length_cons, List.length_nil, takeI, repI, setI, PV.tup.injEq, PV.lst.injEq, List.cons.injEq, and_true, true_and, *] <;> first | done | omega | (refine ⟨?_, ?_⟩ <;> first | rfl | omega)))
  by_cases h : beginS f r c x = 0
  rotate_left
  · have c1 := wet_After.bad f r c x n h
    have c2 := wet_Paper.bad f r c x n h
    have c3 := wet_After.bad f r c x (n + 1) h
    have c4 := wet_Paper.bad f r c x (n + 1) h
    have hn : n = 0 ∨ n = 1 ∨ n = 2 ∨ n = 3 ∨ n = 4 := by omega
    obtain ⟨xn, xp, xq⟩ := x
    rcases begin_vals f r c ⟨xn, xp, xq⟩ with e | e | e | e | e <;> rw [e] at c1 c2 c3 c4
    · exact absurd e h
    all_goals (rcases hn with e | e | e | e | e <;> subst e <;> exact runL tok mixed [16, 15, 17, 19, 21, 23, 25, 14] 300 6 (Good.cons c0 (Good.cons c1 (Good.cons c2 (Good.cons c3 (Good.cons c4 (Good.cons awake.c Good.nil)))))) (by kernel_rfl))
  obtain ⟨hc, hw⟩ := begin_zero h
  obtain ⟨vx, nx, _, _⟩ := white_zero hw
  have ch := fun k hk => chain f r c hc (light_bd hl hw) nx k hk
  have af : ∀ k : Nat, k ≤ 5 → Sound Try.prog 19 [Wt f r c, R x, I (k : Int)] (.tup [R (itR f r c k x (makeS 0 1).1).1, I 0]) := fun k hk => by
    have := wet_After.ok f r c x k h (by omega) (by omega)
    rw [show ((k : Int)).toNat = k by simp, add_zero' (.inl (ch k hk).1.1)] at this
    exact this
  have pa : ∀ k : Nat, k ≤ 5 → Sound Try.prog 21 [Wt f r c, R x, I (k : Int)] (.tup [R (itR f r c k x (makeS 0 1).1).2, I 0]) := fun k hk => by
    have := wet_Paper.ok f r c x k h (by omega) (by omega)
    rw [show ((k : Int)).toNat = k by simp] at this
    exact this
  have main : ∀ k : Nat, k ≤ 4 → n = (k : Int) → Sound Try.prog 9 [Wt f r c, R x, I n] (B true) := by
    intro k hk hn
    have c1 := af k (by omega)
    have c2 := pa k (by omega)
    have c3 := af (k + 1) (by omega)
    have c4 := pa (k + 1) (by omega)
    obtain ⟨b1, b2, b3⟩ := ch k (by omega)
    rw [itR_succ] at c3 c4
    dsimp only at c3 c4
    have v1 := r3_Valid.c (itR f r c k x (makeS 0 1).1).2
    rw [b3.1] at v1
    obtain ⟨d1, _⟩ := done_bounds hc b1 b2 (by omega) (by omega) (by omega)
    have v2 := r3_Valid.c (doneR f r c (itR f r c k x (makeS 0 1).1).1).1
    rw [d1.1] at v2
    have ad := r3_Add.c (itR f r c k x (makeS 0 1).1).2 (doneR f r c (itR f r c k x (makeS 0 1).1).1).1
    have st : (beginS f r c (itR f r c k x (makeS 0 1).1).1 = 0) ∨ beginS f r c (itR f r c k x (makeS 0 1).1).1 = 32 := by
      unfold beginS
      rw [if_pos hc]
      rcases white_cases (itR f r c k x (makeS 0 1).1).1 with ⟨e1, _⟩ | ⟨_, e1, _⟩ | ⟨_, _, _, e⟩ | ⟨_, _, _, _, e⟩ | ⟨_, _, _, _, e⟩
      · rw [b1.1] at e1; cases e1
      · rw [b2] at e1; cases e1
      · exact .inr e
      · exact .inr e
      · exact .inl e
    have sok := fun h => wet_Step.ok f r c (itR f r c k x (makeS 0 1).1).1 h
    have sbad := fun h => wet_Step.bad f r c (itR f r c k x (makeS 0 1).1).1 h
    clear ch af pa b1 b2 b3 d1
    generalize itR f r c k x (makeS 0 1).1 = X at *
    have s1 := same.c (doneR f r c X.1).2.2
    generalize addR X.2 (doneR f r c X.1).1 = E at *
    have s2 := same.c E.1
    generalize doneR f r c X.1 = D at *
    have hk' : k = 0 ∨ k = 1 ∨ k = 2 ∨ k = 3 ∨ k = 4 := by omega
    clear h hl hc hw vx nx h0 h4 hk
    rcases st with e | e
    · have t1 := sok e
      clear sok sbad e
      obtain ⟨xn, xp, xq⟩ := x
      obtain ⟨⟨X1n, X1p, X1q⟩, ⟨X2n, X2p, X2q⟩⟩ := X
      obtain ⟨⟨an, ap, aq⟩, ⟨bn, bp, bq⟩, ⟨wn, wp, wq⟩⟩ := D
      obtain ⟨⟨en, ep, eq⟩, ee⟩ := E
      dsimp only at *
      rcases hk' with e | e | e | e | e <;> subst e <;> subst hn <;> exact runL tok mixed [16, 15, 17, 19, 21, 23, 25, 14] 300 6 (Good.cons c0 (Good.cons c1 (Good.cons c2 (Good.cons c3 (Good.cons c4 (Good.cons t1 (Good.cons v1 (Good.cons v2 (Good.cons ad (Good.cons s1 (Good.cons s2 (Good.cons awake.c Good.nil)))))))))))) (by kernel_rfl)
    · have t1 := sbad (by rw [e]; decide)
      rw [e] at t1
      clear sok sbad e
      obtain ⟨xn, xp, xq⟩ := x
      obtain ⟨⟨X1n, X1p, X1q⟩, ⟨X2n, X2p, X2q⟩⟩ := X
      obtain ⟨⟨an, ap, aq⟩, ⟨bn, bp, bq⟩, ⟨wn, wp, wq⟩⟩ := D
      obtain ⟨⟨en, ep, eq⟩, ee⟩ := E
      dsimp only at *
      rcases hk' with e | e | e | e | e <;> subst e <;> subst hn <;> exact runL tok mixed [16, 15, 17, 19, 21, 23, 25, 14] 300 6 (Good.cons c0 (Good.cons c1 (Good.cons c2 (Good.cons c3 (Good.cons c4 (Good.cons t1 (Good.cons awake.c Good.nil))))))) (by kernel_rfl)
  exact main n.toNat (by omega) (by omega)
end Go.Proofs.Ytbjamhkhocjdkaa.Pw
