/- The functions of the program as functions of values, part 13: a proof's lemmas, with no condition of their own. -/
import Derived.Test.YtalklhbdpmggjaaDoorNeh
import Derived.Test.YtalklhbdpmggjaaDoorNel
set_option linter.unusedVariables false
set_option linter.unusedSimpArgs false
namespace Go.Proofs.YtalklhbdpmggjaaDoor.Pw
open Go Wd Px Mat
set_option linter.unusedVariables false
set_option linter.unusedSimpArgs false
set_option maxRecDepth 100000
set_option maxHeartbeats 8000000
attribute [local irreducible] Int.tmod Int.tdiv
theorem r3_Valid.c (x : Rt) : Sound Tryd.prog 60 [R x] (B (rvB x)) := by
  obtain ⟨n, p, q⟩ := x
  have c1 := ref_Valid.c p
  have c2 := ref_Valid.c q
  by_cases hp : okN p = true
  rotate_left
  · replace hp : okN p = false := by simpa using hp
    rw [show rvB ⟨n, p, q⟩ = false by simp [rvB, hp]]
    rw [hp] at c1
    exact runL tok mixed [40, 28, 96] 300 6 (Good.cons c1 Good.nil) (by kernel_rfl)
  by_cases hq : okN q = true
  rotate_left
  · replace hq : okN q = false := by simpa using hq
    rw [show rvB ⟨n, p, q⟩ = false by simp [rvB, hq]]
    rw [hp] at c1; rw [hq] at c2
    exact runL tok mixed [40, 28, 96] 300 6 (Good.cons c1 (Good.cons c2 Good.nil)) (by kernel_rfl)
  rw [hp] at c1; rw [hq] at c2
  cases q with
  | nil =>
    rw [show rvB ⟨n, p, []⟩ = false by simp [rvB]]
    exact runL tok mixed [40, 28, 96] 300 6 (Good.cons c1 (Good.cons c2 Good.nil)) (by kernel_rfl)
  | cons d q =>
    have e : gcdS p (d :: q) = (dg (gcdI (val p) (val (d :: q))), 0) := by unfold gcdS; rw [if_pos ⟨hp, hq⟩]
    have c3 := ref_Gcd.c p (d :: q)
    rw [e] at c3
    have c4 := limbs.c (dg (gcdI (val p) (val (d :: q)))) [1]
    rw [show decide (dg (gcdI (val p) (val (d :: q))) = [1]) = decide (gcdI (val p) (val (d :: q)) = 1) from decide_eq_decide.2 (dg_one_iff (gcdI_nonneg _ _))] at c4
    have key : rvB ⟨n, p, d :: q⟩ = (!(n && decide (p.length = 0)) && decide (gcdI (val p) (val (d :: q)) = 1)) := by simp [rvB, hp, hq]
    rw [key]
    clear key e
    dsimp only at c3
    generalize decide (gcdI (val p) (val (d :: q)) = 1) = b at *
    generalize dg (gcdI (val p) (val (d :: q))) = G at *
    clear hp hq
    cases p <;> cases n
    case nil.true => exact runL tok mixed [40, 28, 96] 300 6 (Good.cons c1 (Good.cons c2 Good.nil)) (by kernel_rfl)
    all_goals exact runL tok mixed [40, 28, 96] 300 6 (Good.cons c1 (Good.cons c2 (Good.cons c3 (Good.cons c4 Good.nil)))) (by kernel_rfl)
theorem r3_Reduce.c (neg : Bool) (p q : List Int) (hp : okN p = true) (hq : okN q = true) (h0 : q ≠ []) : Sound Tryd.prog 95 [B neg, N p, N q] (R (redS neg p q)) := by
  obtain ⟨g1, g2, g3⟩ := gcd_facts hp hq h0
  have c1 := ref_Gcd.c p q
  have e : gcdS p q = (dg (gcdI (val p) (val q)), 0) := by unfold gcdS; rw [if_pos ⟨hp, hq⟩]
  rw [e] at c1
  dsimp only at c1
  have c2 := ref_DivMod.c p (dg (gcdI (val p) (val q)))
  have c3 := ref_DivMod.c q (dg (gcdI (val p) (val q)))
  rw [divS_gcd hp g1 g2, g3] at c2
  rw [divS_gcd hq g1 g2, g3] at c3
  dsimp only at c2 c3
  have hr : redS neg p q = ⟨neg && decide (0 < (dg (val p / gcdI (val p) (val q))).length), dg (val p / gcdI (val p) (val q)), dg (val q / gcdI (val p) (val q))⟩ := rfl
  rw [hr]
  generalize dg (gcdI (val p) (val q)) = G at *
  generalize dg (val p / gcdI (val p) (val q)) = X at *
  generalize dg (val q / gcdI (val p) (val q)) = Y at *
  generalize dg (val p % gcdI (val p) (val q)) = X1 at *
  generalize dg (val q % gcdI (val p) (val q)) = Y1 at *
  cases neg <;> cases X <;> exact runL tok mixed [28, 26] 200 3 (Good.cons c1 (Good.cons c2 (Good.cons c3 Good.nil))) (by kernel_rfl)
theorem r3_Make.c (p q : Int) (hwp : -9223372036854775808 ≤ p ∧ p ≤ 9223372036854775807) (hwq : -9223372036854775808 ≤ q ∧ q ≤ 9223372036854775807) : Sound Tryd.prog 48 [I p, I q] (.tup [R (makeS p q).1, I (makeS p q).2]) := by
  by_cases hp : inR p = true ∧ inR q = true
  · obtain ⟨hp, hq⟩ := hp
    have hp' : -1125899906842624 ≤ p ∧ p ≤ 1125899906842624 := by simpa [inR] using hp
    have hq' : -1125899906842624 ≤ q ∧ q ≤ 1125899906842624 := by simpa [inR] using hq
    obtain ⟨p1, p2⟩ := hp'
    obtain ⟨q1, q2⟩ := hq'
    have n1 : ¬ p < -1125899906842624 := by omega
    have n2 : ¬ 1125899906842624 < p := by omega
    have n3 : ¬ q < -1125899906842624 := by omega
    have n4 : ¬ 1125899906842624 < q := by omega
    by_cases h0 : q = 0
    · subst h0
      rw [show makeS p 0 = (zR, 16) by unfold makeS; rw [if_pos ⟨hp, hq⟩, if_pos rfl]]
      refine Sound.of_WP tok Tryd.func48 rfl rfl ?_; simp only [Tryd.f48, args0, List.map, List.length_cons, List.length_nil, Nat.reduceAdd, Nat.reduceSub, List.replicate, List.cons_append, List.nil_append]
      repeat' (first | refine WP_seq ?_ | refine WP_block ?_ | refine regA 64 fun KQ hKQ => ?_ | refine regD 64 fun KQ hKQ => ?_ | refine opsA rfl rfl rfl rfl (nrmA ?_) | refine opsW_skip rfl (nrmA ?_) | (refine opsW_nil ⟨by kernel_rfl, hKQ _ _ _ (nrmB ?_)⟩; clear hKQ KQ) | (refine opsW_nil (hKQ _ _ _ (nrmB ?_)); clear hKQ KQ) | refine condT rfl ?_ | refine condF rfl ?_ | refine WP_skip (nrmB ?_) | refine WP_ret (nrmC ?_) | refine WP_exit (nrmC ?_))
      (refine Res_of rfl ?_ ?_; (focus (first | (refine ⟨⟨?_, ?_⟩, trivial⟩ <;> first | exact Nat.le_of_ble_eq_true rfl | (refine Nat.le_of_ble_eq_true ?_; kernel_rfl) | (intro hh; cases hh)) | (refine ⟨⟨?_, ?_⟩, trivial, trivial⟩ <;> first | (refine Nat.le_of_ble_eq_true ?_; kernel_rfl) | (intro hh; cases hh)) | (refine ⟨⟨?_, ?_⟩, trivial⟩ <;> decide) | (refine ⟨⟨?_, ?_⟩, ⟨trivial, trivial⟩⟩ <;> decide) | decide | (simp [Blk.cells]; done))); exact ⟨_, rfl⟩)
    · have k1 := absI_ok hp
      have k2 := absI_ok hq
      rw [show makeS p q = (redS (!(decide (p < 0) == decide (q < 0))) (dg (absI p)) (dg (absI q)), 0) by unfold makeS; rw [if_pos ⟨hp, hq⟩, if_neg h0]]
      have w1 : wrap64 (0 - p) = -p := by rw [Int.zero_sub]; exact w64 (by omega) (by omega)
      have w2 : wrap64 (0 - q) = -q := by rw [Int.zero_sub]; exact w64 (by omega) (by omega)
      have m1 : mx p (-p) = absI p := by unfold mx absI; split <;> split <;> omega
      have m2 : mx q (-q) = absI q := by unfold mx absI; split <;> split <;> omega
      have c3 := ref_Of.c (absI p) (by unfold absI; split <;> omega)
      have c4 := ref_Of.c (absI q) (by unfold absI; split <;> omega)
      rw [show ofS (absI p) = (dg (absI p), 0) by unfold ofS; rw [if_neg (by unfold absI; split <;> omega)]] at c3
      rw [show ofS (absI q) = (dg (absI q), 0) by unfold ofS; rw [if_neg (by unfold absI; split <;> omega)]] at c4
      dsimp only at c3 c4
      have c5 := r3_Reduce.c (!(decide (p < 0) == decide (q < 0))) (dg (absI p)) (dg (absI q)) k1.1 k2.1 (k2.2 h0)
      clear k1 k2
      generalize hz : redS _ (dg (absI p)) (dg (absI q)) = z at *
      clear hz
      generalize dg (absI p) = P at *
      generalize dg (absI q) = Q at *
      generalize absI p = A1 at *
      generalize absI q = A2 at *
      by_cases s1 : p < 0 <;> by_cases s2 : q < 0
      all_goals
        simp only [s1, s2, decide_true, decide_false] at c5
        refine Sound.of_WP tok Tryd.func48 rfl rfl ?_; simp only [Tryd.f48, args0, List.map, List.length_cons, List.length_nil, Nat.reduceAdd, Nat.reduceSub, List.replicate, List.cons_append, List.nil_append]
        repeat' (first | refine WP_seq ?_ | refine WP_block ?_ | refine regA 64 fun KQ hKQ => ?_ | refine regD 64 fun KQ hKQ => ?_ | refine opsA rfl rfl rfl rfl (nrmA ?_) | refine callA rfl rfl rfl (nrmA ?_) (hs := c3) | refine callA rfl rfl rfl (nrmA ?_) (hs := c4) | refine callA rfl rfl rfl (nrmA ?_) (hs := c5) | refine opsW_skip rfl (nrmA ?_) | (refine opsW_nil ⟨by kernel_rfl, hKQ _ _ _ (nrmB ?_)⟩; clear hKQ KQ) | (refine opsW_nil (hKQ _ _ _ (nrmB ?_)); clear hKQ KQ) | refine condT rfl ?_ | refine condF rfl ?_ | refine WP_skip (nrmB ?_) | refine WP_ret (nrmC ?_) | refine WP_exit (nrmC ?_))
        (refine Res_of rfl ?_ ?_; (focus (first | (refine ⟨⟨?_, ?_⟩, trivial⟩ <;> first | exact Nat.le_of_ble_eq_true rfl | (refine Nat.le_of_ble_eq_true ?_; kernel_rfl) | (intro hh; cases hh)) | (refine ⟨⟨?_, ?_⟩, trivial, trivial⟩ <;> first | (refine Nat.le_of_ble_eq_true ?_; kernel_rfl) | (intro hh; cases hh)) | (refine ⟨⟨?_, ?_⟩, trivial⟩ <;> decide) | (refine ⟨⟨?_, ?_⟩, ⟨trivial, trivial⟩⟩ <;> decide) | decide | (simp [Blk.cells]; done))); exact ⟨_, rfl⟩)
  · rw [show makeS p q = (zR, 1) by unfold makeS; rw [if_neg hp]]
    have hp' : p < -1125899906842624 ∨ (¬ p < -1125899906842624 ∧ 1125899906842624 < p) ∨ (¬ p < -1125899906842624 ∧ ¬ 1125899906842624 < p ∧ q < -1125899906842624) ∨ (¬ p < -1125899906842624 ∧ ¬ 1125899906842624 < p ∧ ¬ q < -1125899906842624 ∧ 1125899906842624 < q) := by
      simp only [inR, Bool.and_eq_true, decide_eq_true_eq] at hp
      omega
    clear hp
    rcases hp' with n1 | ⟨n1, n2⟩ | ⟨n1, n2, n3⟩ | ⟨n1, n2, n3, n4⟩
    all_goals
      refine Sound.of_WP tok Tryd.func48 rfl rfl ?_; simp only [Tryd.f48, args0, List.map, List.length_cons, List.length_nil, Nat.reduceAdd, Nat.reduceSub, List.replicate, List.cons_append, List.nil_append]
      repeat' (first | refine WP_seq ?_ | refine WP_block ?_ | refine regA 64 fun KQ hKQ => ?_ | refine regD 64 fun KQ hKQ => ?_ | refine opsA rfl rfl rfl rfl (nrmA ?_) | refine opsW_skip rfl (nrmA ?_) | (refine opsW_nil ⟨by kernel_rfl, hKQ _ _ _ (nrmB ?_)⟩; clear hKQ KQ) | (refine opsW_nil (hKQ _ _ _ (nrmB ?_)); clear hKQ KQ) | refine condT rfl ?_ | refine condF rfl ?_ | refine WP_skip (nrmB ?_) | refine WP_ret (nrmC ?_) | refine WP_exit (nrmC ?_))
      (refine Res_of rfl ?_ ?_; (focus (first | (refine ⟨⟨?_, ?_⟩, trivial⟩ <;> first | exact Nat.le_of_ble_eq_true rfl | (refine Nat.le_of_ble_eq_true ?_; kernel_rfl) | (intro hh; cases hh)) | (refine ⟨⟨?_, ?_⟩, trivial, trivial⟩ <;> first | (refine Nat.le_of_ble_eq_true ?_; kernel_rfl) | (intro hh; cases hh)) | (refine ⟨⟨?_, ?_⟩, trivial⟩ <;> decide) | (refine ⟨⟨?_, ?_⟩, ⟨trivial, trivial⟩⟩ <;> decide) | decide | (simp [Blk.cells]; done))); exact ⟨_, rfl⟩)
theorem r3_Of.c (n : Int) (hw : -9223372036854775808 ≤ n ∧ n ≤ 9223372036854775807) : Sound Tryd.prog 46 [I n] (.tup [R (makeS n 1).1, I (makeS n 1).2]) :=
  runL tok mixed [48] 100 2 (Good.cons (r3_Make.c n 1 hw (by decide)) Good.nil) (by kernel_rfl)
theorem r3_negated.c (x : Rt) : Sound Tryd.prog 99 [R x] (R (negR x)) := by
  obtain ⟨n, p, q⟩ := x
  cases n <;> cases p <;> exact runL tok mixed [] 100 2 Good.nil (by kernel_rfl)
/-- Two numbers have the same fields. -/
def sameS (x y : Rt) : Bool := (x.neg == y.neg) && (decide (x.p = y.p) && decide (x.q = y.q))
theorem sameS_iff {x y : Rt} : sameS x y = true ↔ x = y := by
  obtain ⟨a, b, c⟩ := x
  obtain ⟨d, e, f⟩ := y
  simp [sameS]
theorem sameS_self (x : Rt) : sameS x x = true := sameS_iff.2 rfl
theorem r3_Mul.c (x y : Rt) : Sound Tryd.prog 71 [R x, R y] (.tup [R (mulR x y).1, I (mulR x y).2]) := by
  have c1 := r3_Valid.c x
  have c2 := r3_Valid.c y
  by_cases hx : rvB x = true
  rotate_left
  · rw [show mulR x y = (zR, 3) by unfold mulR; rw [if_neg (fun h => hx h.1)]]
    replace hx : rvB x = false := by simpa using hx
    rw [hx] at c1
    clear hx
    obtain ⟨xn, xp, xq⟩ := x
    obtain ⟨yn, yp, yq⟩ := y
    exact runL tok mixed [60, 23, 95] 300 6 (Good.cons c1 Good.nil) (by kernel_rfl)
  rw [hx] at c1
  by_cases hy : rvB y = true
  rotate_left
  · rw [show mulR x y = (zR, 3) by unfold mulR; rw [if_neg (fun h => hy h.2)]]
    replace hy : rvB y = false := by simpa using hy
    rw [hy] at c2
    clear hx hy
    obtain ⟨xn, xp, xq⟩ := x
    obtain ⟨yn, yp, yq⟩ := y
    exact runL tok mixed [60, 23, 95] 300 6 (Good.cons c1 (Good.cons c2 Good.nil)) (by kernel_rfl)
  rw [hy] at c2
  have c3 := ref_Mul.c x.p y.p
  have c4 := ref_Mul.c x.q y.q
  obtain ⟨x1, x2, x3, _⟩ := rvB_iff.1 hx
  obtain ⟨y1, y2, y3, _⟩ := rvB_iff.1 hy
  have hq := Int.mul_pos (q_pos hx) (q_pos hy)
  have hu : mulR x y = (if (mulS x.p y.p).2 = 0 then (if (mulS x.q y.q).2 = 0 then (redS (!(x.neg == y.neg)) (mulS x.p y.p).1 (mulS x.q y.q).1, 0) else (zR, (mulS x.q y.q).2)) else (zR, (mulS x.p y.p).2)) := by unfold mulR; rw [if_pos ⟨hx, hy⟩]
  rw [hu]
  clear hu
  rcases mulS_cases x1 y1 with ⟨m, e1, m1, m2⟩ | e1 <;> rcases mulS_cases x2 y2 with ⟨k, e2, k1, k2⟩ | e2 <;> rw [e1] at c3 ⊢ <;> rw [e2] at c4 ⊢
  · have c5 := r3_Reduce.c (!(x.neg == y.neg)) m k m1 k1 (fun e => by subst e; rw [← k2] at hq; simp [val] at hq)
    rw [if_pos rfl, if_pos rfl]
    generalize redS (!(x.neg == y.neg)) m k = z at *
    clear hx hy x1 x2 x3 y1 y2 y3 e1 e2 hq m2 k2
    obtain ⟨xn, xp, xq⟩ := x
    obtain ⟨yn, yp, yq⟩ := y
    exact runL tok mixed [60, 23, 95] 300 6 (Good.cons c1 (Good.cons c2 (Good.cons c3 (Good.cons c4 (Good.cons c5 Good.nil))))) (by kernel_rfl)
  all_goals
    clear hx hy x1 x2 x3 y1 y2 y3 e1 e2 hq
    obtain ⟨xn, xp, xq⟩ := x
    obtain ⟨yn, yp, yq⟩ := y
    exact runL tok mixed [60, 23, 95] 300 6 (Good.cons c1 (Good.cons c2 (Good.cons c3 (Good.cons c4 Good.nil)))) (by kernel_rfl)
theorem r3_Add.c (x y : Rt) : Sound Tryd.prog 62 [R x, R y] (.tup [R (addR x y).1, I (addR x y).2]) := by
  have c1 := r3_Valid.c x
  have c2 := r3_Valid.c y
  by_cases hx : rvB x = true
  rotate_left
  · rw [show addR x y = (zR, 3) by unfold addR; rw [if_neg (fun h => hx h.1)]]
    replace hx : rvB x = false := by simpa using hx
    rw [hx] at c1
    clear hx
    obtain ⟨xn, xp, xq⟩ := x
    obtain ⟨yn, yp, yq⟩ := y
    exact runL tok mixed [60, 23, 42, 44, 33, 95] 300 6 (Good.cons c1 Good.nil) (by kernel_rfl)
  by_cases hy : rvB y = true
  rotate_left
  · rw [show addR x y = (zR, 3) by unfold addR; rw [if_neg (fun h => hy h.2)]]
    replace hy : rvB y = false := by simpa using hy
    rw [hx] at c1; rw [hy] at c2
    clear hx hy
    obtain ⟨xn, xp, xq⟩ := x
    obtain ⟨yn, yp, yq⟩ := y
    exact runL tok mixed [60, 23, 42, 44, 33, 95] 300 6 (Good.cons c1 (Good.cons c2 Good.nil)) (by kernel_rfl)
  rw [hx] at c1; rw [hy] at c2
  have c3 := ref_Mul.c x.p y.q
  have c4 := ref_Mul.c y.p x.q
  have c5 := ref_Mul.c x.q y.q
  obtain ⟨x1, x2, x3, _⟩ := rvB_iff.1 hx
  obtain ⟨y1, y2, y3, _⟩ := rvB_iff.1 hy
  have hq := Int.mul_pos (q_pos hx) (q_pos hy)
  have hu : addR x y = if (mulS x.p y.q).2 = 0 ∧ (mulS y.p x.q).2 = 0 ∧ (mulS x.q y.q).2 = 0 ∧ (plusS x.neg (mulS x.p y.q).1 y.neg (mulS y.p x.q).1).2.2 = 0 then (redS (plusS x.neg (mulS x.p y.q).1 y.neg (mulS y.p x.q).1).1 (plusS x.neg (mulS x.p y.q).1 y.neg (mulS y.p x.q).1).2.1 (mulS x.q y.q).1, 0) else (zR, 2) := by
    unfold addR; rw [if_pos ⟨hx, hy⟩]
  rw [hu]
  clear hu
  rcases mulS_cases x1 y2 with ⟨m, e1, m1, m2⟩ | e1
  rotate_left
  · rw [e1] at c3 ⊢
    rw [if_neg (by simp)]
    clear hx hy x1 x2 x3 y1 y2 y3 e1
    obtain ⟨xn, xp, xq⟩ := x; obtain ⟨yn, yp, yq⟩ := y
    exact runL tok mixed [60, 23, 42, 44, 33, 95] 300 6 (Good.cons c1 (Good.cons c2 (Good.cons c3 (Good.cons c4 (Good.cons c5 Good.nil))))) (by kernel_rfl)
  rw [e1] at c3 ⊢
  rcases mulS_cases y1 x2 with ⟨k, e2, k1, k2⟩ | e2
  rotate_left
  · rw [e2] at c4 ⊢
    rw [if_neg (by simp)]
    clear hx hy x1 x2 x3 y1 y2 y3 e1 e2
    obtain ⟨xn, xp, xq⟩ := x; obtain ⟨yn, yp, yq⟩ := y
    exact runL tok mixed [60, 23, 42, 44, 33, 95] 300 6 (Good.cons c1 (Good.cons c2 (Good.cons c3 (Good.cons c4 (Good.cons c5 Good.nil))))) (by kernel_rfl)
  rw [e2] at c4 ⊢
  rcases mulS_cases x2 y2 with ⟨l, e3, l1, l2⟩ | e3
  rotate_left
  · rw [e3] at c5 ⊢
    rw [if_neg (by simp)]
    clear hx hy x1 x2 x3 y1 y2 y3 e1 e2 e3
    obtain ⟨xn, xp, xq⟩ := x; obtain ⟨yn, yp, yq⟩ := y
    exact runL tok mixed [60, 23, 42, 44, 33, 95] 300 6 (Good.cons c1 (Good.cons c2 (Good.cons c3 (Good.cons c4 (Good.cons c5 Good.nil))))) (by kernel_rfl)
  rw [e3] at c5 ⊢
  simp only [true_and]
  have hl : l ≠ [] := fun e => by
    subst e
    rw [← l2] at hq; simp [val] at hq
  have c6 := ref_Add.c m k
  have c7 := ref_Cmp.c m k
  rw [show ncmpS m k = (cmpS (val m) (val k), 0) by unfold ncmpS; rw [if_pos ⟨m1, k1⟩]] at c7
  have c8 := ref_Sub.c m k
  have c9 := ref_Sub.c k m
  have hmk : okN m = true ∧ okN k = true := ⟨m1, k1⟩
  have hkm : okN k = true ∧ okN m = true := ⟨k1, m1⟩
  obtain ⟨xn, xp, xq⟩ := x
  obtain ⟨yn, yp, yq⟩ := y
  dsimp only at *
  clear hx hy x1 x2 x3 y1 y2 y3 e1 e2 e3 m2 k2 l2 hq
  have pk := fun (a b : Bool) => plusS_ok (m := a) (n := b) m1 k1
  have same : ∀ b, plusS b m b k = (b, addS m k) := fun b => by unfold plusS; rw [if_pos rfl]
  have add : addS m k = Px.fitS (val m + val k) := by unfold addS; rw [if_pos hmk]
  have red := fun (b : Bool) (s : List Int) (hs : okN s = true) => r3_Reduce.c b s l hs l1 hl
  cases xn <;> cases yn
  case false.false =>
    rw [same]
    have p1 := (pk false false).1
    rw [same] at p1
    rcases fitS_cases (val m + val k) with f | f <;> rw [← add] at f
    · rw [f] at c6 p1 ⊢
      have c10 := red false _ p1
      rw [if_pos rfl]
      exact runL tok mixed [60, 23, 42, 44, 33, 95] 300 6 (Good.cons c1 (Good.cons c2 (Good.cons c3 (Good.cons c4 (Good.cons c5 (Good.cons c6 (Good.cons c10 Good.nil))))))) (by kernel_rfl)
    · rw [f] at c6 ⊢
      rw [if_neg (by simp)]
      exact runL tok mixed [60, 23, 42, 44, 33, 95] 300 6 (Good.cons c1 (Good.cons c2 (Good.cons c3 (Good.cons c4 (Good.cons c5 (Good.cons c6 Good.nil)))))) (by kernel_rfl)
  case true.true =>
    rw [same]
    have p1 := (pk true true).1
    rw [same] at p1
    rcases fitS_cases (val m + val k) with f | f <;> rw [← add] at f
    · rw [f] at c6 p1 ⊢
      have c10 := red true _ p1
      rw [if_pos rfl]
      exact runL tok mixed [60, 23, 42, 44, 33, 95] 300 6 (Good.cons c1 (Good.cons c2 (Good.cons c3 (Good.cons c4 (Good.cons c5 (Good.cons c6 (Good.cons c10 Good.nil))))))) (by kernel_rfl)
    · rw [f] at c6 ⊢
      rw [if_neg (by simp)]
      exact runL tok mixed [60, 23, 42, 44, 33, 95] 300 6 (Good.cons c1 (Good.cons c2 (Good.cons c3 (Good.cons c4 (Good.cons c5 (Good.cons c6 Good.nil)))))) (by kernel_rfl)
  case false.true =>
    by_cases hlt : val m < val k
    · have hc : cmpS (val m) (val k) = -1 := by unfold cmpS; rw [if_pos hlt]
      have es : subS k m = (dg (val k - val m), 0) := by unfold subS; rw [if_pos hkm, if_neg (by omega)]
      have ep : plusS false m true k = (true, subS k m) := by unfold plusS; rw [if_neg (by decide), hc, if_pos (by decide)]
      have p1 := (pk false true).1
      rw [ep, es] at p1 ⊢
      rw [es] at c9
      rw [hc] at c7
      have c10 := red true _ p1
      rw [if_pos rfl]
      exact runL tok mixed [60, 23, 42, 44, 33, 95] 300 6 (Good.cons c1 (Good.cons c2 (Good.cons c3 (Good.cons c4 (Good.cons c5 (Good.cons c7 (Good.cons c9 (Good.cons c10 Good.nil)))))))) (by kernel_rfl)
    · have es : subS m k = (dg (val m - val k), 0) := by unfold subS; rw [if_pos hmk, if_neg hlt]
      have hc : cmpS (val m) (val k) = 0 ∨ cmpS (val m) (val k) = 1 := by unfold cmpS; rw [if_neg hlt]; split <;> simp
      have ep : plusS false m true k = (false, subS m k) := by unfold plusS; rw [if_neg (by decide), if_neg (by rcases hc with h | h <;> rw [h] <;> decide)]
      have p1 := (pk false true).1
      rw [ep, es] at p1 ⊢
      rw [es] at c8
      have c10 := red false _ p1
      rw [if_pos rfl]
      rcases hc with hc | hc <;> rw [hc] at c7
      all_goals exact runL tok mixed [60, 23, 42, 44, 33, 95] 300 6 (Good.cons c1 (Good.cons c2 (Good.cons c3 (Good.cons c4 (Good.cons c5 (Good.cons c7 (Good.cons c8 (Good.cons c10 Good.nil)))))))) (by kernel_rfl)
  case true.false =>
    by_cases hlt : val m < val k
    · have hc : cmpS (val m) (val k) = -1 := by unfold cmpS; rw [if_pos hlt]
      have es : subS k m = (dg (val k - val m), 0) := by unfold subS; rw [if_pos hkm, if_neg (by omega)]
      have ep : plusS true m false k = (false, subS k m) := by unfold plusS; rw [if_neg (by decide), hc, if_pos (by decide)]
      have p1 := (pk true false).1
      rw [ep, es] at p1 ⊢
      rw [es] at c9
      rw [hc] at c7
      have c10 := red false _ p1
      rw [if_pos rfl]
      exact runL tok mixed [60, 23, 42, 44, 33, 95] 300 6 (Good.cons c1 (Good.cons c2 (Good.cons c3 (Good.cons c4 (Good.cons c5 (Good.cons c7 (Good.cons c9 (Good.cons c10 Good.nil)))))))) (by kernel_rfl)
    · have es : subS m k = (dg (val m - val k), 0) := by unfold subS; rw [if_pos hmk, if_neg hlt]
      have hc : cmpS (val m) (val k) = 0 ∨ cmpS (val m) (val k) = 1 := by unfold cmpS; rw [if_neg hlt]; split <;> simp
      have ep : plusS true m false k = (true, subS m k) := by unfold plusS; rw [if_neg (by decide), if_neg (by rcases hc with h | h <;> rw [h] <;> decide)]
      have p1 := (pk true false).1
      rw [ep, es] at p1 ⊢
      rw [es] at c8
      have c10 := red true _ p1
      rw [if_pos rfl]
      rcases hc with hc | hc <;> rw [hc] at c7
      all_goals exact runL tok mixed [60, 23, 42, 44, 33, 95] 300 6 (Good.cons c1 (Good.cons c2 (Good.cons c3 (Good.cons c4 (Good.cons c5 (Good.cons c7 (Good.cons c8 (Good.cons c10 Good.nil)))))))) (by kernel_rfl)
theorem r3_Sub.c (x y : Rt) : Sound Tryd.prog 64 [R x, R y] (.tup [R (subR x y).1, I (subR x y).2]) := by
  have c1 := r3_Valid.c x
  have c2 := r3_Valid.c y
  by_cases hx : rvB x = true
  · rw [hx] at c1
    by_cases hy : rvB y = true
    · rw [hy] at c2
      have c3 := r3_negated.c y
      have c4 := r3_Add.c x (negR y)
      rw [show subR x y = addR x (negR y) by unfold subR; rw [if_pos ⟨hx, hy⟩]]
      generalize addR x (negR y) = z at *
      generalize negR y = w at *
      clear hx hy
      obtain ⟨xn, xp, xq⟩ := x
      obtain ⟨yn, yp, yq⟩ := y
      exact runL tok mixed [60, 99, 62] 300 6 (Good.cons c1 (Good.cons c2 (Good.cons c3 (Good.cons c4 Good.nil)))) (by kernel_rfl)
    · rw [show subR x y = (zR, 3) by unfold subR; rw [if_neg (fun h => hy h.2)]]
      replace hy : rvB y = false := by simpa using hy
      rw [hy] at c2
      clear hx hy
      obtain ⟨xn, xp, xq⟩ := x
      obtain ⟨yn, yp, yq⟩ := y
      exact runL tok mixed [60, 99, 62] 300 6 (Good.cons c1 (Good.cons c2 Good.nil)) (by kernel_rfl)
  · rw [show subR x y = (zR, 3) by unfold subR; rw [if_neg (fun h => hx h.1)]]
    replace hx : rvB x = false := by simpa using hx
    rw [hx] at c1
    clear hx
    obtain ⟨xn, xp, xq⟩ := x
    obtain ⟨yn, yp, yq⟩ := y
    exact runL tok mixed [60, 99, 62] 300 6 (Good.cons c1 Good.nil) (by kernel_rfl)
end Go.Proofs.YtalklhbdpmggjaaDoor.Pw
namespace Go.Proofs.YtalklhbdpmggjaaDoor.Pw
open Go Wd Px Mat
set_option linter.unusedVariables false
set_option linter.unusedSimpArgs false
set_option maxRecDepth 100000
set_option maxHeartbeats 8000000
attribute [local irreducible] Int.tmod Int.tdiv
theorem r3_Cmp.c (x y : Rt) : Sound Tryd.prog 66 [R x, R y] (.tup [I (cmpR x y).1, I (cmpR x y).2]) := by
  have c1 := r3_Valid.c x
  have c2 := r3_Valid.c y
  by_cases hx : rvB x = true
  rotate_left
  · rw [show cmpR x y = (0, 3) by unfold cmpR; rw [if_neg (fun h => hx h.1)]]
    replace hx : rvB x = false := by simpa using hx
    rw [hx] at c1
    clear hx
    obtain ⟨xn, xp, xq⟩ := x
    obtain ⟨yn, yp, yq⟩ := y
    exact runO tok mixed [60] 300 6 (Obs.cons c1 Obs.nil) (by kernel_rfl)
  by_cases hy : rvB y = true
  rotate_left
  · rw [show cmpR x y = (0, 3) by unfold cmpR; rw [if_neg (fun h => hy h.2)]]
    replace hy : rvB y = false := by simpa using hy
    rw [hx] at c1; rw [hy] at c2
    clear hx hy
    obtain ⟨xn, xp, xq⟩ := x
    obtain ⟨yn, yp, yq⟩ := y
    exact runO tok mixed [60] 300 6 (Obs.cons c1 (Obs.cons c2 Obs.nil)) (by kernel_rfl)
  rw [hx] at c1; rw [hy] at c2
  have c3 := ref_Mul.c x.p y.q
  have c4 := ref_Mul.c y.p x.q
  obtain ⟨x1, x2, x3, _⟩ := rvB_iff.1 hx
  obtain ⟨y1, y2, y3, _⟩ := rvB_iff.1 hy
  have hu : cmpR x y = if (mulS x.p y.q).2 = 0 ∧ (mulS y.p x.q).2 = 0 then (scmp x.neg y.neg (cmpS (val x.p * val y.q) (val y.p * val x.q)), 0) else (0, 2) := by unfold cmpR; rw [if_pos ⟨hx, hy⟩]
  rw [hu]
  clear hu
  rcases mulS_cases x1 y2 with ⟨m, e1, m1, m2⟩ | e1 <;> rcases mulS_cases y1 x2 with ⟨k, e2, k1, k2⟩ | e2 <;> rw [e1] at c3 ⊢ <;> rw [e2] at c4 ⊢
  rotate_left
  · rw [if_neg (by simp)]
    clear hx hy x1 x2 x3 y1 y2 y3 e1 e2
    obtain ⟨xn, xp, xq⟩ := x; obtain ⟨yn, yp, yq⟩ := y
    exact runO tok mixed [60, 23, 33] 300 6 (Obs.cons c1 (Obs.cons c2 (Obs.cons c3 (Obs.cons c4 Obs.nil)))) (by kernel_rfl)
  · rw [if_neg (by simp)]
    clear hx hy x1 x2 x3 y1 y2 y3 e1 e2
    obtain ⟨xn, xp, xq⟩ := x; obtain ⟨yn, yp, yq⟩ := y
    exact runO tok mixed [60, 23, 33] 300 6 (Obs.cons c1 (Obs.cons c2 (Obs.cons c3 (Obs.cons c4 Obs.nil)))) (by kernel_rfl)
  · rw [if_neg (by simp)]
    clear hx hy x1 x2 x3 y1 y2 y3 e1 e2
    obtain ⟨xn, xp, xq⟩ := x; obtain ⟨yn, yp, yq⟩ := y
    exact runO tok mixed [60, 23, 33] 300 6 (Obs.cons c1 (Obs.cons c2 (Obs.cons c3 (Obs.cons c4 Obs.nil)))) (by kernel_rfl)
  rw [if_pos ⟨rfl, rfl⟩, ← m2, ← k2]
  have c5 := ref_Cmp.c m k
  rw [show ncmpS m k = (cmpS (val m) (val k), 0) by unfold ncmpS; rw [if_pos ⟨m1, k1⟩]] at c5
  have hc := cmpS_cases (val m) (val k)
  generalize cmpS (val m) (val k) = c at *
  clear hx hy x1 x2 x3 y1 y2 y3 e1 e2 m2 k2
  obtain ⟨xn, xp, xq⟩ := x; obtain ⟨yn, yp, yq⟩ := y
  dsimp only at *
  cases xn <;> cases yn
  case false.false => rcases hc with rfl | rfl | rfl <;> exact runO tok mixed [60, 23, 33] 300 6 (Obs.cons c1 (Obs.cons c2 (Obs.cons c3 (Obs.cons c4 (Obs.cons c5 Obs.nil))))) (by kernel_rfl)
  case true.true => rcases hc with rfl | rfl | rfl <;> exact runO tok mixed [60, 23, 33] 300 6 (Obs.cons c1 (Obs.cons c2 (Obs.cons c3 (Obs.cons c4 (Obs.cons c5 Obs.nil))))) (by kernel_rfl)
  case false.true => exact runO tok mixed [60, 23, 33] 300 6 (Obs.cons c1 (Obs.cons c2 (Obs.cons c3 (Obs.cons c4 Obs.nil)))) (by kernel_rfl)
  case true.false => exact runO tok mixed [60, 23, 33] 300 6 (Obs.cons c1 (Obs.cons c2 (Obs.cons c3 (Obs.cons c4 Obs.nil)))) (by kernel_rfl)
theorem r3_Neg.c (x : Rt) : Sound Tryd.prog 52 [R x] (.tup [R (if rvB x = true then negR x else zR), I (if rvB x = true then 0 else 3)]) := by
  have c1 := r3_Valid.c x
  by_cases hx : rvB x = true
  · rw [if_pos hx, if_pos hx]
    have c2 := r3_negated.c x
    rw [hx] at c1
    generalize negR x = z at *
    obtain ⟨xn, xp, xq⟩ := x
    exact runO tok mixed [60, 99] 300 6 (Obs.cons c1 (Obs.cons c2 Obs.nil)) (by kernel_rfl)
  · rw [if_neg hx, if_neg hx]
    replace hx : rvB x = false := by simpa using hx
    rw [hx] at c1
    obtain ⟨xn, xp, xq⟩ := x
    exact runO tok mixed [60] 300 6 (Obs.cons c1 Obs.nil) (by kernel_rfl)
theorem r3_Div.c (x y : Rt) : Sound Tryd.prog 73 [R x, R y] (.tup [R (divR x y).1, I (divR x y).2]) := by
  have c1 := r3_Valid.c x
  have c2 := r3_Valid.c y
  by_cases hx : rvB x = true
  rotate_left
  · rw [show divR x y = (zR, 3) by unfold divR; rw [if_neg (fun h => hx h.1)]]
    replace hx : rvB x = false := by simpa using hx
    rw [hx] at c1
    clear hx
    obtain ⟨xn, xp, xq⟩ := x
    obtain ⟨yn, yp, yq⟩ := y
    exact runO tok mixed [60] 300 6 (Obs.cons c1 Obs.nil) (by kernel_rfl)
  by_cases hy : rvB y = true
  rotate_left
  · rw [show divR x y = (zR, 3) by unfold divR; rw [if_neg (fun h => hy h.2)]]
    replace hy : rvB y = false := by simpa using hy
    rw [hx] at c1; rw [hy] at c2
    clear hx hy
    obtain ⟨xn, xp, xq⟩ := x
    obtain ⟨yn, yp, yq⟩ := y
    exact runO tok mixed [60] 300 6 (Obs.cons c1 (Obs.cons c2 Obs.nil)) (by kernel_rfl)
  rw [hx] at c1; rw [hy] at c2
  have c3 := r3_Mul.c x (flipR y)
  have hu : divR x y = if y.p = [] then (zR, 16) else mulR x (flipR y) := by unfold divR; rw [if_pos ⟨hx, hy⟩]
  rw [hu]
  clear hu hx hy
  by_cases h0 : y.p = []
  · rw [if_pos h0]
    obtain ⟨xn, xp, xq⟩ := x
    obtain ⟨yn, yp, yq⟩ := y
    dsimp only at h0
    subst h0
    exact runO tok mixed [60, 71] 300 6 (Obs.cons c1 (Obs.cons c2 Obs.nil)) (by kernel_rfl)
  · rw [if_neg h0]
    generalize mulR x (flipR y) = z at *
    obtain ⟨xn, xp, xq⟩ := x
    obtain ⟨yn, yp, yq⟩ := y
    cases yp with
    | nil => exact absurd rfl h0
    | cons d yp => exact runO tok mixed [60, 71] 300 6 (Obs.cons c1 (Obs.cons c2 (Obs.cons c3 Obs.nil))) (by kernel_rfl)
theorem r3_Floor.c (x : Rt) : Sound Tryd.prog 54 [R x] (.tup [I (wholeS x x.neg).1, I (wholeS x x.neg).2]) := by
  have c1 := r3_Valid.c x
  unfold wholeS
  by_cases hx : rvB x = true
  rotate_left
  · rw [if_neg hx]
    replace hx : rvB x = false := by simpa using hx
    rw [hx] at c1
    obtain ⟨xn, xp, xq⟩ := x
    exact runO tok mixed [60] 300 6 (Obs.cons c1 Obs.nil) (by kernel_rfl)
  rw [if_pos hx]
  obtain ⟨d1, q0, q1, r0⟩ := qr_facts hx
  have c2 := ref_DivMod.c x.p x.q
  have c3 := ref_Int.c (dg (val x.p / val x.q))
  rw [int_ok q0 q1] at c3
  rw [d1] at c2
  rw [hx] at c1
  dsimp only at c2
  have hr := dg_nil r0
  clear d1 hx
  obtain ⟨xn, xp, xq⟩ := x
  dsimp only at *
  generalize val xp / val xq = q at *
  generalize val xp % val xq = r at *
  generalize dg q = Q at *
  by_cases hq : 1125899906842624 < q
  · rw [if_pos hq] at c3 ⊢
    exact runO tok mixed [60, 26, 37] 300 6 (Obs.cons c1 (Obs.cons c2 (Obs.cons c3 Obs.nil))) (by kernel_rfl)
  rw [if_neg hq] at c3 ⊢
  have w1 := wI (n := q + 1) (by omega) (by omega)
  have w2 := wI (n := 0 - q) (by omega) (by omega)
  have w3 := wI (n := 0 - (q + 1)) (by omega) (by omega)
  have b1 := ltF hq
  cases xn
  · rw [if_neg (fun h => by cases h.1)]
    exact runO tok mixed [60, 26, 37] 300 6 (Obs.cons c1 (Obs.cons c2 (Obs.cons c3 Obs.nil))) (by kernel_rfl)
  by_cases h0 : r = 0
  · rw [hr.2 h0] at c2
    rw [if_neg (fun h => h.2 h0)]
    rw [show (if true = true then -q else q) = IntKind.i64.wrap (0 - q) by rw [w2]; simp]
    exact runO tok mixed [60, 26, 37] 300 6 (Obs.cons c1 (Obs.cons c2 (Obs.cons c3 (Obs.br 2 b1 Obs.nil)))) (by kernel_rfl)
  · have hd : dg r ≠ [] := fun e => h0 (hr.1 e)
    cases hD : dg r with
    | nil => exact absurd hD hd
    | cons d D =>
      rw [hD] at c2
      rw [if_pos ⟨rfl, h0⟩]
      by_cases hq1 : 1125899906842624 < q + 1
      · rw [if_pos hq1]
        have b1 := ltT hq1
        exact runO tok mixed [60, 26, 37] 300 6 (Obs.cons c1 (Obs.cons c2 (Obs.cons c3 (Obs.val 0 w1 (Obs.br 0 b1 Obs.nil))))) (by kernel_rfl)
      · rw [if_neg hq1]
        have b1 := ltF hq1
        rw [show (if true = true then -(q + 1) else q + 1) = IntKind.i64.wrap (0 - (q + 1)) by rw [w3]; simp only [if_pos]; omega]
        exact runO tok mixed [60, 26, 37] 300 6 (Obs.cons c1 (Obs.cons c2 (Obs.cons c3 (Obs.val 0 w1 (Obs.br 0 b1 Obs.nil))))) (by kernel_rfl)
theorem ceil_floor {x : Rt} (hx : rvB x = true) : wholeS x (!x.neg) = (IntKind.i64.wrap (0 - (wholeS (negR x) (negR x).neg).1), (wholeS (negR x) (negR x).neg).2) := by
  have hn := (negR_ok hx).1
  obtain ⟨d1, q0, q1, r0⟩ := qr_facts hx
  have hz : x.p = [] → val x.p = 0 := fun h => by rw [h]; rfl
  unfold wholeS
  rw [if_pos hx, if_pos hn]
  obtain ⟨xn, xp, xq⟩ := x
  unfold negR
  dsimp only at *
  by_cases hp : xp = []
  · have hv := hz hp
    rw [hv]
    subst hp
    have e1 : (0 : Int) / val xq = 0 := Int.zero_ediv _
    have e2 : (0 : Int) % val xq = 0 := Int.zero_emod _
    rw [e1, e2]
    cases xn <;> simp <;> decide
  · have hl : 0 < xp.length := List.length_pos_iff.2 hp
    generalize val xp / val xq = q at *
    generalize val xp % val xq = r at *
    have w1 : q ≤ 1125899906842624 → IntKind.i64.wrap (0 - q) = -q := fun h => by rw [wI (by omega) (by omega)]; omega
    have w2 : q ≤ 1125899906842624 → IntKind.i64.wrap (0 - -q) = q := fun h => by rw [wI (by omega) (by omega)]; omega
    have w3 : q + 1 ≤ 1125899906842624 → IntKind.i64.wrap (0 - -(q + 1)) = q + 1 := fun h => by rw [wI (by omega) (by omega)]; omega
    have w0 : IntKind.i64.wrap (0 - 0) = 0 := by decide
    cases xn <;> simp only [hl, decide_true, Bool.and_true, Bool.not_false, Bool.not_true, Bool.false_and, if_true, if_false, Bool.false_eq_true, true_and, false_and, reduceIte, ne_eq]
    · by_cases h1 : 1125899906842624 < q
      · rw [if_pos h1, if_pos h1, w0]
      · rw [if_neg h1, if_neg h1]
        by_cases h2 : r = 0
        · rw [if_neg (fun h => h h2), if_neg (fun h => h h2), w2 (by omega)]
        · rw [if_pos h2, if_pos h2]
          by_cases h3 : 1125899906842624 < q + 1
          · rw [if_pos h3, if_pos h3, w0]
          · rw [if_neg h3, if_neg h3, w3 (by omega)]
    · by_cases h1 : 1125899906842624 < q
      · rw [if_pos h1, if_pos h1, w0]
      · rw [if_neg h1, if_neg h1, w1 (by omega)]
theorem r3_Ceil.c (x : Rt) : Sound Tryd.prog 56 [R x] (.tup [I (wholeS x (!x.neg)).1, I (wholeS x (!x.neg)).2]) := by
  have c1 := r3_Valid.c x
  by_cases hx : rvB x = true
  · have c2 := r3_negated.c x
    have c3 := r3_Floor.c (negR x)
    rw [ceil_floor hx]
    rw [hx] at c1
    generalize wholeS (negR x) (negR x).neg = z at *
    generalize negR x = y at *
    obtain ⟨xn, xp, xq⟩ := x
    obtain ⟨yn, yp, yq⟩ := y
    exact runO tok mixed [60, 99, 54] 300 6 (Obs.cons c1 (Obs.cons c2 (Obs.cons c3 Obs.nil))) (by kernel_rfl)
  · rw [show wholeS x (!x.neg) = (0, 3) by unfold wholeS; rw [if_neg hx]]
    replace hx : rvB x = false := by simpa using hx
    rw [hx] at c1
    obtain ⟨xn, xp, xq⟩ := x
    exact runO tok mixed [60] 300 6 (Obs.cons c1 Obs.nil) (by kernel_rfl)
end Go.Proofs.YtalklhbdpmggjaaDoor.Pw
namespace Go.Proofs.YtalklhbdpmggjaaDoor.Pw
open Go Wd Px Mat
set_option linter.unusedVariables false
set_option linter.unusedSimpArgs false
set_option maxRecDepth 100000
set_option maxHeartbeats 8000000
attribute [local irreducible] Int.tmod Int.tdiv
theorem r3_Same.c (x y : Rt) : Sound Tryd.prog 49 [R x, R y] (B (sameS x y)) := by
  obtain ⟨xn, xp, xq⟩ := x
  obtain ⟨yn, yp, yq⟩ := y
  have c1 := limbs.c xp yp
  have c2 := limbs.c xq yq
  unfold sameS
  dsimp only
  generalize decide (xp = yp) = b1 at *
  generalize decide (xq = yq) = b2 at *
  cases xn <;> cases yn <;> cases b1
  case false.false.true => exact runL tok mixed [96] 100 2 (Good.cons c1 (Good.cons c2 Good.nil)) (by kernel_rfl)
  case true.true.true => exact runL tok mixed [96] 100 2 (Good.cons c1 (Good.cons c2 Good.nil)) (by kernel_rfl)
  case false.false.false => exact runL tok mixed [96] 100 2 (Good.cons c1 Good.nil) (by kernel_rfl)
  case true.true.false => exact runL tok mixed [96] 100 2 (Good.cons c1 Good.nil) (by kernel_rfl)
  all_goals exact runL tok mixed [96] 100 2 Good.nil (by kernel_rfl)
end Go.Proofs.YtalklhbdpmggjaaDoor.Pw
namespace Go.Proofs.YtalklhbdpmggjaaDoor.Px
open Go.Proofs.YtalklhbdpmggjaaDoor.Wd Go.Proofs.YtalklhbdpmggjaaDoor.Mat
set_option linter.unusedVariables false
def Q (a b : Int) : Rt := ⟨false, [a], [b]⟩
def lim (n : Int) : Prop := 0 < n ∧ n < 1000000000
theorem dg_small {n : Int} (h : lim n) : dg n = [n] := by
  rw [dg_pos h.1, Int.emod_eq_of_lt (by have := h.1; omega) h.2, Int.ediv_eq_zero_of_lt (by have := h.1; omega) h.2, dg_zero]
theorem val_one (n : Int) : val [n] = n := by simp [val]
theorem ok_small {n : Int} (h : lim n) : okN [n] = true := by
  rw [← dg_small h]
  exact okN_iff.2 (ok_dg (by have := h.1; omega) (by have := h.2; have : (1000000000 : Int) < pw 48 := by decide
                                                     omega))
theorem fit_small {n : Int} (h : lim n) : fitS n = ([n], 0) := by
  have := fit_val (ok_small h)
  rwa [val_one] at this
theorem rv_Q {a b : Int} (ha : lim a) (hb : lim b) (g : gcdI a b = 1) : rvB (Q a b) = true :=
  rvB_iff.2 ⟨ok_small ha, ok_small hb, by simp [Q], by simp [Q], by show gcdI (val [a]) (val [b]) = 1; rw [val_one, val_one]; exact g⟩
theorem red_Q {N M n m : Int} (hN : lim N) (hM : lim M) (hn : lim n) (hm : lim m) (g : gcdI n m = 1) (h : N * m = n * M) : redS false [N] [M] = Q n m := by
  have r := redS_ok false (ok_small hN) (ok_small hM) (by simp)
  refine canon r.1 (rv_Q hn hm g) ?_
  have r2 := r.2
  rw [val_one, val_one] at r2
  simp only [Bool.false_eq_true, if_false] at r2
  have e1 : dd (Q n m) = m := val_one m
  have e2 : nn (Q n m) = n := val_one n
  rw [e1, e2]
  have hM0 : M ≠ 0 := by have := hM.1; omega
  refine Int.eq_of_mul_eq_mul_right hM0 ?_
  grind
theorem mul_small {a c : Int} (ha : lim a) (hc : lim c) (h : lim (a * c)) : mulS [a] [c] = ([a * c], 0) := by rw [mulS_ok (ok_small ha) (ok_small hc), val_one, val_one, fit_small h]
theorem mul_Q {a b c d n m : Int} (ha : lim a) (hb : lim b) (hc : lim c) (hd : lim d) (g1 : gcdI a b = 1) (g2 : gcdI c d = 1) (h1 : lim (a * c)) (h2 : lim (b * d)) (hn : lim n) (hm : lim m) (g : gcdI n m = 1) (h : a * c * m = n * (b * d)) : mulR (Q a b) (Q c d) = (Q n m, 0) := by
  unfold mulR
  rw [if_pos ⟨rv_Q ha hb g1, rv_Q hc hd g2⟩]
  have e1 : mulS (Q a b).p (Q c d).p = ([a * c], 0) := mul_small ha hc h1
  have e2 : mulS (Q a b).q (Q c d).q = ([b * d], 0) := mul_small hb hd h2
  rw [e1, e2, if_pos rfl, if_pos rfl]
  show (redS false [a * c] [b * d], (0 : Int)) = _
  rw [red_Q h1 h2 hn hm g h]
theorem add_Q {a b c d n m : Int} (ha : lim a) (hb : lim b) (hc : lim c) (hd : lim d) (g1 : gcdI a b = 1) (g2 : gcdI c d = 1) (h1 : lim (a * d)) (h2 : lim (c * b)) (h3 : lim (b * d)) (h4 : lim (a * d + c * b)) (hn : lim n) (hm : lim m) (g : gcdI n m = 1) (h : (a * d + c * b) * m = n * (b * d)) : addR (Q a b) (Q c d) = (Q n m, 0) := by
  unfold addR
  rw [if_pos ⟨rv_Q ha hb g1, rv_Q hc hd g2⟩]
  have e1 : mulS (Q a b).p (Q c d).q = ([a * d], 0) := mul_small ha hd h1
  have e2 : mulS (Q c d).p (Q a b).q = ([c * b], 0) := mul_small hc hb h2
  have e3 : mulS (Q a b).q (Q c d).q = ([b * d], 0) := mul_small hb hd h3
  have e4 : plusS (Q a b).neg [a * d] (Q c d).neg [c * b] = (false, [a * d + c * b], 0) := by
    show plusS false [a * d] false [c * b] = _
    unfold plusS
    rw [if_pos rfl]
    have : addS [a * d] [c * b] = ([a * d + c * b], 0) := by unfold addS; rw [if_pos ⟨ok_small h1, ok_small h2⟩, val_one, val_one, fit_small h4]
    rw [this]
  rw [e1, e2, e3, e4, if_pos ⟨rfl, rfl, rfl, rfl⟩]
  show (redS false [a * d + c * b] [b * d], (0 : Int)) = _
  rw [red_Q h4 h3 hn hm g h]
theorem sub_Q {a b c d n m : Int} (ha : lim a) (hb : lim b) (hc : lim c) (hd : lim d) (g1 : gcdI a b = 1) (g2 : gcdI c d = 1) (h1 : lim (a * d)) (h2 : lim (c * b)) (h3 : lim (b * d)) (h4 : lim (a * d - c * b)) (hn : lim n) (hm : lim m) (g : gcdI n m = 1) (h : (a * d - c * b) * m = n * (b * d)) : subR (Q a b) (Q c d) = (Q n m, 0) := by
  unfold subR
  rw [if_pos ⟨rv_Q ha hb g1, rv_Q hc hd g2⟩]
  have hv := (negR_ok (rv_Q hc hd g2)).1
  have en : negR (Q c d) = ⟨true, [c], [d]⟩ := rfl
  rw [en] at hv ⊢
  unfold addR
  rw [if_pos ⟨rv_Q ha hb g1, hv⟩]
  have e1 : mulS (Q a b).p [d] = ([a * d], 0) := mul_small ha hd h1
  have e2 : mulS [c] (Q a b).q = ([c * b], 0) := mul_small hc hb h2
  have e3 : mulS (Q a b).q [d] = ([b * d], 0) := mul_small hb hd h3
  have e4 : plusS (Q a b).neg [a * d] true [c * b] = (false, [a * d - c * b], 0) := by
    show plusS false [a * d] true [c * b] = _
    unfold plusS
    have l4 := h4.1
    rw [if_neg (by decide), val_one, val_one, if_neg (by unfold cmpS; rw [if_neg (by omega)]; split <;> omega)]
    have : subS [a * d] [c * b] = ([a * d - c * b], 0) := by unfold subS; rw [if_pos ⟨ok_small h1, ok_small h2⟩, val_one, val_one, if_neg (by omega), dg_small h4]
    rw [this]
  simp only [e1, e2, e3, e4, and_self, if_true]
  rw [red_Q h4 h3 hn hm g h]
theorem make_Q {p q n m : Int} (hp : lim p) (hq : lim q) (hn : lim n) (hm : lim m) (g : gcdI n m = 1) (h : p * m = n * q) : makeS p q = (Q n m, 0) := by
  have i1 : inR p = true := inR_of (by have := hp.1; omega) (by have := hp.2; omega)
  have i2 : inR q = true := inR_of (by have := hq.1; omega) (by have := hq.2; omega)
  unfold makeS
  rw [if_pos ⟨i1, i2⟩, if_neg (by have := hq.1; omega)]
  have a1 : absI p = p := by unfold absI; rw [if_neg (by have := hp.1; omega)]
  have a2 : absI q = q := by unfold absI; rw [if_neg (by have := hq.1; omega)]
  have b1 : decide (p < 0) = false := by simp; have := hp.1; omega
  have b2 : decide (q < 0) = false := by simp; have := hq.1; omega
  rw [a1, a2, b1, b2, dg_small hp, dg_small hq]
  show (redS false [p] [q], (0 : Int)) = _
  rw [red_Q hp hq hn hm g h]
theorem add_0Q {c d : Int} (hc : lim c) (hd : lim d) (g2 : gcdI c d = 1) : addR ⟨false, [], [1]⟩ (Q c d) = (Q c d, 0) := by
  have h0 : rvB ⟨false, [], [1]⟩ = true := by
    refine rvB_iff.2 ⟨by decide, by decide, by decide, by simp, ?_⟩
    show gcdI (val []) (val [1]) = 1
    decide
  have l1 : lim 1 := by constructor <;> decide
  unfold addR
  rw [if_pos ⟨h0, rv_Q hc hd g2⟩]
  have e1 : mulS [] (Q c d).q = ([], 0) := by show mulS [] [d] = _; rw [mulS_ok (by decide) (ok_small hd), show val [] = 0 from rfl, Int.zero_mul]; exact fit_val (l := []) (by decide)
  have e2 : mulS (Q c d).p [1] = ([c], 0) := by show mulS [c] [1] = _; rw [mulS_ok (ok_small hc) (ok_small l1), val_one, val_one, Int.mul_one, fit_small hc]
  have e3 : mulS [1] (Q c d).q = ([d], 0) := by show mulS [1] [d] = _; rw [mulS_ok (ok_small l1) (ok_small hd), val_one, val_one, Int.one_mul, fit_small hd]
  have e4 : plusS false [] (Q c d).neg [c] = (false, [c], 0) := by
    show plusS false [] false [c] = _
    unfold plusS
    rw [if_pos rfl]
    have : addS [] [c] = ([c], 0) := by unfold addS; rw [if_pos ⟨by decide, ok_small hc⟩, val_one, show val [] = 0 from rfl, Int.zero_add, fit_small hc]
    rw [this]
  simp only [e1, e2, e3, e4, and_self, if_true]
  rw [red_Q hc hd hc hd g2 rfl]
theorem w_make (n : Int) (h : lim n) : makeS n 1 = (Q n 1, 0) := make_Q h ⟨by decide, by decide⟩ h ⟨by decide, by decide⟩ (by unfold gcdI; simp) rfl
theorem t_600 : makeS 600 1000 = (Q 3 5, 0) := make_Q ⟨by decide, by decide⟩ ⟨by decide, by decide⟩ ⟨by decide, by decide⟩ ⟨by decide, by decide⟩ (by decide) (by decide)
theorem t_500 : makeS 500 1000 = (Q 1 2, 0) := make_Q ⟨by decide, by decide⟩ ⟨by decide, by decide⟩ ⟨by decide, by decide⟩ ⟨by decide, by decide⟩ (by decide) (by decide)
theorem done_100 : doneR 900 600 500 (Q 100 1) = (Q 600 1, Q 200 1, Q 200 1) := by
  unfold doneR timesR
  simp only [w_make 900 ⟨by decide, by decide⟩, t_600, t_500, (add_Q (a := 900) (b := 1) (c := 100) (d := 1) (n := 1000) (m := 1) ⟨by decide, by decide⟩ ⟨by decide, by decide⟩ ⟨by decide, by decide⟩ ⟨by decide, by decide⟩ (by decide) (by decide) ⟨by decide, by decide⟩ ⟨by decide, by decide⟩ ⟨by decide, by decide⟩ ⟨by decide, by decide⟩ ⟨by decide, by decide⟩ ⟨by decide, by decide⟩ (by decide) (by decide)), (mul_Q (a := 1000) (b := 1) (c := 3) (d := 5) (n := 600) (m := 1) ⟨by decide, by decide⟩ ⟨by decide, by decide⟩ ⟨by decide, by decide⟩ ⟨by decide, by decide⟩ (by decide) (by decide) ⟨by decide, by decide⟩ ⟨by decide, by decide⟩ ⟨by decide, by decide⟩ ⟨by decide, by decide⟩ (by decide) (by decide)), (sub_Q (a := 1000) (b := 1) (c := 600) (d := 1) (n := 400) (m := 1) ⟨by decide, by decide⟩ ⟨by decide, by decide⟩ ⟨by decide, by decide⟩ ⟨by decide, by decide⟩ (by decide) (by decide) ⟨by decide, by decide⟩ ⟨by decide, by decide⟩ ⟨by decide, by decide⟩ ⟨by decide, by decide⟩ ⟨by decide, by decide⟩ ⟨by decide, by decide⟩ (by decide) (by decide)), (mul_Q (a := 400) (b := 1) (c := 1) (d := 2) (n := 200) (m := 1) ⟨by decide, by decide⟩ ⟨by decide, by decide⟩ ⟨by decide, by decide⟩ ⟨by decide, by decide⟩ (by decide) (by decide) ⟨by decide, by decide⟩ ⟨by decide, by decide⟩ ⟨by decide, by decide⟩ ⟨by decide, by decide⟩ (by decide) (by decide)), (sub_Q (a := 400) (b := 1) (c := 200) (d := 1) (n := 200) (m := 1) ⟨by decide, by decide⟩ ⟨by decide, by decide⟩ ⟨by decide, by decide⟩ ⟨by decide, by decide⟩ (by decide) (by decide) ⟨by decide, by decide⟩ ⟨by decide, by decide⟩ ⟨by decide, by decide⟩ ⟨by decide, by decide⟩ ⟨by decide, by decide⟩ ⟨by decide, by decide⟩ (by decide) (by decide))]
theorem done_225 : doneR 900 600 500 (Q 225 1) = (Q 675 1, Q 225 1, Q 225 1) := by
  unfold doneR timesR
  simp only [w_make 900 ⟨by decide, by decide⟩, t_600, t_500, (add_Q (a := 900) (b := 1) (c := 225) (d := 1) (n := 1125) (m := 1) ⟨by decide, by decide⟩ ⟨by decide, by decide⟩ ⟨by decide, by decide⟩ ⟨by decide, by decide⟩ (by decide) (by decide) ⟨by decide, by decide⟩ ⟨by decide, by decide⟩ ⟨by decide, by decide⟩ ⟨by decide, by decide⟩ ⟨by decide, by decide⟩ ⟨by decide, by decide⟩ (by decide) (by decide)), (mul_Q (a := 1125) (b := 1) (c := 3) (d := 5) (n := 675) (m := 1) ⟨by decide, by decide⟩ ⟨by decide, by decide⟩ ⟨by decide, by decide⟩ ⟨by decide, by decide⟩ (by decide) (by decide) ⟨by decide, by decide⟩ ⟨by decide, by decide⟩ ⟨by decide, by decide⟩ ⟨by decide, by decide⟩ (by decide) (by decide)), (sub_Q (a := 1125) (b := 1) (c := 675) (d := 1) (n := 450) (m := 1) ⟨by decide, by decide⟩ ⟨by decide, by decide⟩ ⟨by decide, by decide⟩ ⟨by decide, by decide⟩ (by decide) (by decide) ⟨by decide, by decide⟩ ⟨by decide, by decide⟩ ⟨by decide, by decide⟩ ⟨by decide, by decide⟩ ⟨by decide, by decide⟩ ⟨by decide, by decide⟩ (by decide) (by decide)), (mul_Q (a := 450) (b := 1) (c := 1) (d := 2) (n := 225) (m := 1) ⟨by decide, by decide⟩ ⟨by decide, by decide⟩ ⟨by decide, by decide⟩ ⟨by decide, by decide⟩ (by decide) (by decide) ⟨by decide, by decide⟩ ⟨by decide, by decide⟩ ⟨by decide, by decide⟩ ⟨by decide, by decide⟩ (by decide) (by decide)), (sub_Q (a := 450) (b := 1) (c := 225) (d := 1) (n := 225) (m := 1) ⟨by decide, by decide⟩ ⟨by decide, by decide⟩ ⟨by decide, by decide⟩ ⟨by decide, by decide⟩ (by decide) (by decide) ⟨by decide, by decide⟩ ⟨by decide, by decide⟩ ⟨by decide, by decide⟩ ⟨by decide, by decide⟩ ⟨by decide, by decide⟩ ⟨by decide, by decide⟩ (by decide) (by decide))]
theorem steady_end : timesR (makeS 900 1).1 ((1000 - 600) * 500) (1000000 - (1000 - 600) * 500) = Q 225 1 := by
  have e : makeS ((1000 - 600) * 500) (1000000 - (1000 - 600) * 500) = (Q 1 4, 0) := make_Q ⟨by decide, by decide⟩ ⟨by decide, by decide⟩ ⟨by decide, by decide⟩ ⟨by decide, by decide⟩ (by decide) (by decide)
  unfold timesR
  simp only [e, w_make 900 ⟨by decide, by decide⟩, (mul_Q (a := 900) (b := 1) (c := 1) (d := 4) (n := 225) (m := 1) ⟨by decide, by decide⟩ ⟨by decide, by decide⟩ ⟨by decide, by decide⟩ ⟨by decide, by decide⟩ (by decide) (by decide) ⟨by decide, by decide⟩ ⟨by decide, by decide⟩ ⟨by decide, by decide⟩ ⟨by decide, by decide⟩ (by decide) (by decide))]
theorem all_1 : addR ⟨false, [], [1]⟩ (Q 675 1) = (Q 675 1, 0) := add_0Q ⟨by decide, by decide⟩ ⟨by decide, by decide⟩ (by decide)
theorem all_2 : addR (Q 675 1) (Q 675 1) = (Q 1350 1, 0) := (add_Q (a := 675) (b := 1) (c := 675) (d := 1) (n := 1350) (m := 1) ⟨by decide, by decide⟩ ⟨by decide, by decide⟩ ⟨by decide, by decide⟩ ⟨by decide, by decide⟩ (by decide) (by decide) ⟨by decide, by decide⟩ ⟨by decide, by decide⟩ ⟨by decide, by decide⟩ ⟨by decide, by decide⟩ ⟨by decide, by decide⟩ ⟨by decide, by decide⟩ (by decide) (by decide))
theorem all_3 : addR (Q 1350 1) (Q 675 1) = (Q 2025 1, 0) := (add_Q (a := 1350) (b := 1) (c := 675) (d := 1) (n := 2025) (m := 1) ⟨by decide, by decide⟩ ⟨by decide, by decide⟩ ⟨by decide, by decide⟩ ⟨by decide, by decide⟩ (by decide) (by decide) ⟨by decide, by decide⟩ ⟨by decide, by decide⟩ ⟨by decide, by decide⟩ ⟨by decide, by decide⟩ ⟨by decide, by decide⟩ ⟨by decide, by decide⟩ (by decide) (by decide))
end Go.Proofs.YtalklhbdpmggjaaDoor.Px
namespace Go.Proofs.YtalklhbdpmggjaaDoor.Pw
open Go Wd Px Mat
set_option linter.unusedVariables false
set_option linter.unusedSimpArgs false
set_option maxRecDepth 100000
set_option maxHeartbeats 8000000
attribute [local irreducible] Int.tmod Int.tdiv
theorem mk_lit {p q : Int} {z : Rt} (hp : inR p = true) (hq : inR q = true) (h0 : 0 < q) (hz : rvB z = true) (h : nn z * q = p * dd z) : makeS p q = (z, 0) := by
  obtain ⟨y, e, hm⟩ : ∃ y e, makeS p q = (y, e) := ⟨_, _, rfl⟩
  rw [hm]
  obtain ⟨h1, h2, h3⟩ := makeS_ok hp hq h0 hm
  subst h1
  have hd := (rv_facts hz).1
  rw [canon h2 hz (Int.eq_of_mul_eq_mul_right (show q ≠ 0 by omega) (by rw [Int.mul_assoc, Int.mul_comm (dd z) q, ← Int.mul_assoc, h3, Int.mul_assoc, Int.mul_comm (dd y) (dd z), ← Int.mul_assoc, ← h, Int.mul_assoc, Int.mul_comm q, ← Int.mul_assoc]))]
theorem m_16 : makeS 1 6 = (⟨false, [1], [6]⟩, 0) := mk_lit (by decide) (by decide) (by decide) (by decide) (by decide)
theorem m_110 : makeS 1 10 = (⟨false, [1], [10]⟩, 0) := mk_lit (by decide) (by decide) (by decide) (by decide) (by decide)
theorem m_32 : makeS (-3) 2 = (⟨true, [3], [2]⟩, 0) := mk_lit (by decide) (by decide) (by decide) (by decide) (by decide)
theorem m_43 : makeS (-4) 3 = (⟨true, [4], [3]⟩, 0) := mk_lit (by decide) (by decide) (by decide) (by decide) (by decide)
theorem m_64 : makeS 6 (-4) = (⟨true, [3], [2]⟩, 0) := by
  have e : makeS 6 (-4) = makeS (-6) 4 := by unfold makeS; rfl
  rw [e]; exact mk_lit (by decide) (by decide) (by decide) (by decide) (by decide)
theorem m_07 : makeS 0 (-7) = (⟨false, [], [1]⟩, 0) := by
  have e : makeS 0 (-7) = (redS true (dg 0) (dg 7), 0) := by unfold makeS; rfl
  rw [e, dg_zero, dg_small (n := 7) ⟨by decide, by decide⟩]
  unfold redS
  rw [show val [] / gcdI (val []) (val [7]) = 0 by decide, show val [7] / gcdI (val []) (val [7]) = 1 by decide, dg_zero, dg_small (n := 1) ⟨by decide, by decide⟩]
  rfl
theorem a_415 : addR ⟨false, [1], [6]⟩ ⟨false, [1], [10]⟩ = (⟨false, [4], [15]⟩, 0) :=
  add_Q (a := 1) (b := 6) (c := 1) (d := 10) (n := 4) (m := 15) ⟨by decide, by decide⟩ ⟨by decide, by decide⟩ ⟨by decide, by decide⟩ ⟨by decide, by decide⟩ (by decide) (by decide) ⟨by decide, by decide⟩ ⟨by decide, by decide⟩ ⟨by decide, by decide⟩ ⟨by decide, by decide⟩ ⟨by decide, by decide⟩ ⟨by decide, by decide⟩ (by decide) (by decide)
theorem c_m1 : cmpR ⟨true, [3], [2]⟩ ⟨true, [4], [3]⟩ = (-1, 0) := by
  unfold cmpR
  rw [if_pos (by decide)]
  have e1 : mulS [3] [3] = ([9], 0) := mul_small (a := 3) (c := 3) ⟨by decide, by decide⟩ ⟨by decide, by decide⟩ ⟨by decide, by decide⟩
  have e2 : mulS [4] [2] = ([8], 0) := mul_small (a := 4) (c := 2) ⟨by decide, by decide⟩ ⟨by decide, by decide⟩ ⟨by decide, by decide⟩
  simp only [e1, e2]
  decide
theorem text_zero : Sound Tryd.prog 30 [N []] (.tup [bytes [48], I 0]) := by
  have v := nat_Valid.c []
  rw [show okN [] = true by decide] at v
  exact runO tok mixed [29] 300 6 (Obs.cons v Obs.nil) (by kernel_rfl)
theorem dec1 (n : Nat) (h : n < 10) : Lib.decDigits n = [UInt8.ofNat (48 + n)] := by rw [Lib.decDigits, dif_pos h]
theorem dec15 : Lib.decDigits 15 = [49, 53] := by rw [Lib.decDigits]; simp; rw [Lib.decDigits]; rfl
theorem t_415 : Sound Tryd.prog 57 [R ⟨false, [4], [15]⟩] (.tup [bytes [52, 47, 49, 53], I 0]) := by
  have v := rat_Valid.c ⟨false, [4], [15]⟩
  rw [show rvB ⟨false, [4], [15]⟩ = true by decide] at v
  have t1 := text_one 4 (by decide) (by decide)
  have t2 := text_one 15 (by decide) (by decide)
  rw [dec1 4 (by decide)] at t1; rw [dec15] at t2
  exact runO tok mixed [59, 30] 300 6 (Obs.cons v (Obs.cons t1 (Obs.cons t2 Obs.nil))) (by kernel_rfl)
theorem t_32 : Sound Tryd.prog 57 [R ⟨true, [3], [2]⟩] (.tup [bytes [45, 51, 47, 50], I 0]) := by
  have v := rat_Valid.c ⟨true, [3], [2]⟩
  rw [show rvB ⟨true, [3], [2]⟩ = true by decide] at v
  have t1 := text_one 3 (by decide) (by decide)
  have t2 := text_one 2 (by decide) (by decide)
  rw [dec1 3 (by decide)] at t1; rw [dec1 2 (by decide)] at t2
  exact runO tok mixed [59, 30] 300 6 (Obs.cons v (Obs.cons t1 (Obs.cons t2 Obs.nil))) (by kernel_rfl)
theorem t_0 : Sound Tryd.prog 57 [R ⟨false, [], [1]⟩] (.tup [bytes [48], I 0]) := by
  have v := rat_Valid.c ⟨false, [], [1]⟩
  rw [show rvB ⟨false, [], [1]⟩ = true by decide] at v
  exact runO tok mixed [59, 30] 300 6 (Obs.cons v (Obs.cons text_zero Obs.nil)) (by kernel_rfl)
theorem awake03.c : Sound Tryd.prog 50 [] (B true) := by
  have c1 := rat_Make.c 1 6
  have c2 := rat_Make.c 1 10
  have c3 := rat_Add.c ⟨false, [1], [6]⟩ ⟨false, [1], [10]⟩
  have c4 := rat_Make.c (-3) 2
  have c5 := rat_Make.c (-4) 3
  have c6 := rat_Cmp.c ⟨true, [3], [2]⟩ ⟨true, [4], [3]⟩
  have c7 := rat_Floor.c ⟨true, [3], [2]⟩
  have c8 := rat_Ceil.c ⟨true, [3], [2]⟩
  have c9 := rat_Make.c 6 (-4)
  have c10 := rat_Make.c 0 (-7)
  rw [m_16] at c1; rw [m_110] at c2; rw [a_415] at c3; rw [m_32] at c4; rw [m_43] at c5; rw [c_m1] at c6
  rw [show wholeS ⟨true, [3], [2]⟩ (Rt.neg ⟨true, [3], [2]⟩) = (-2, 0) by decide] at c7
  rw [show wholeS ⟨true, [3], [2]⟩ (!(Rt.neg ⟨true, [3], [2]⟩)) = (-1, 0) by decide] at c8
  rw [m_64] at c9; rw [m_07] at c10
  exact runO tok mixed [47, 61, 57, 65, 53, 55] 300 6 (Obs.cons c1 (Obs.cons c2 (Obs.cons c3 (Obs.cons t_415 (Obs.cons c4 (Obs.cons c5 (Obs.cons c6 (Obs.cons c7 (Obs.cons c8 (Obs.cons c9 (Obs.cons t_32 (Obs.cons c10 (Obs.cons t_0 Obs.nil))))))))))))) (by kernel_rfl)
end Go.Proofs.YtalklhbdpmggjaaDoor.Pw
namespace Go.Proofs.YtalklhbdpmggjaaDoor.Px
open Mat Wd
theorem whole_in {x : Rt} {c : Bool} {n : Int} (h : wholeS x c = (n, 0)) : rvB x = true ∧ -1125899906842624 ≤ n ∧ n ≤ 1125899906842624 := by
  unfold wholeS at h
  by_cases hx : rvB x = true
  · rw [if_pos hx] at h
    have hq := (rv_facts hx).1
    have h0 := Int.ediv_nonneg (rv_facts hx).2.1 (Int.le_of_lt hq)
    rw [show dd x = val x.q from rfl] at h0
    generalize val x.p / val x.q = q at *
    refine ⟨hx, ?_⟩
    split at h
    · injection h with _ h; cases h
    · split at h
      · split at h
        · injection h with _ h; cases h
        · injection h with h _; split at h <;> omega
      · injection h with h _; split at h <;> omega
  · rw [if_neg hx] at h; injection h with _ h; cases h
/-- The lower and the upper integer part. -/
theorem floor_val {x : Rt} {n : Int} (h : wholeS x x.neg = (n, 0)) : n * dd x ≤ nn x := by
  have hx := (whole_in h).1
  unfold wholeS at h
  rw [if_pos hx] at h
  have hq := (rv_facts hx).1
  have e := Int.mul_ediv_add_emod (val x.p) (val x.q)
  have r0 := Int.emod_nonneg (val x.p) (show val x.q ≠ 0 by unfold dd at hq; omega)
  have r1 := Int.emod_lt_of_pos (val x.p) hq
  unfold nn
  unfold dd at *
  generalize val x.p / val x.q = q at *
  generalize val x.p % val x.q = r at *
  generalize val x.q = d at *
  generalize val x.p = p at *
  rw [Int.mul_comm] at e
  split at h
  · injection h with _ h; cases h
  · cases hn : x.neg <;> rw [hn] at h <;> simp only [true_and, false_and, if_false, if_true, Bool.false_eq_true, reduceIte] at h ⊢
    · injection h with h _; subst h; omega
    · split at h
      · split at h
        · injection h with _ h; cases h
        · injection h with h _; subst h; rw [Int.neg_mul, Int.add_mul]; omega
      · injection h with h _; subst h; rw [Int.neg_mul]; omega
theorem ceil_val {x : Rt} {n : Int} (h : wholeS x (!x.neg) = (n, 0)) : nn x ≤ n * dd x := by
  have hx := (whole_in h).1
  unfold wholeS at h
  rw [if_pos hx] at h
  have hq := (rv_facts hx).1
  have e := Int.mul_ediv_add_emod (val x.p) (val x.q)
  have r0 := Int.emod_nonneg (val x.p) (show val x.q ≠ 0 by unfold dd at hq; omega)
  have r1 := Int.emod_lt_of_pos (val x.p) hq
  unfold nn
  unfold dd at *
  generalize val x.p / val x.q = q at *
  generalize val x.p % val x.q = r at *
  generalize val x.q = d at *
  generalize val x.p = p at *
  rw [Int.mul_comm] at e
  split at h
  · injection h with _ h; cases h
  · cases hn : x.neg <;> rw [hn] at h <;> simp only [Bool.not_false, Bool.not_true, true_and, false_and, if_false, if_true, Bool.false_eq_true, reduceIte] at h ⊢
    · split at h
      · split at h
        · injection h with _ h; cases h
        · injection h with h _; subst h; rw [Int.add_mul]; omega
      · injection h with h _; subst h; omega
    · injection h with h _; subst h; rw [Int.neg_mul]; omega
/-- They are the same at an integer, else one apart. -/
theorem floor_ceil {x : Rt} {m n : Int} (h1 : wholeS x x.neg = (m, 0)) (h2 : wholeS x (!x.neg) = (n, 0)) : (x.q = [1] → m = n) ∧ (x.q ≠ [1] → n - m = 1) := by
  have hx := (whole_in h1).1
  unfold wholeS at h1 h2
  rw [if_pos hx] at h1 h2
  obtain ⟨hq, hp, _, hg, _, hd⟩ := rv_facts hx
  have hr : x.q ≠ [1] → val x.p % val x.q ≠ 0 := fun hne h0 => by
    have e : gcdI (val x.p) (val x.q) = val x.q := by
      rw [gcdI_step hp (show 0 < val x.q from hq)]
      rw [h0]
      exact gcdI_zero (show 0 ≤ val x.q from Int.le_of_lt hq)
    rw [hg] at e
    exact hne (by rw [← hd, ← e]; exact (dg_one_iff (by decide)).2 rfl)
  have hr1 : x.q = [1] → val x.p % val x.q = 0 := fun h => by rw [h, show val [1] = 1 by decide, Int.emod_one]
  generalize val x.p / val x.q = q at *
  generalize val x.p % val x.q = r at *
  split at h1
  · injection h1 with _ h; cases h
  · rename_i hb
    rw [if_neg hb] at h2
    refine ⟨fun e => ?_, fun e => ?_⟩
    · have r0 := hr1 e
      rw [if_neg (fun h => h.2 r0)] at h1 h2
      injection h1 with h1 _; injection h2 with h2 _
      omega
    · have r0 := hr e
      cases hn : x.neg <;> rw [hn] at h1 h2 <;> simp only [Bool.not_false, Bool.not_true, true_and, false_and, if_false, if_true, Bool.false_eq_true, reduceIte, ne_eq, r0, not_false_eq_true] at h1 h2
      · split at h2
        · injection h2 with _ h; cases h
        · injection h1 with h1 _; injection h2 with h2 _; omega
      · split at h1
        · injection h1 with _ h; cases h
        · injection h1 with h1 _; injection h2 with h2 _; omega
theorem of_val {n : Int} (h : inR n = true) : ∃ z, makeS n 1 = (z, 0) ∧ rvB z = true ∧ nn z = n * dd z := by
  obtain ⟨z, e, hm⟩ : ∃ z e, makeS n 1 = (z, e) := ⟨_, _, rfl⟩
  obtain ⟨h1, h2, h3⟩ := makeS_ok h (by decide) (by decide) hm
  subst h1
  exact ⟨z, hm, h2, by rw [Int.mul_one] at h3; exact h3⟩
theorem floor_cmp {x z : Rt} {n p : Int} (h : wholeS x x.neg = (n, 0)) (hz : makeS n 1 = (z, 0)) (hc : cmpR z x = (p, 0)) : p ≤ 0 := by
  obtain ⟨_, n0, n1⟩ := whole_in h
  obtain ⟨y, hy, vy, ey⟩ := of_val (n := n) (by simp [inR]; omega)
  rw [hz] at hy; injection hy with hy _; subst hy
  obtain ⟨_, hx, e⟩ := cmp_val hc
  have hf := floor_val h
  have hd := (rv_facts vy).1
  have k := Int.mul_le_mul_of_nonneg_right hf (Int.le_of_lt hd)
  rw [e]
  unfold cmpS
  split
  · decide
  · rw [if_neg]
    · decide
    · rw [ey, show n * dd z * dd x = n * dd x * dd z by rw [Int.mul_assoc, Int.mul_comm (dd z), ← Int.mul_assoc]]; omega
theorem ceil_cmp {x z : Rt} {n p : Int} (h : wholeS x (!x.neg) = (n, 0)) (hz : makeS n 1 = (z, 0)) (hc : cmpR z x = (p, 0)) : 0 ≤ p := by
  obtain ⟨_, n0, n1⟩ := whole_in h
  obtain ⟨y, hy, vy, ey⟩ := of_val (n := n) (by simp [inR]; omega)
  rw [hz] at hy; injection hy with hy _; subst hy
  obtain ⟨_, hx, e⟩ := cmp_val hc
  have hf := ceil_val h
  have hd := (rv_facts vy).1
  have k := Int.mul_le_mul_of_nonneg_right hf (Int.le_of_lt hd)
  rw [e]
  unfold cmpS
  rw [if_neg]
  · split <;> decide
  · rw [ey, show n * dd z * dd x = n * dd x * dd z by rw [Int.mul_assoc, Int.mul_comm (dd z), ← Int.mul_assoc]]; omega
end Go.Proofs.YtalklhbdpmggjaaDoor.Px
