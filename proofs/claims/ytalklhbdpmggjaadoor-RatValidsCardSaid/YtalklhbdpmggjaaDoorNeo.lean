/- The functions of the program as functions of values, part 15: a proof's lemmas, with no condition of their own. -/
import Derived.Test.YtalklhbdpmggjaaDoorNek
import Derived.Test.YtalklhbdpmggjaaDoorNen
set_option linter.unusedVariables false
set_option linter.unusedSimpArgs false
namespace Go.Proofs.YtalklhbdpmggjaaDoor.Pw
open Go Wd Px Mat
set_option linter.unusedVariables false
set_option linter.unusedSimpArgs false
set_option maxRecDepth 100000
attribute [local irreducible] Int.tmod Int.tdiv
set_option maxHeartbeats 8000000
theorem getI00 {l : List Int} (h : (l.length : Int) = 1) : (l.map I).getD 0 default = I (rd l 0) := getI (i := 0) (Int.le_refl _) (by omega)
def txB (a : List Int) : ByteArray := ⟨(textL a).toArray⟩
def signB (n : Bool) (t : ByteArray) : ByteArray := if n = true then (⟨#[45]⟩ : ByteArray) ++ t else t
def ratText (x : Rt) : ByteArray := if x.q = [1] then signB x.neg (txB x.p) else signB x.neg (txB x.p) ++ (⟨#[47]⟩ : ByteArray) ++ txB x.q
def rtS (x : Rt) : ByteArray × Int := if rvB x = true then (ratText x, 0) else (⟨#[]⟩, 3)
theorem txB_size {a : List Int} (h : okN a = true) : (txB a).size ≤ 432 := by
  have := (textL_facts h).2.1
  show (textL a).toArray.size ≤ 432
  simpa using this
theorem one_q {G : List Int} : G = [1] ↔ (G.length : Int) = 1 ∧ rd G 0 = 1 := by
  constructor
  · rintro rfl; exact ⟨rfl, rfl⟩
  · rintro ⟨h1, h2⟩
    match G, h1 with
    | [d], _ => simp [rd] at h2; rw [h2]
theorem rat_Text.c (x : Rt) : Sound Tryd.prog 57 [R x] (.tup [Sg (rtS x).1, I (rtS x).2]) := by
  have c1 := rat_Valid.c x
  unfold rtS
  by_cases hx : rvB x = true
  rotate_left
  · rw [if_neg hx]
    replace hx : rvB x = false := by simpa using hx
    rw [hx] at c1
    obtain ⟨xn, xp, xq⟩ := x
    exact runO tok mixed [59] 300 6 (Obs.cons c1 Obs.nil) (by kernel_rfl)
  rw [if_pos hx]
  obtain ⟨x1, x2, _⟩ := rvB_iff.1 hx
  have c2 := nat_Text.c x.p
  have c3 := nat_Text.c x.q
  rw [show textS x.p = (textL x.p, 0) by unfold textS; rw [if_pos x1]] at c2
  rw [show textS x.q = (textL x.q, 0) by unfold textS; rw [if_pos x2]] at c3
  rw [hx] at c1
  have s1 := txB_size x1
  have s2 := txB_size x2
  replace c2 : Sound Tryd.prog 30 [N x.p] (.tup [Sg (txB x.p), I 0]) := c2
  replace c3 : Sound Tryd.prog 30 [N x.q] (.tup [Sg (txB x.q), I 0]) := c3
  unfold ratText signB
  obtain ⟨n, p, q⟩ := x
  dsimp only at *
  generalize txB p = tp at *
  generalize txB q = tq at *
  clear hx x1 x2
  have z1 : (ByteArray.mk #[45]).size = 1 := rfl
  have z2 : (ByteArray.mk #[47]).size = 1 := rfl
  have z3 : ∀ a b : ByteArray, (a ++ b).size = a.size + b.size := fun a b => ByteArray.size_append
  have k1 : (((ByteArray.mk #[45]).size + tp.size : Nat) : Int) ≤ 9223372036854775807 := by omega
  have k2 : (((ByteArray.mk #[45] ++ tp).size + (ByteArray.mk #[47]).size : Nat) : Int) ≤ 9223372036854775807 := by rw [z3]; omega
  have k3 : (((ByteArray.mk #[45] ++ tp ++ ByteArray.mk #[47]).size + tq.size : Nat) : Int) ≤ 9223372036854775807 := by rw [z3, z3]; omega
  have k4 : ((tp.size + (ByteArray.mk #[47]).size : Nat) : Int) ≤ 9223372036854775807 := by omega
  have k5 : (((tp ++ ByteArray.mk #[47]).size + tq.size : Nat) : Int) ≤ 9223372036854775807 := by rw [z3]; omega
  clear z1 z2 z3 s1 s2
  by_cases hq : (q.length : Int) = 1
  · have hq' : (0 : Int) < (q.length : Int) := by omega
    have hg := getI00 hq
    by_cases hd : rd q 0 = 1
    · rw [if_pos (one_q.2 ⟨hq, hd⟩)]
      cases n <;> simp only [if_true, if_false, Bool.false_eq_true, reduceIte]
      all_goals
        refine Sound.of_WP tok Tryd.func57 rfl rfl ?_; simp only [Tryd.f57, args0, List.map, List.length_cons, List.length_nil, Nat.reduceAdd, Nat.reduceSub, List.replicate, List.cons_append, List.nil_append]
        repeat' (first | refine WP_seq ?_ | refine WP_block ?_ | refine regA 64 fun KQ hKQ => ?_ | refine regD 64 fun KQ hKQ => ?_ | refine opsA rfl rfl rfl rfl (nrmA ?_) | refine callA rfl rfl rfl (nrmA ?_) (hs := c1) | refine callA rfl rfl rfl (nrmA ?_) (hs := c2) | refine callA rfl rfl rfl (nrmA ?_) (hs := c3) | refine opsW_skip rfl (nrmA ?_) | (refine opsW_nil ⟨by kernel_rfl, hKQ _ _ _ (nrmB ?_)⟩; clear hKQ KQ) | (refine opsW_nil (hKQ _ _ _ (nrmB ?_)); clear hKQ KQ) | refine condT rfl ?_ | refine condF rfl ?_ | refine WP_skip (nrmB ?_) | refine WP_ret (nrmC ?_) | refine WP_exit (nrmC ?_))
        exact endA
    · rw [if_neg (fun e => hd (one_q.1 e).2)]
      cases n <;> simp only [if_true, if_false, Bool.false_eq_true, reduceIte]
      all_goals
        refine Sound.of_WP tok Tryd.func57 rfl rfl ?_; simp only [Tryd.f57, args0, List.map, List.length_cons, List.length_nil, Nat.reduceAdd, Nat.reduceSub, List.replicate, List.cons_append, List.nil_append]
        repeat' (first | refine WP_seq ?_ | refine WP_block ?_ | refine regA 64 fun KQ hKQ => ?_ | refine regD 64 fun KQ hKQ => ?_ | refine opsA rfl rfl rfl rfl (nrmA ?_) | refine callA rfl rfl rfl (nrmA ?_) (hs := c1) | refine callA rfl rfl rfl (nrmA ?_) (hs := c2) | refine callA rfl rfl rfl (nrmA ?_) (hs := c3) | refine opsW_skip rfl (nrmA ?_) | (refine opsW_nil ⟨by kernel_rfl, hKQ _ _ _ (nrmB ?_)⟩; clear hKQ KQ) | (refine opsW_nil (hKQ _ _ _ (nrmB ?_)); clear hKQ KQ) | refine condT rfl ?_ | refine condF rfl ?_ | refine WP_skip (nrmB ?_) | refine WP_ret (nrmC ?_) | refine WP_exit (nrmC ?_))
        exact endA
  · rw [if_neg (fun e => hq (one_q.1 e).1)]
    cases n <;> simp only [if_true, if_false, Bool.false_eq_true, reduceIte]
    all_goals
      refine Sound.of_WP tok Tryd.func57 rfl rfl ?_; simp only [Tryd.f57, args0, List.map, List.length_cons, List.length_nil, Nat.reduceAdd, Nat.reduceSub, List.replicate, List.cons_append, List.nil_append]
      repeat' (first | refine WP_seq ?_ | refine WP_block ?_ | refine regA 64 fun KQ hKQ => ?_ | refine regD 64 fun KQ hKQ => ?_ | refine opsA rfl rfl rfl rfl (nrmA ?_) | refine callA rfl rfl rfl (nrmA ?_) (hs := c1) | refine callA rfl rfl rfl (nrmA ?_) (hs := c2) | refine callA rfl rfl rfl (nrmA ?_) (hs := c3) | refine opsW_skip rfl (nrmA ?_) | (refine opsW_nil ⟨by kernel_rfl, hKQ _ _ _ (nrmB ?_)⟩; clear hKQ KQ) | (refine opsW_nil (hKQ _ _ _ (nrmB ?_)); clear hKQ KQ) | refine condT rfl ?_ | refine condF rfl ?_ | refine WP_skip (nrmB ?_) | refine WP_ret (nrmC ?_) | refine WP_exit (nrmC ?_))
      exact endA
theorem r3_Text.c (x : Rt) : Sound Tryd.prog 58 [R x] (.tup [Sg (rtS x).1, I (rtS x).2]) := by
  have c1 := r3_Valid.c x
  unfold rtS
  by_cases hx : rvB x = true
  rotate_left
  · rw [if_neg hx]
    replace hx : rvB x = false := by simpa using hx
    rw [hx] at c1
    obtain ⟨xn, xp, xq⟩ := x
    exact runO tok mixed [60] 300 6 (Obs.cons c1 Obs.nil) (by kernel_rfl)
  rw [if_pos hx]
  obtain ⟨x1, x2, _⟩ := rvB_iff.1 hx
  have c2 := ref_Text.c x.p
  have c3 := ref_Text.c x.q
  have c4 := limbs.c x.q [1]
  rw [show textS x.p = (textL x.p, 0) by unfold textS; rw [if_pos x1]] at c2
  rw [show textS x.q = (textL x.q, 0) by unfold textS; rw [if_pos x2]] at c3
  rw [hx] at c1
  have s1 := txB_size x1
  have s2 := txB_size x2
  replace c2 : Sound Tryd.prog 38 [N x.p] (.tup [Sg (txB x.p), I 0]) := c2
  replace c3 : Sound Tryd.prog 38 [N x.q] (.tup [Sg (txB x.q), I 0]) := c3
  unfold ratText signB
  obtain ⟨n, p, q⟩ := x
  dsimp only at *
  generalize txB p = tp at *
  generalize txB q = tq at *
  clear hx x1 x2
  have z1 : (ByteArray.mk #[45]).size = 1 := rfl
  have z2 : (ByteArray.mk #[47]).size = 1 := rfl
  have z3 : ∀ a b : ByteArray, (a ++ b).size = a.size + b.size := fun a b => ByteArray.size_append
  have k1 : (((ByteArray.mk #[45]).size + tp.size : Nat) : Int) ≤ 9223372036854775807 := by omega
  have k2 : (((ByteArray.mk #[45] ++ tp).size + (ByteArray.mk #[47]).size : Nat) : Int) ≤ 9223372036854775807 := by rw [z3]; omega
  have k3 : (((ByteArray.mk #[45] ++ tp ++ ByteArray.mk #[47]).size + tq.size : Nat) : Int) ≤ 9223372036854775807 := by rw [z3, z3]; omega
  have k4 : ((tp.size + (ByteArray.mk #[47]).size : Nat) : Int) ≤ 9223372036854775807 := by omega
  have k5 : (((tp ++ ByteArray.mk #[47]).size + tq.size : Nat) : Int) ≤ 9223372036854775807 := by rw [z3]; omega
  clear z1 z2 z3 s1 s2
  have c4' : Sound Tryd.prog 96 [N q, .lst 1 [I 1]] (B (decide (q = [1]))) := c4
  clear c4
  by_cases hq : q = [1]
  · rw [if_pos hq]
    rw [decide_eq_true hq] at c4'
    clear hq
    cases n <;> simp only [if_true, if_false, Bool.false_eq_true, reduceIte]
    all_goals
      refine Sound.of_WP tok Tryd.func58 rfl rfl ?_; simp only [Tryd.f58, args0, List.map, List.length_cons, List.length_nil, Nat.reduceAdd, Nat.reduceSub, List.replicate, List.cons_append, List.nil_append]
      repeat' (first | refine WP_seq ?_ | refine WP_block ?_ | refine regA 64 fun KQ hKQ => ?_ | refine regD 64 fun KQ hKQ => ?_ | refine opsA rfl rfl rfl rfl (nrmA ?_) | refine callA rfl rfl rfl (nrmA ?_) (hs := c1) | refine callA rfl rfl rfl (nrmA ?_) (hs := c2) | refine callA rfl rfl rfl (nrmA ?_) (hs := c3) | refine callA rfl rfl rfl (nrmA ?_) (hs := c4') | refine opsW_skip rfl (nrmA ?_) | (refine opsW_nil ⟨by kernel_rfl, hKQ _ _ _ (nrmB ?_)⟩; clear hKQ KQ) | (refine opsW_nil (hKQ _ _ _ (nrmB ?_)); clear hKQ KQ) | refine condT rfl ?_ | refine condF rfl ?_ | refine WP_skip (nrmB ?_) | refine WP_ret (nrmC ?_) | refine WP_exit (nrmC ?_))
      exact endA
  · rw [if_neg hq]
    rw [decide_eq_false hq] at c4'
    clear hq
    cases n <;> simp only [if_true, if_false, Bool.false_eq_true, reduceIte]
    all_goals
      refine Sound.of_WP tok Tryd.func58 rfl rfl ?_; simp only [Tryd.f58, args0, List.map, List.length_cons, List.length_nil, Nat.reduceAdd, Nat.reduceSub, List.replicate, List.cons_append, List.nil_append]
      repeat' (first | refine WP_seq ?_ | refine WP_block ?_ | refine regA 64 fun KQ hKQ => ?_ | refine regD 64 fun KQ hKQ => ?_ | refine opsA rfl rfl rfl rfl (nrmA ?_) | refine callA rfl rfl rfl (nrmA ?_) (hs := c1) | refine callA rfl rfl rfl (nrmA ?_) (hs := c2) | refine callA rfl rfl rfl (nrmA ?_) (hs := c3) | refine callA rfl rfl rfl (nrmA ?_) (hs := c4') | refine opsW_skip rfl (nrmA ?_) | (refine opsW_nil ⟨by kernel_rfl, hKQ _ _ _ (nrmB ?_)⟩; clear hKQ KQ) | (refine opsW_nil (hKQ _ _ _ (nrmB ?_)); clear hKQ KQ) | refine condT rfl ?_ | refine condF rfl ?_ | refine WP_skip (nrmB ?_) | refine WP_ret (nrmC ?_) | refine WP_exit (nrmC ?_))
      exact endA
theorem RatValids.c (x : Rt) : Sound Tryd.prog 13 [R x] (B true) := by
  have c1 := rat_Neg.c x
  have c2 := r3_Neg.c x
  have c3 := rat_Floor.c x
  have c4 := r3_Floor.c x
  have c5 := rat_Ceil.c x
  have c6 := r3_Ceil.c x
  have c7 := rat_Text.c x
  have c8 := r3_Text.c x
  have c9 := rat_Valid.c x
  have c10 := r3_Valid.c x
  have s1 := same03 (if rvB x = true then negR x else zR)
  generalize (if rvB x = true then negR x else zR) = y at *
  generalize (if rvB x = true then (0 : Int) else 3) = e at *
  generalize wholeS x x.neg = L at *
  generalize wholeS x (!x.neg) = H at *
  generalize rtS x = T at *
  generalize rvB x = v at *
  obtain ⟨lo, g⟩ := L
  obtain ⟨hi, i⟩ := H
  obtain ⟨t, k⟩ := T
  obtain ⟨xn, xp, xq⟩ := x
  obtain ⟨yn, yp, yq⟩ := y
  have q0 : (v == v) = true := by simp
  have q1 := eqT (rfl : e = e)
  have q2 := eqT (rfl : lo = lo)
  have q3 := eqT (rfl : g = g)
  have q4 := eqT (rfl : hi = hi)
  have q5 := eqT (rfl : i = i)
  have q6 := beqT t.data.toList
  have q7 := eqT (rfl : k = k)
  exact runO tok mixed [51, 53, 55, 57, 59, 52, 54, 56, 58, 60, 49, 50] 300 6 (Obs.cons c1 (Obs.cons c2 (Obs.cons c3 (Obs.cons c4 (Obs.cons c5 (Obs.cons c6 (Obs.cons c7 (Obs.cons c8 (Obs.cons c9 (Obs.cons c10 (Obs.br 0 q0 (Obs.cons s1 (Obs.br 0 q1 (Obs.br 0 q2 (Obs.br 0 q3 (Obs.br 0 q4 (Obs.br 0 q5 (Obs.br 0 q6 (Obs.br 0 q7 (Obs.cons awake03.c Obs.nil)))))))))))))))))))) (by kernel_rfl)
end Go.Proofs.YtalklhbdpmggjaaDoor.Pw
