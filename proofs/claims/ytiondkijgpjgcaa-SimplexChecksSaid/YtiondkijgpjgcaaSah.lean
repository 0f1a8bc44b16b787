/- The functions of the program as functions of values, part 8: a proof's lemmas, with no condition of their own. -/
import Derived.Test.YtiondkijgpjgcaaSae
import Derived.Test.YtiondkijgpjgcaaSaf
import Derived.Test.YtiondkijgpjgcaaSag
set_option linter.unusedVariables false
set_option linter.unusedSimpArgs false
namespace Go.Proofs.Ytiondkijgpjgcaa.Px
open Go.Proofs.Ytiondkijgpjgcaa.Wd Go.Proofs.Ytiondkijgpjgcaa.Mat
set_option linter.unusedVariables false
/-- What a step computes: paper, sewer, white water. -/
def doneR (f r c : Int) (x : Rt) : Rt × Rt × Rt :=
  let head := (addR (makeS f 1).1 x).1
  let paper := timesR head r 1000
  let rest := (subR head paper).1
  let white := timesR rest c 1000
  (paper, (subR rest white).1, white)
theorem checkS_zero {f r c : Int} (h : checkS f r c = 0) : (0 ≤ f ∧ f ≤ 1099511627776) ∧ (1 ≤ r ∧ r ≤ 1000) ∧ 0 ≤ c ∧ c ≤ 999 := by
  unfold checkS at h
  split at h
  · omega
  · split at h
    · omega
    · omega
theorem inR_of {n : Int} (h0 : 0 ≤ n) (h : n ≤ 1099511627776) : inR n = true := by simp [inR]; omega
theorem done_neg {f r c : Int} {x : Rt} (h : checkS f r c = 0) (hx : x.neg = false) : (doneR f r c x).1.neg = false ∧ (doneR f r c x).2.1.neg = false ∧ (doneR f r c x).2.2.neg = false := by
  obtain ⟨⟨f1, f2⟩, ⟨r1, r2⟩, c1, c2⟩ := checkS_zero h
  have n1 : (addR (makeS f 1).1 x).1.neg = false := addR_neg (makeS_neg f1 (by decide)) hx
  have n2 := rest_neg (n := r) (m := 1000) (by omega) (by omega) (by decide) (inR_of (by omega) (by omega)) (by decide) n1
  exact ⟨timesR_neg n1 (by omega) (by decide), rest_neg (by omega) (by omega) (by decide) (inR_of (by omega) (by omega)) (by decide) n2, timesR_neg n2 (by omega) (by decide)⟩
theorem makeS_01 : makeS 0 1 = (⟨false, [], [1]⟩, 0) := by
  have d1 : dg 1 = [1] := (dg_one_iff (by decide)).2 rfl
  have a0 : absI 0 = 0 := by decide
  have a1 : absI 1 = 1 := by decide
  have g : gcdI 0 1 = 1 := by decide
  have v1 : val [1] = 1 := by decide
  have v0 : val [] = 0 := rfl
  unfold makeS redS
  rw [a0, a1, d1, dg_zero, v1, v0, g]
  rw [if_pos (by decide), if_neg (by decide)]
  rw [show (0 : Int) / 1 = 0 from rfl, show (1 : Int) / 1 = 1 from rfl, d1, dg_zero]
  rfl
theorem fit_val {l : List Int} (h : okN l = true) : fitS (val l) = (l, 0) := by
  have o := okN_iff.1 h
  unfold fitS
  rw [if_pos o.lt, dg_val o.2]
theorem add_zero' {x : Rt} (h : rvB x = true ∨ x = zR) : (addR x (makeS 0 1).1).1 = x := by
  rw [makeS_01]
  rcases h with h | h
  rotate_left
  · rw [h]
    unfold addR
    rw [if_neg (fun h => absurd h.1 (by decide))]
  have h0 : rvB ⟨false, [], [1]⟩ = true := by
    refine rvB_iff.2 ⟨by decide, by decide, by decide, by simp, ?_⟩
    show gcdI (val []) (val [1]) = 1
    decide
  obtain ⟨x1, x2, x3, x4, x5⟩ := rvB_iff.1 h
  have e1 : mulS x.p [1] = (x.p, 0) := by
    rw [mulS_ok x1 (by decide), show val [1] = 1 by decide, Int.mul_one]
    exact fit_val x1
  have e2 : mulS [] x.q = ([], 0) := by
    rw [mulS_ok (by decide) x2, show val [] = 0 from rfl, Int.zero_mul]
    exact fit_val (l := []) (by decide)
  have e3 : mulS x.q [1] = (x.q, 0) := by
    rw [mulS_ok x2 (by decide), show val [1] = 1 by decide, Int.mul_one]
    exact fit_val x2
  have e4 : (plusS x.neg x.p false []).2.2 = 0 := by
    have o1 := okN_iff.1 x1
    unfold plusS
    split
    · have : addS x.p [] = fitS (val x.p + val []) := by unfold addS; rw [if_pos ⟨x1, by decide⟩]
      rw [this, show val [] = 0 from rfl, Int.add_zero, fit_val x1]
    · rw [if_neg (by unfold cmpS; have := o1.nonneg; rw [show val [] = 0 from rfl, if_neg (by omega)]; split <;> omega)]
      unfold subS
      rw [if_pos ⟨x1, by decide⟩, if_neg (by rw [show val [] = 0 from rfl]; have := o1.nonneg; omega)]
  have hz : (addR x ⟨false, [], [1]⟩).2 = 0 := by
    unfold addR
    rw [if_pos ⟨h, h0⟩]
    simp only [e1, e2, e3, e4]
    rfl
  obtain ⟨z, e, hr⟩ : ∃ z e, addR x ⟨false, [], [1]⟩ = (z, e) := ⟨_, _, rfl⟩
  rw [hr] at hz ⊢
  rcases addR_ok hr with ⟨_, _, _, hv, hn⟩ | ⟨he, _⟩
  · refine canon hv h ?_
    have d1 : dd (⟨false, [], [1]⟩ : Rt) = 1 := by decide
    have n1 : nn (⟨false, [], [1]⟩ : Rt) = 0 := by decide
    rw [d1, n1, Int.mul_one, Int.mul_one, Int.zero_mul, Int.add_zero] at hn
    exact hn
  · exact absurd hz he
theorem vz_mul (x y : Rt) : rvB (mulR x y).1 = true ∨ (mulR x y).1 = zR := by
  obtain ⟨z, e, hr⟩ : ∃ z e, mulR x y = (z, e) := ⟨_, _, rfl⟩
  rw [hr]
  rcases mulR_ok hr with ⟨_, _, _, h, _⟩ | ⟨_, h⟩
  · exact .inl h
  · exact .inr h
end Go.Proofs.Ytiondkijgpjgcaa.Px
namespace Go.Proofs.Ytiondkijgpjgcaa.Px
open Go.Proofs.Ytiondkijgpjgcaa.Wd Go.Proofs.Ytiondkijgpjgcaa.Mat
set_option linter.unusedVariables false
theorem pwa (m n : Nat) : pw (m + n) = pw m * pw n := by unfold pw; exact Int.pow_add _ _ _
theorem pwp (m : Nat) : 0 < pw m := by unfold pw; exact Int.pow_pos (by decide)
theorem pwle {m n : Nat} (h : m ≤ n) : pw m ≤ pw n := by
  obtain ⟨k, rfl⟩ := Nat.le.dest h
  rw [pwa]
  have h1 := pwp m
  have h2 := pwp k
  have := Int.mul_le_mul_of_nonneg_left (show 1 ≤ pw k by omega) (Int.le_of_lt h1)
  omega
theorem pwlt {m n : Nat} (h : m < n) : 2 * pw m ≤ pw n := by
  have h1 := pwle (show m + 1 ≤ n from h)
  rw [pwa] at h1
  have h2 : pw 1 = 1000000000 := by decide
  rw [h2] at h1
  have := pwp m
  omega
theorem mul_pw {x y : Int} {a b : Nat} (hx0 : 0 ≤ x) (hx : x < pw a) (hy0 : 0 ≤ y) (hy : y < pw b) : x * y < pw (a + b) := by
  rw [pwa]
  have h1 := pwp a
  have h2 : x * y ≤ x * pw b := Int.mul_le_mul_of_nonneg_left (Int.le_of_lt hy) hx0
  have h3 : x * pw b < pw a * pw b := Int.mul_lt_mul_of_pos_right hx (pwp b)
  omega
theorem red_le (n : Bool) {p q : List Int} (hp : okN p = true) (hq : okN q = true) (hq0 : q ≠ []) : val (redS n p q).p ≤ val p ∧ val (redS n p q).q ≤ val q := by
  have o1 := okN_iff.1 hp
  have o2 := okN_iff.1 hq
  obtain ⟨g0, g1, g2, g3, g4, g5, g6, g7⟩ := red_facts o1.nonneg (val_pos o2.2 hq0)
  simp only [redS]
  rw [val_dg g3, val_dg (Int.le_of_lt g4)]
  exact ⟨g5, g6⟩
def bd (x : Rt) (a b : Nat) : Prop := rvB x = true ∧ val x.p < pw a ∧ dd x < pw b
theorem fit_lt {n : Int} (h : n < pw 48) : fitS n = (dg n, 0) := by unfold fitS; rw [if_pos h]
theorem mul_bd {x y : Rt} {a b c d : Nat} (hx : bd x a b) (hy : bd y c d) (h1 : a + c ≤ 48) (h2 : b + d ≤ 48) : ∃ z, mulR x y = (z, 0) ∧ bd z (a + c) (b + d) := by
  obtain ⟨x1, x2, x3, x4, x5⟩ := rvB_iff.1 hx.1
  obtain ⟨y1, y2, y3, y4, y5⟩ := rvB_iff.1 hy.1
  have n1 := (okN_iff.1 x1).nonneg
  have n2 := (okN_iff.1 y1).nonneg
  have q1 := val_pos (okN_iff.1 x2).2 x3
  have q2 := val_pos (okN_iff.1 y2).2 y3
  have m1 := mul_pw n1 hx.2.1 n2 hy.2.1
  have m2 := mul_pw (Int.le_of_lt q1) hx.2.2 (Int.le_of_lt q2) hy.2.2
  have l1 := pwle h1
  have l2 := pwle h2
  have f1 : fitS (val x.p * val y.p) = (dg (val x.p * val y.p), 0) := fit_lt (by omega)
  have f2 : fitS (val x.q * val y.q) = (dg (val x.q * val y.q), 0) := fit_lt (by omega)
  have e1 := (mulS_ok x1 y1).trans f1
  have e2 := (mulS_ok x2 y2).trans f2
  have k1 := fit_facts (Int.mul_nonneg n1 n2) f1
  have k2 := fit_facts (Int.mul_nonneg (Int.le_of_lt q1) (Int.le_of_lt q2)) f2
  have z2 : dg (val x.q * val y.q) ≠ [] := k2.2.2.1 (by have := Int.mul_pos q1 q2; omega)
  refine ⟨redS (!(x.neg == y.neg)) (dg (val x.p * val y.p)) (dg (val x.q * val y.q)), ?_, (redS_ok _ k1.1 k2.1 z2).1, ?_, ?_⟩
  · unfold mulR
    rw [if_pos ⟨hx.1, hy.1⟩, e1, e2, if_pos rfl, if_pos rfl]
  · have := (red_le (!(x.neg == y.neg)) k1.1 k2.1 z2).1
    rw [k1.2.1] at this
    omega
  · have := (red_le (!(x.neg == y.neg)) k1.1 k2.1 z2).2
    rw [k2.2.1] at this
    show val _ < _
    omega
theorem plus_fit {m n : Bool} {a b : List Int} (ha : okN a = true) (hb : okN b = true) (h : val a + val b < pw 48) : (plusS m a n b).2.2 = 0 ∧ val (plusS m a n b).2.1 ≤ val a + val b := by
  have na := (okN_iff.1 ha).nonneg
  have nb := (okN_iff.1 hb).nonneg
  unfold plusS
  split
  · have : addS a b = (dg (val a + val b), 0) := by unfold addS; rw [if_pos ⟨ha, hb⟩, fit_lt h]
    rw [this]
    exact ⟨rfl, by rw [val_dg (by omega)]; omega⟩
  · split
    · rename_i hc
      have h' : val a < val b := by
        unfold cmpS at hc
        split at hc
        · assumption
        · split at hc <;> omega
      have : subS b a = (dg (val b - val a), 0) := by unfold subS; rw [if_pos ⟨hb, ha⟩, if_neg (by omega)]
      rw [this]
      exact ⟨rfl, by rw [val_dg (by omega)]; omega⟩
    · rename_i hc
      have h' : val b ≤ val a := by
        unfold cmpS at hc
        split at hc <;> omega
      have : subS a b = (dg (val a - val b), 0) := by unfold subS; rw [if_pos ⟨ha, hb⟩, if_neg (by omega)]
      rw [this]
      exact ⟨rfl, by rw [val_dg (by omega)]; omega⟩
theorem add_bd {x y : Rt} {a b c d : Nat} (k : Nat) (hx : bd x a b) (hy : bd y c d) (h1 : a + d < k) (h2 : c + b < k) (h3 : k ≤ 48) (h4 : b + d ≤ 48) : ∃ z, addR x y = (z, 0) ∧ bd z k (b + d) := by
  obtain ⟨x1, x2, x3, x4, x5⟩ := rvB_iff.1 hx.1
  obtain ⟨y1, y2, y3, y4, y5⟩ := rvB_iff.1 hy.1
  have n1 := (okN_iff.1 x1).nonneg
  have n2 := (okN_iff.1 y1).nonneg
  have q1 := val_pos (okN_iff.1 x2).2 x3
  have q2 := val_pos (okN_iff.1 y2).2 y3
  have m1 := mul_pw n1 hx.2.1 (Int.le_of_lt q2) hy.2.2
  have m2 := mul_pw n2 hy.2.1 (Int.le_of_lt q1) hx.2.2
  have m3 := mul_pw (Int.le_of_lt q1) hx.2.2 (Int.le_of_lt q2) hy.2.2
  have l1 := pwlt h1
  have l2 := pwlt h2
  have l3 := pwle h3
  have l4 := pwle h4
  change val x.p * val y.q < _ at m1
  change val y.p * val x.q < _ at m2
  change val x.q * val y.q < _ at m3
  have p1 := Int.mul_nonneg n1 (Int.le_of_lt q2)
  have p2 := Int.mul_nonneg n2 (Int.le_of_lt q1)
  have f1 : fitS (val x.p * val y.q) = (dg (val x.p * val y.q), 0) := fit_lt (by omega)
  have f2 : fitS (val y.p * val x.q) = (dg (val y.p * val x.q), 0) := fit_lt (by omega)
  have f3 : fitS (val x.q * val y.q) = (dg (val x.q * val y.q), 0) := fit_lt (by omega)
  have e1 := (mulS_ok x1 y2).trans f1
  have e2 := (mulS_ok y1 x2).trans f2
  have e3 := (mulS_ok x2 y2).trans f3
  have k1 := fit_facts p1 f1
  have k2 := fit_facts p2 f2
  have k3 := fit_facts (Int.mul_nonneg (Int.le_of_lt q1) (Int.le_of_lt q2)) f3
  have z3 : dg (val x.q * val y.q) ≠ [] := k3.2.2.1 (by have := Int.mul_pos q1 q2; omega)
  have s1 := plus_fit (m := x.neg) (n := y.neg) k1.1 k2.1 (by rw [k1.2.1, k2.2.1]; omega)
  have s2 := plusS_ok (m := x.neg) (n := y.neg) k1.1 k2.1
  rw [k1.2.1, k2.2.1] at s1
  obtain ⟨n', s, e, hp⟩ : ∃ n s e, plusS x.neg (dg (val x.p * val y.q)) y.neg (dg (val y.p * val x.q)) = (n, s, e) := ⟨_, _, _, rfl⟩
  rw [hp] at s1 s2
  obtain ⟨s11, s12⟩ := s1
  simp only at s11 s12 s2
  subst s11
  refine ⟨redS n' s (dg (val x.q * val y.q)), ?_, (redS_ok _ s2.1 k3.1 z3).1, ?_, ?_⟩
  · unfold addR
    rw [if_pos ⟨hx.1, hy.1⟩]
    simp only [e1, e2, e3, hp, and_self, if_true]
  · have := (red_le n' s2.1 k3.1 z3).1
    omega
  · have := (red_le n' s2.1 k3.1 z3).2
    rw [k3.2.1] at this
    show val _ < _
    omega
theorem sub_bd {x y : Rt} {a b c d : Nat} (k : Nat) (hx : bd x a b) (hy : bd y c d) (h1 : a + d < k) (h2 : c + b < k) (h3 : k ≤ 48) (h4 : b + d ≤ 48) : ∃ z, subR x y = (z, 0) ∧ bd z k (b + d) := by
  unfold subR
  rw [if_pos ⟨hx.1, hy.1⟩]
  exact add_bd k hx ⟨(negR_ok hy.1).1, hy.2.1, hy.2.2⟩ h1 h2 h3 h4
theorem make_bd {p q : Int} {a b : Nat} (h0 : 0 ≤ p) (hp : p ≤ 1099511627776) (hq0 : 0 < q) (hq : q ≤ 1099511627776) (ha : p < pw a) (hb : q < pw b) : ∃ z, makeS p q = (z, 0) ∧ bd z a b ∧ nn z * q = p * dd z := by
  have i1 := inR_of h0 hp
  have i2 := inR_of (Int.le_of_lt hq0) hq
  obtain ⟨z, e, hz⟩ : ∃ z e, makeS p q = (z, e) := ⟨_, _, rfl⟩
  obtain ⟨h1, h2, h3⟩ := makeS_ok i1 i2 hq0 hz
  subst h1
  refine ⟨z, hz, ⟨h2, ?_, ?_⟩, h3⟩
  all_goals
    unfold makeS at hz
    rw [if_pos ⟨i1, i2⟩, if_neg (by omega)] at hz
    injection hz with hz _
    have r := red_le (!(decide (p < 0) == decide (q < 0))) (absI_ok i1).1 (absI_ok i2).1 ((absI_ok i2).2 (by omega))
    rw [hz, val_dg (by unfold absI; split <;> omega), val_dg (by unfold absI; split <;> omega)] at r
    have a1 : absI p = p := by unfold absI; rw [if_neg (by omega)]
    have a2 : absI q = q := by unfold absI; rw [if_neg (by omega)]
    rw [a1, a2] at r
    first | omega | (show val _ < _; omega)
end Go.Proofs.Ytiondkijgpjgcaa.Px
namespace Go.Proofs.Ytiondkijgpjgcaa.Px
open Go.Proofs.Ytiondkijgpjgcaa.Wd Go.Proofs.Ytiondkijgpjgcaa.Mat
set_option linter.unusedVariables false
theorem sum_alg {A a B b R r W w S s T t H h : Int} (ha : 0 < a) (hb : 0 < b) (hr : 0 < r) (hw : 0 < w) (hs : 0 < s) (E1 : S * (a * b) = (A * b + B * a) * s) (E2 : T * (s * w) = (S * w + W * s) * t) (E3 : R * (h * a) = (H * a - A * h) * r) (E4 : B * (r * w) = (R * w - W * r) * b) : T * h = H * t := by
  have F1 : T * w * a * b = (A * b * w + B * a * w + W * a * b) * t := by
    refine Int.eq_of_mul_eq_mul_right (show s ≠ 0 by omega) ?_
    grind
  have F2 : T * a * r = (A * r + R * a) * t := by
    refine Int.eq_of_mul_eq_mul_right (show b ≠ 0 by omega) ?_
    refine Int.eq_of_mul_eq_mul_right (show w ≠ 0 by omega) ?_
    grind
  refine Int.eq_of_mul_eq_mul_right (show a ≠ 0 by omega) ?_
  refine Int.eq_of_mul_eq_mul_right (show r ≠ 0 by omega) ?_
  grind
theorem len_bd {x : Rt} (hv : rvB x = true) (h1 : x.p.length ≤ 3) (h2 : x.q.length ≤ 3) : bd x 3 3 := by
  obtain ⟨x1, x2, _⟩ := rvB_iff.1 hv
  exact ⟨hv, (len_le (okN_iff.1 x1).2).1 h1, (len_le (okN_iff.1 x2).2).1 h2⟩
theorem balance {f r c : Int} {x : Rt} (hc : checkS f r c = 0) (hx : bd x 3 3) : ∃ a b w s t, doneR f r c x = (a, b, w) ∧ rvB a = true ∧ rvB b = true ∧ rvB w = true ∧ addR a b = (s, 0) ∧ addR s w = (t, 0) ∧ addR (makeS f 1).1 x = (t, 0) := by
  obtain ⟨⟨f1, f2⟩, ⟨r1, r2⟩, c1, c2⟩ := checkS_zero hc
  have p1 : pw 1 = 1000000000 := pw_one
  have p2 : pw 2 = 1000000000000000000 := pw_two
  obtain ⟨F, hF, bF, _⟩ := make_bd (p := f) (q := 1) (a := 2) (b := 1) f1 f2 (by decide) (by decide) (by omega) (by omega)
  obtain ⟨u, hu, bu, _⟩ := make_bd (p := r) (q := 1000) (a := 1) (b := 1) (by omega) (by omega) (by decide) (by decide) (by omega) (by omega)
  obtain ⟨v, hv, bv, _⟩ := make_bd (p := c) (q := 1000) (a := 1) (b := 1) (by omega) (by omega) (by decide) (by decide) (by omega) (by omega)
  obtain ⟨h, hh, bh⟩ := add_bd 6 bF hx (by decide) (by decide) (by decide) (by decide)
  obtain ⟨a, ha, ba⟩ := mul_bd bh bu (by decide) (by decide)
  obtain ⟨rs, hrs, brs⟩ := sub_bd 12 bh ba (by decide) (by decide) (by decide) (by decide)
  obtain ⟨w, hw, bw⟩ := mul_bd brs bv (by decide) (by decide)
  obtain ⟨b, hb, bb⟩ := sub_bd 23 brs bw (by decide) (by decide) (by decide) (by decide)
  obtain ⟨s, hs, bs⟩ := add_bd 29 ba bb (by decide) (by decide) (by decide) (by decide)
  obtain ⟨t, ht, bt⟩ := add_bd 40 bs bw (by decide) (by decide) (by decide) (by decide)
  have ex := fun {x y z : Rt} (h : addR x y = (z, 0)) => (addR_ok h).elim (fun h => h.2.2.2.2) (fun h => absurd rfl h.1)
  have exs := fun {x y z : Rt} (h : subR x y = (z, 0)) => (subR_ok h).elim (fun h => h.2.2.2.2) (fun h => absurd rfl h.1)
  have e : t = h := canon bt.1 bh.1 (sum_alg (rv_facts ba.1).1 (rv_facts bb.1).1 (rv_facts brs.1).1 (rv_facts bw.1).1 (rv_facts bs.1).1 (ex hs) (ex ht) (exs hrs) (exs hb))
  subst e
  refine ⟨a, b, w, s, t, ?_, ba.1, bb.1, bw.1, hs, ht, by rw [hF]; exact hh⟩
  unfold doneR timesR
  simp only [hF, hu, hv, hh, ha, hrs, hw, hb]
end Go.Proofs.Ytiondkijgpjgcaa.Px
namespace Go.Proofs.Ytiondkijgpjgcaa.Pw
open Go Wd Px Mat
set_option linter.unusedVariables false
set_option linter.unusedSimpArgs false
set_option maxRecDepth 100000
attribute [local irreducible] Int.tmod Int.tdiv
set_option maxHeartbeats 8000000
@[reducible] def R (x : Rt) : PV := .agg [B x.neg, N x.p, N x.q]
theorem rat_Valid.c (x : Rt) : Sound Try.prog 35 [R x] (B (rvB x)) := by
  obtain ⟨n, p, q⟩ := x
  have c1 := nat_Valid.c p
  have c2 := nat_Valid.c q
  by_cases hp : okN p = true
  rotate_left
  · replace hp : okN p = false := by simpa using hp
    rw [show rvB ⟨n, p, q⟩ = false by simp [rvB, hp]]
    rw [hp] at c1
    exact runO tok mixed [59] 300 6 (Obs.cons c1 Obs.nil) (by kernel_rfl)
  by_cases hq : okN q = true
  rotate_left
  · replace hq : okN q = false := by simpa using hq
    rw [show rvB ⟨n, p, q⟩ = false by simp [rvB, hq]]
    rw [hp] at c1; rw [hq] at c2
    exact runO tok mixed [59] 300 6 (Obs.cons c1 (Obs.cons c2 Obs.nil)) (by kernel_rfl)
  rw [hp] at c1; rw [hq] at c2
  cases q with
  | nil =>
    rw [show rvB ⟨n, p, []⟩ = false by simp [rvB]]
    exact runO tok mixed [59] 300 6 (Obs.cons c1 (Obs.cons c2 Obs.nil)) (by kernel_rfl)
  | cons d q =>
    have e : gcdS p (d :: q) = (dg (gcdI (val p) (val (d :: q))), 0) := by unfold gcdS; rw [if_pos ⟨hp, hq⟩]
    have c3 := nat_Gcd.c p (d :: q)
    rw [e] at c3
    have key : rvB ⟨n, p, d :: q⟩ = (!(n && decide (p.length = 0)) && decide (dg (gcdI (val p) (val (d :: q))) = [1])) := by
      rw [show decide (dg (gcdI (val p) (val (d :: q))) = [1]) = decide (gcdI (val p) (val (d :: q)) = 1) from decide_eq_decide.2 (dg_one_iff (gcdI_nonneg _ _))]
      simp [rvB, hp, hq]
    rw [key]
    clear key e
    dsimp only at c3
    generalize dg (gcdI (val p) (val (d :: q))) = G at *
    clear hp hq
    by_cases hn : p = [] ∧ n = true
    · obtain ⟨rfl, rfl⟩ := hn
      exact runO tok mixed [59, 60] 300 6 (Obs.cons c1 (Obs.cons c2 Obs.nil)) (by kernel_rfl)
    · have key : (!(n && decide (p.length = 0)) && decide (G = [1])) = decide (G = [1]) := by
        cases n <;> cases p <;> simp_all
      rw [key]
      clear key
      cases G with
      | nil =>
        rw [show decide (([] : List Int) = [1]) = false by decide]
        cases n <;> cases p <;> first | exact absurd ⟨rfl, rfl⟩ hn | exact runO tok mixed [59, 60] 300 6 (Obs.cons c1 (Obs.cons c2 (Obs.cons c3 Obs.nil))) (by kernel_rfl)
      | cons t G =>
        cases G with
        | nil =>
          by_cases ht : t = 1
          · rw [show decide ([t] = [1]) = true by simp [ht]]
            cases n <;> cases p <;> first | exact absurd ⟨rfl, rfl⟩ hn | exact runO tok mixed [59, 60] 300 6 (Obs.cons c1 (Obs.cons c2 (Obs.cons c3 (Obs.br 2 (eqT ht) Obs.nil)))) (by kernel_rfl)
          · rw [show decide ([t] = [1]) = false by simp [ht]]
            cases n <;> cases p <;> first | exact absurd ⟨rfl, rfl⟩ hn | exact runO tok mixed [59, 60] 300 6 (Obs.cons c1 (Obs.cons c2 (Obs.cons c3 (Obs.br 2 (eqF ht) Obs.nil)))) (by kernel_rfl)
        | cons u G =>
          rw [show decide (t :: u :: G = [1]) = false by simp]
          cases n <;> cases p <;> first | exact absurd ⟨rfl, rfl⟩ hn | exact runO tok mixed [59, 60] 300 6 (Obs.cons c1 (Obs.cons c2 (Obs.cons c3 Obs.nil))) (by kernel_rfl)
theorem okv {p : List Int} (h : okN p = true) : ∃ m, p = dg m ∧ val p = m ∧ 0 ≤ m := ⟨val p, (dg_val (okN_iff.1 h).2).symm, rfl, (okN_iff.1 h).nonneg⟩
/-- Reduction: of valid numbers, of which the second is not zero. -/
theorem divS_gcd {p g : List Int} (hp : okN p = true) (hg : okN g = true) (h0 : g ≠ []) : divS p g = (dg (val p / val g), dg (val p % val g), 0) := by
  unfold divS; rw [if_pos ⟨hp, hg⟩, if_neg h0]
theorem rat_reduced.c (neg : Bool) (p q : List Int) (hp : okN p = true) (hq : okN q = true) (h0 : q ≠ []) : Sound Try.prog 73 [B neg, N p, N q] (.tup [R (redS neg p q), I 0]) := by
  obtain ⟨g1, g2, g3⟩ := gcd_facts hp hq h0
  have c1 := nat_Gcd.c p q
  have e : gcdS p q = (dg (gcdI (val p) (val q)), 0) := by unfold gcdS; rw [if_pos ⟨hp, hq⟩]
  rw [e] at c1
  dsimp only at c1
  have c2 := nat_DivMod.c p (dg (gcdI (val p) (val q)))
  have c3 := nat_DivMod.c q (dg (gcdI (val p) (val q)))
  rw [divS_gcd hp g1 g2, g3] at c2
  rw [divS_gcd hq g1 g2, g3] at c3
  dsimp only at c2 c3
  have hr : redS neg p q = ⟨neg && decide (0 < (dg (val p / gcdI (val p) (val q))).length), dg (val p / gcdI (val p) (val q)), dg (val q / gcdI (val p) (val q))⟩ := rfl
  rw [hr]
  generalize dg (gcdI (val p) (val q)) = G at *
  generalize dg (val p / gcdI (val p) (val q)) = X at *
  generalize dg (val q / gcdI (val p) (val q)) = Y at *
  generalize dg (val p % gcdI (val p) (val q)) = X1 at *
  generalize dg (val q % gcdI (val p) (val q)) = Y1 at *
  cases neg <;> cases X <;> exact runL tok mixed [60, 94] 200 3 (Good.cons c1 (Good.cons c2 (Good.cons c3 Good.nil))) (by kernel_rfl)
end Go.Proofs.Ytiondkijgpjgcaa.Pw
namespace Go.Proofs.Ytiondkijgpjgcaa.Pw
open Go Wd Px Mat
set_option linter.unusedVariables false
set_option linter.unusedSimpArgs false
set_option maxRecDepth 100000
attribute [local irreducible] Int.tmod Int.tdiv
set_option maxHeartbeats 8000000
theorem rat_in.c (n : Int) : Sound Try.prog 103 [I n] (B (inR n)) := by
  by_cases h1 : -1125899906842624 ≤ n
  · by_cases h2 : n ≤ 1125899906842624
    · rw [show inR n = true by simp [inR]; omega]
      exact runO tok mixed [] 300 6 (Obs.br 0 (leT h1) (Obs.br 0 (leT h2) Obs.nil)) (by kernel_rfl)
    · rw [show inR n = false by simp [inR]; omega]
      exact runO tok mixed [] 300 6 (Obs.br 0 (leT h1) (Obs.br 0 (leF h2) Obs.nil)) (by kernel_rfl)
  · rw [show inR n = false by simp [inR]; omega]
    exact runO tok mixed [] 300 6 (Obs.br 0 (leF h1) Obs.nil) (by kernel_rfl)
theorem rat_natural.c (n : Int) (h : inR n = true) : Sound Try.prog 104 [I n] (N (dg (absI n))) := by
  have h' : -1125899906842624 ≤ n ∧ n ≤ 1125899906842624 := by simpa [inR] using h
  have w : wrap64 (0 - n) = -n := by rw [Int.zero_sub]; exact w64 (by omega) (by omega)
  have hm : mx n (-n) = absI n := by unfold mx absI; split <;> split <;> omega
  have ha : 0 ≤ absI n ∧ absI n ≤ 1125899906842624 := by unfold absI; split <;> omega
  have c := nat_Of.c (absI n) (by omega)
  have e : ofS (absI n) = (dg (absI n), 0) := by unfold ofS; rw [if_neg (by omega)]
  rw [e] at c
  dsimp only at c
  generalize absI n = a at *
  generalize dg a = D at *
  refine Sound.of_WP tok Try.func104 rfl rfl ?_; simp only [Try.f104, args0, List.map, List.length_cons, List.length_nil, Nat.reduceAdd, Nat.reduceSub, List.replicate, List.cons_append, List.nil_append]
  repeat' (first | refine WP_seq ?_ | refine WP_block ?_ | refine regA 64 fun KQ hKQ => ?_ | refine regD 64 fun KQ hKQ => ?_ | refine opsA rfl rfl rfl rfl (nrmA ?_) | refine callA rfl rfl rfl (nrmA ?_) (hs := c) | refine opsW_skip rfl (nrmA ?_) | (refine opsW_nil ⟨by kernel_rfl, hKQ _ _ _ (nrmB ?_)⟩; clear hKQ KQ) | (refine opsW_nil (hKQ _ _ _ (nrmB ?_)); clear hKQ KQ) | refine condT rfl ?_ | refine condF rfl ?_ | refine WP_skip (nrmB ?_) | refine WP_ret (nrmC ?_) | refine WP_exit (nrmC ?_))
  exact endA
theorem rat_Make.c (p q : Int) : Sound Try.prog 95 [I p, I q] (.tup [R (makeS p q).1, I (makeS p q).2]) := by
  have c1 := rat_in.c p
  have c2 := rat_in.c q
  by_cases hp : inR p = true
  rotate_left
  · replace hp : inR p = false := by simpa using hp
    rw [hp] at c1
    rw [show makeS p q = (zR, 1) by unfold makeS; rw [if_neg (by simp [hp])]]
    exact runO tok mixed [103] 300 6 (Obs.cons c1 Obs.nil) (by kernel_rfl)
  by_cases hq : inR q = true
  rotate_left
  · replace hq : inR q = false := by simpa using hq
    rw [hp] at c1; rw [hq] at c2
    rw [show makeS p q = (zR, 1) by unfold makeS; rw [if_neg (by simp [hq])]]
    exact runO tok mixed [103] 300 6 (Obs.cons c1 (Obs.cons c2 Obs.nil)) (by kernel_rfl)
  rw [hp] at c1; rw [hq] at c2
  by_cases h0 : q = 0
  · subst h0
    rw [show makeS p 0 = (zR, 16) by unfold makeS; rw [if_pos ⟨hp, hq⟩, if_pos rfl]]
    exact runO tok mixed [103] 300 6 (Obs.cons c1 (Obs.cons c2 Obs.nil)) (by kernel_rfl)
  have k1 := absI_ok hp
  have k2 := absI_ok hq
  rw [show makeS p q = (redS (!(decide (p < 0) == decide (q < 0))) (dg (absI p)) (dg (absI q)), 0) by unfold makeS; rw [if_pos ⟨hp, hq⟩, if_neg h0]]
  have c3 := rat_natural.c p hp
  have c4 := rat_natural.c q hq
  have c5 := rat_reduced.c (!(decide (p < 0) == decide (q < 0))) (dg (absI p)) (dg (absI q)) k1.1 k2.1 (k2.2 h0)
  clear k1 k2
  generalize hz : redS _ (dg (absI p)) (dg (absI q)) = z at *
  clear hz
  generalize dg (absI p) = P at *
  generalize dg (absI q) = Q at *
  by_cases s1 : p < 0 <;> by_cases s2 : q < 0 <;> simp only [s1, s2, decide_true, decide_false] at c5
  · exact runO tok mixed [103, 104, 73] 300 6 (Obs.cons c1 (Obs.cons c2 (Obs.br 0 (eqF h0) (Obs.br 0 (ltT s1) (Obs.br 0 (ltT s2) (Obs.cons c3 (Obs.cons c4 (Obs.cons c5 Obs.nil)))))))) (by kernel_rfl)
  · exact runO tok mixed [103, 104, 73] 300 6 (Obs.cons c1 (Obs.cons c2 (Obs.br 0 (eqF h0) (Obs.br 0 (ltT s1) (Obs.br 0 (ltF s2) (Obs.cons c3 (Obs.cons c4 (Obs.cons c5 Obs.nil)))))))) (by kernel_rfl)
  · exact runO tok mixed [103, 104, 73] 300 6 (Obs.cons c1 (Obs.cons c2 (Obs.br 0 (eqF h0) (Obs.br 0 (ltF s1) (Obs.br 0 (ltT s2) (Obs.cons c3 (Obs.cons c4 (Obs.cons c5 Obs.nil)))))))) (by kernel_rfl)
  · exact runO tok mixed [103, 104, 73] 300 6 (Obs.cons c1 (Obs.cons c2 (Obs.br 0 (eqF h0) (Obs.br 0 (ltF s1) (Obs.br 0 (ltF s2) (Obs.cons c3 (Obs.cons c4 (Obs.cons c5 Obs.nil)))))))) (by kernel_rfl)
theorem rat_Of.c (n : Int) : Sound Try.prog 74 [I n] (.tup [R (makeS n 1).1, I (makeS n 1).2]) :=
  runL tok mixed [95] 100 2 (Good.cons (rat_Make.c n 1) Good.nil) (by kernel_rfl)
theorem rat_minus.c (x : Rt) (h : x.p.length ≤ 48) (h' : x.q.length ≤ 48) : Sound Try.prog 75 [R x] (R (negR x)) := by
  obtain ⟨n, p, q⟩ := x
  dsimp only at h h'
  unfold negR
  dsimp only
  have e1 : p.length * 8 ≤ 140737488355328 := by omega
  have e2 : q.length * 8 ≤ 140737488355328 := by omega
  by_cases hp : 0 < p.length
  · have hp' : (0 : Int) < p.length := by omega
    simp only [hp, decide_true, Bool.and_true]
    cases n
    all_goals
      refine Sound.of_WP tok Try.func75 rfl rfl ?_; simp only [Try.f75, args0, List.map, List.length_cons, List.length_nil, Nat.reduceAdd, Nat.reduceSub, List.replicate, List.cons_append, List.nil_append]
      repeat' (first | refine WP_seq ?_ | refine WP_block ?_ | refine regA 64 fun KQ hKQ => ?_ | refine regD 64 fun KQ hKQ => ?_ | refine opsA rfl rfl rfl rfl (nrmA ?_) | refine opsW_skip rfl (nrmA ?_) | (refine opsW_nil ⟨by kernel_rfl, hKQ _ _ _ (nrmB ?_)⟩; clear hKQ KQ) | (refine opsW_nil (hKQ _ _ _ (nrmB ?_)); clear hKQ KQ) | refine condT rfl ?_ | refine condF rfl ?_ | refine WP_skip (nrmB ?_) | refine WP_ret (nrmC ?_) | refine WP_exit (nrmC ?_))
      refine Res_of rfl ?_ ?_
      · refine ⟨⟨?_, ?_⟩, trivial⟩ <;> first | exact Nat.le_of_ble_eq_true rfl | (intro hh; cases hh)
      · simp [pack, cellsTo, cells1, allP, putIn, lay, Blk.mk, AV.cells, Pw.frz, Pw.frzs, get, nrm1, nrm, List.take_of_length_le, Option.bind, Option.map]
  · have hp' : ¬ (0 : Int) < p.length := by omega
    simp only [hp, decide_false, Bool.and_false]
    cases n
    all_goals
      refine Sound.of_WP tok Try.func75 rfl rfl ?_; simp only [Try.f75, args0, List.map, List.length_cons, List.length_nil, Nat.reduceAdd, Nat.reduceSub, List.replicate, List.cons_append, List.nil_append]
      repeat' (first | refine WP_seq ?_ | refine WP_block ?_ | refine regA 64 fun KQ hKQ => ?_ | refine regD 64 fun KQ hKQ => ?_ | refine opsA rfl rfl rfl rfl (nrmA ?_) | refine opsW_skip rfl (nrmA ?_) | (refine opsW_nil ⟨by kernel_rfl, hKQ _ _ _ (nrmB ?_)⟩; clear hKQ KQ) | (refine opsW_nil (hKQ _ _ _ (nrmB ?_)); clear hKQ KQ) | refine condT rfl ?_ | refine condF rfl ?_ | refine WP_skip (nrmB ?_) | refine WP_ret (nrmC ?_) | refine WP_exit (nrmC ?_))
      refine Res_of rfl ?_ ?_
      · refine ⟨⟨?_, ?_⟩, trivial⟩ <;> first | exact Nat.le_of_ble_eq_true rfl | (intro hh; cases hh)
      · simp [pack, cellsTo, cells1, allP, putIn, lay, Blk.mk, AV.cells, Pw.frz, Pw.frzs, get, nrm1, nrm, List.take_of_length_le, Option.bind, Option.map]
theorem rv_len {x : Rt} (h : rvB x = true) : x.p.length ≤ 48 ∧ x.q.length ≤ 48 := by
  obtain ⟨h1, h2, _⟩ := rvB_iff.1 h
  exact ⟨(okN_iff.1 h1).1, (okN_iff.1 h2).1⟩
theorem q_pos {x : Rt} (h : rvB x = true) : 0 < val x.q := by
  obtain ⟨h1, h2, h3, _⟩ := rvB_iff.1 h
  exact val_pos (okN_iff.1 h2).2 h3
theorem p_nn {x : Rt} (h : rvB x = true) : 0 ≤ val x.p := (okN_iff.1 (rvB_iff.1 h).1).nonneg
theorem mulS_cases {a b : List Int} (ha : okN a = true) (hb : okN b = true) : (∃ m, mulS a b = (m, 0) ∧ okN m = true ∧ val m = val a * val b) ∨ mulS a b = ([], 2) := by
  rw [mulS_ok ha hb]
  rcases fitS_cases (val a * val b) with h | h
  · have := fit_facts (Int.mul_nonneg (okN_iff.1 ha).nonneg (okN_iff.1 hb).nonneg) h
    exact .inl ⟨_, h, this.1, this.2.1⟩
  · exact .inr h
theorem rat_Mul.c (x y : Rt) : Sound Try.prog 61 [R x, R y] (.tup [R (mulR x y).1, I (mulR x y).2]) := by
  have c1 := rat_Valid.c x
  have c2 := rat_Valid.c y
  by_cases hx : rvB x = true
  · rw [hx] at c1
    by_cases hy : rvB y = true
    · rw [hy] at c2
      have c3 := nat_Mul.c x.p y.p
      have c4 := nat_Mul.c x.q y.q
      obtain ⟨x1, x2, x3, _⟩ := rvB_iff.1 hx
      obtain ⟨y1, y2, y3, _⟩ := rvB_iff.1 hy
      rcases mulS_cases x1 y1 with ⟨m, e1, m1, m2⟩ | e1
      · rcases mulS_cases x2 y2 with ⟨k, e2, k1, k2⟩ | e2
        · have c5 := rat_reduced.c (!(x.neg == y.neg)) m k m1 k1 (fun e => by
            subst e
            have := Int.mul_pos (q_pos hx) (q_pos hy)
            rw [← k2] at this; simp [val] at this)
          rw [show mulR x y = (redS (!(x.neg == y.neg)) m k, 0) by unfold mulR; rw [if_pos ⟨hx, hy⟩, e1, e2]; rfl]
          rw [e1] at c3; rw [e2] at c4
          clear e1 e2
          generalize redS (!(x.neg == y.neg)) m k = z at *
          clear hx hy x1 x2 x3 y1 y2 y3
          obtain ⟨xn, xp, xq⟩ := x
          obtain ⟨yn, yp, yq⟩ := y
          exact runL tok mixed [35, 89, 73] 200 6 (Good.cons c1 (Good.cons c2 (Good.cons c3 (Good.cons c4 (Good.cons c5 Good.nil))))) (by kernel_rfl)
        · rw [show mulR x y = (zR, 2) by unfold mulR; rw [if_pos ⟨hx, hy⟩, e1, e2]; rfl]
          rw [e1] at c3; rw [e2] at c4
          clear e1 e2
          clear hx hy x1 x2 x3 y1 y2 y3
          obtain ⟨xn, xp, xq⟩ := x
          obtain ⟨yn, yp, yq⟩ := y
          exact runL tok mixed [35, 89, 73] 200 6 (Good.cons c1 (Good.cons c2 (Good.cons c3 (Good.cons c4 Good.nil)))) (by kernel_rfl)
      · rw [show mulR x y = (zR, 2) by unfold mulR; rw [if_pos ⟨hx, hy⟩, e1]; rfl]
        rw [e1] at c3
        clear e1
        clear hx hy x1 x2 x3 y1 y2 y3
        obtain ⟨xn, xp, xq⟩ := x
        obtain ⟨yn, yp, yq⟩ := y
        exact runL tok mixed [35, 89, 73] 200 6 (Good.cons c1 (Good.cons c2 (Good.cons c3 Good.nil))) (by kernel_rfl)
    · rw [show mulR x y = (zR, 3) by unfold mulR; rw [if_neg (fun h => hy h.2)]]
      replace hy : rvB y = false := by simpa using hy
      rw [hy] at c2
      clear hx hy
      obtain ⟨xn, xp, xq⟩ := x
      obtain ⟨yn, yp, yq⟩ := y
      exact runL tok mixed [35, 89, 73] 200 6 (Good.cons c1 (Good.cons c2 Good.nil)) (by kernel_rfl)
  · rw [show mulR x y = (zR, 3) by unfold mulR; rw [if_neg (fun h => hx h.1)]]
    replace hx : rvB x = false := by simpa using hx
    rw [hx] at c1
    clear hx
    obtain ⟨xn, xp, xq⟩ := x
    obtain ⟨yn, yp, yq⟩ := y
    exact runL tok mixed [35, 89, 73] 200 6 (Good.cons c1 Good.nil) (by kernel_rfl)
end Go.Proofs.Ytiondkijgpjgcaa.Pw
namespace Go.Proofs.Ytiondkijgpjgcaa.Pw
open Go Wd Px Mat
set_option linter.unusedVariables false
set_option linter.unusedSimpArgs false
set_option maxRecDepth 100000
set_option maxHeartbeats 8000000
theorem rat_Add.c (x y : Rt) : Sound Try.prog 45 [R x, R y] (.tup [R (addR x y).1, I (addR x y).2]) := by
  have c1 := rat_Valid.c x
  have c2 := rat_Valid.c y
  by_cases hx : rvB x = true
  rotate_left
  · rw [show addR x y = (zR, 3) by unfold addR; rw [if_neg (fun h => hx h.1)]]
    replace hx : rvB x = false := by simpa using hx
    rw [hx] at c1
    clear hx
    obtain ⟨xn, xp, xq⟩ := x
    obtain ⟨yn, yp, yq⟩ := y
    exact runL tok mixed [35, 89, 71, 72, 65, 73] 300 6 (Good.cons c1 Good.nil) (by kernel_rfl)
  by_cases hy : rvB y = true
  rotate_left
  · rw [show addR x y = (zR, 3) by unfold addR; rw [if_neg (fun h => hy h.2)]]
    replace hy : rvB y = false := by simpa using hy
    rw [hx] at c1; rw [hy] at c2
    clear hx hy
    obtain ⟨xn, xp, xq⟩ := x
    obtain ⟨yn, yp, yq⟩ := y
    exact runL tok mixed [35, 89, 71, 72, 65, 73] 300 6 (Good.cons c1 (Good.cons c2 Good.nil)) (by kernel_rfl)
  rw [hx] at c1; rw [hy] at c2
  have c3 := nat_Mul.c x.p y.q
  have c4 := nat_Mul.c y.p x.q
  have c5 := nat_Mul.c x.q y.q
  obtain ⟨x1, x2, x3, _⟩ := rvB_iff.1 hx
  obtain ⟨y1, y2, y3, _⟩ := rvB_iff.1 hy
  have hq := Int.mul_pos (q_pos hx) (q_pos hy)
  have hu : addR x y = if (mulS x.p y.q).2 = 0 ∧ (mulS y.p x.q).2 = 0 ∧ (mulS x.q y.q).2 = 0 ∧ (plusS x.neg (mulS x.p y.q).1 y.neg (mulS y.p x.q).1).2.2 = 0 then (redS (plusS x.neg (mulS x.p y.q).1 y.neg (mulS y.p x.q).1).1 (plusS x.neg (mulS x.p y.q).1 y.neg (mulS y.p x.q).1).2.1 (mulS x.q y.q).1, 0) else (zR, 2) := by
    unfold addR; rw [if_pos ⟨hx, hy⟩]
  rw [hu]
  clear hu
  rcases mulS_cases x1 y2 with ⟨m, e1, m1, m2⟩ | e1
  rotate_left
  · rw [e1] at c3 ⊢
    rw [if_neg (by simp)]
    clear hx hy x1 x2 x3 y1 y2 y3 e1
    obtain ⟨xn, xp, xq⟩ := x; obtain ⟨yn, yp, yq⟩ := y
    exact runL tok mixed [35, 89, 71, 72, 65, 73] 300 6 (Good.cons c1 (Good.cons c2 (Good.cons c3 Good.nil))) (by kernel_rfl)
  rw [e1] at c3 ⊢
  rcases mulS_cases y1 x2 with ⟨k, e2, k1, k2⟩ | e2
  rotate_left
  · rw [e2] at c4 ⊢
    rw [if_neg (by simp)]
    clear hx hy x1 x2 x3 y1 y2 y3 e1 e2
    obtain ⟨xn, xp, xq⟩ := x; obtain ⟨yn, yp, yq⟩ := y
    exact runL tok mixed [35, 89, 71, 72, 65, 73] 300 6 (Good.cons c1 (Good.cons c2 (Good.cons c3 (Good.cons c4 Good.nil)))) (by kernel_rfl)
  rw [e2] at c4 ⊢
  rcases mulS_cases x2 y2 with ⟨l, e3, l1, l2⟩ | e3
  rotate_left
  · rw [e3] at c5 ⊢
    rw [if_neg (by simp)]
    clear hx hy x1 x2 x3 y1 y2 y3 e1 e2 e3
    obtain ⟨xn, xp, xq⟩ := x; obtain ⟨yn, yp, yq⟩ := y
    exact runL tok mixed [35, 89, 71, 72, 65, 73] 300 6 (Good.cons c1 (Good.cons c2 (Good.cons c3 (Good.cons c4 (Good.cons c5 Good.nil))))) (by kernel_rfl)
  rw [e3] at c5 ⊢
  simp only [true_and]
  have hl : l ≠ [] := fun e => by
    subst e
    rw [← l2] at hq; simp [val] at hq
  have c6 := nat_Add.c m k
  have c7 := nat_Cmp.c m k
  rw [show ncmpS m k = (cmpS (val m) (val k), 0) by unfold ncmpS; rw [if_pos ⟨m1, k1⟩]] at c7
  have c8 := nat_Sub.c m k
  have c9 := nat_Sub.c k m
  have hmk : okN m = true ∧ okN k = true := ⟨m1, k1⟩
  have hkm : okN k = true ∧ okN m = true := ⟨k1, m1⟩
  obtain ⟨xn, xp, xq⟩ := x
  obtain ⟨yn, yp, yq⟩ := y
  dsimp only at *
  clear hx hy x1 x2 x3 y1 y2 y3 e1 e2 e3 m2 k2 l2 hq
  have pk := fun (a b : Bool) => plusS_ok (m := a) (n := b) m1 k1
  have same : ∀ b, plusS b m b k = (b, addS m k) := fun b => by unfold plusS; rw [if_pos rfl]
  have add : addS m k = Px.fitS (val m + val k) := by unfold addS; rw [if_pos hmk]
  have red := fun (b : Bool) (s : List Int) (hs : okN s = true) => rat_reduced.c b s l hs l1 hl
  cases xn <;> cases yn
  case false.false =>
    rw [same]
    have p1 := (pk false false).1
    rw [same] at p1
    rcases fitS_cases (val m + val k) with f | f <;> rw [← add] at f
    · rw [f] at c6 p1 ⊢
      have c10 := red false _ p1
      rw [if_pos rfl]
      exact runL tok mixed [35, 89, 71, 72, 65, 73] 300 6 (Good.cons c1 (Good.cons c2 (Good.cons c3 (Good.cons c4 (Good.cons c5 (Good.cons c6 (Good.cons c10 Good.nil))))))) (by kernel_rfl)
    · rw [f] at c6 ⊢
      rw [if_neg (by simp)]
      exact runL tok mixed [35, 89, 71, 72, 65, 73] 300 6 (Good.cons c1 (Good.cons c2 (Good.cons c3 (Good.cons c4 (Good.cons c5 (Good.cons c6 Good.nil)))))) (by kernel_rfl)
  case true.true =>
    rw [same]
    have p1 := (pk true true).1
    rw [same] at p1
    rcases fitS_cases (val m + val k) with f | f <;> rw [← add] at f
    · rw [f] at c6 p1 ⊢
      have c10 := red true _ p1
      rw [if_pos rfl]
      exact runL tok mixed [35, 89, 71, 72, 65, 73] 300 6 (Good.cons c1 (Good.cons c2 (Good.cons c3 (Good.cons c4 (Good.cons c5 (Good.cons c6 (Good.cons c10 Good.nil))))))) (by kernel_rfl)
    · rw [f] at c6 ⊢
      rw [if_neg (by simp)]
      exact runL tok mixed [35, 89, 71, 72, 65, 73] 300 6 (Good.cons c1 (Good.cons c2 (Good.cons c3 (Good.cons c4 (Good.cons c5 (Good.cons c6 Good.nil)))))) (by kernel_rfl)
  case false.true =>
    by_cases hlt : val m < val k
    · have hc : cmpS (val m) (val k) = -1 := by unfold cmpS; rw [if_pos hlt]
      have es : subS k m = (dg (val k - val m), 0) := by unfold subS; rw [if_pos hkm, if_neg (by omega)]
      have ep : plusS false m true k = (true, subS k m) := by unfold plusS; rw [if_neg (by decide), hc, if_pos (by decide)]
      have p1 := (pk false true).1
      rw [ep, es] at p1 ⊢
      rw [es] at c9
      rw [hc] at c7
      have c10 := red true _ p1
      rw [if_pos rfl]
      exact runL tok mixed [35, 89, 71, 72, 65, 73] 300 6 (Good.cons c1 (Good.cons c2 (Good.cons c3 (Good.cons c4 (Good.cons c5 (Good.cons c7 (Good.cons c9 (Good.cons c10 Good.nil)))))))) (by kernel_rfl)
    · have es : subS m k = (dg (val m - val k), 0) := by unfold subS; rw [if_pos hmk, if_neg hlt]
      have hc : cmpS (val m) (val k) = 0 ∨ cmpS (val m) (val k) = 1 := by unfold cmpS; rw [if_neg hlt]; split <;> simp
      have ep : plusS false m true k = (false, subS m k) := by unfold plusS; rw [if_neg (by decide), if_neg (by rcases hc with h | h <;> rw [h] <;> decide)]
      have p1 := (pk false true).1
      rw [ep, es] at p1 ⊢
      rw [es] at c8
      have c10 := red false _ p1
      rw [if_pos rfl]
      rcases hc with hc | hc <;> rw [hc] at c7
      all_goals exact runL tok mixed [35, 89, 71, 72, 65, 73] 300 6 (Good.cons c1 (Good.cons c2 (Good.cons c3 (Good.cons c4 (Good.cons c5 (Good.cons c7 (Good.cons c8 (Good.cons c10 Good.nil)))))))) (by kernel_rfl)
  case true.false =>
    by_cases hlt : val m < val k
    · have hc : cmpS (val m) (val k) = -1 := by unfold cmpS; rw [if_pos hlt]
      have es : subS k m = (dg (val k - val m), 0) := by unfold subS; rw [if_pos hkm, if_neg (by omega)]
      have ep : plusS true m false k = (false, subS k m) := by unfold plusS; rw [if_neg (by decide), hc, if_pos (by decide)]
      have p1 := (pk true false).1
      rw [ep, es] at p1 ⊢
      rw [es] at c9
      rw [hc] at c7
      have c10 := red false _ p1
      rw [if_pos rfl]
      exact runL tok mixed [35, 89, 71, 72, 65, 73] 300 6 (Good.cons c1 (Good.cons c2 (Good.cons c3 (Good.cons c4 (Good.cons c5 (Good.cons c7 (Good.cons c9 (Good.cons c10 Good.nil)))))))) (by kernel_rfl)
    · have es : subS m k = (dg (val m - val k), 0) := by unfold subS; rw [if_pos hmk, if_neg hlt]
      have hc : cmpS (val m) (val k) = 0 ∨ cmpS (val m) (val k) = 1 := by unfold cmpS; rw [if_neg hlt]; split <;> simp
      have ep : plusS true m false k = (true, subS m k) := by unfold plusS; rw [if_neg (by decide), if_neg (by rcases hc with h | h <;> rw [h] <;> decide)]
      have p1 := (pk true false).1
      rw [ep, es] at p1 ⊢
      rw [es] at c8
      have c10 := red true _ p1
      rw [if_pos rfl]
      rcases hc with hc | hc <;> rw [hc] at c7
      all_goals exact runL tok mixed [35, 89, 71, 72, 65, 73] 300 6 (Good.cons c1 (Good.cons c2 (Good.cons c3 (Good.cons c4 (Good.cons c5 (Good.cons c7 (Good.cons c8 (Good.cons c10 Good.nil)))))))) (by kernel_rfl)
theorem rat_Sub.c (x y : Rt) : Sound Try.prog 91 [R x, R y] (.tup [R (subR x y).1, I (subR x y).2]) := by
  have c1 := rat_Valid.c x
  have c2 := rat_Valid.c y
  by_cases hx : rvB x = true
  · rw [hx] at c1
    by_cases hy : rvB y = true
    · rw [hy] at c2
      have c3 := rat_minus.c y (rv_len hy).1 (rv_len hy).2
      have c4 := rat_Add.c x (negR y)
      rw [show subR x y = addR x (negR y) by unfold subR; rw [if_pos ⟨hx, hy⟩]]
      generalize addR x (negR y) = z at *
      generalize negR y = w at *
      clear hx hy
      obtain ⟨xn, xp, xq⟩ := x
      obtain ⟨yn, yp, yq⟩ := y
      exact runL tok mixed [35, 75, 45] 200 6 (Good.cons c1 (Good.cons c2 (Good.cons c3 (Good.cons c4 Good.nil)))) (by kernel_rfl)
    · rw [show subR x y = (zR, 3) by unfold subR; rw [if_neg (fun h => hy h.2)]]
      replace hy : rvB y = false := by simpa using hy
      rw [hy] at c2
      clear hx hy
      obtain ⟨xn, xp, xq⟩ := x
      obtain ⟨yn, yp, yq⟩ := y
      exact runL tok mixed [35, 75, 45] 200 6 (Good.cons c1 (Good.cons c2 Good.nil)) (by kernel_rfl)
  · rw [show subR x y = (zR, 3) by unfold subR; rw [if_neg (fun h => hx h.1)]]
    replace hx : rvB x = false := by simpa using hx
    rw [hx] at c1
    clear hx
    obtain ⟨xn, xp, xq⟩ := x
    obtain ⟨yn, yp, yq⟩ := y
    exact runL tok mixed [35, 75, 45] 200 6 (Good.cons c1 Good.nil) (by kernel_rfl)
end Go.Proofs.Ytiondkijgpjgcaa.Pw
namespace Go.Proofs.Ytiondkijgpjgcaa.Px
open Go.Proofs.Ytiondkijgpjgcaa.Wd Go.Proofs.Ytiondkijgpjgcaa.Mat
set_option linter.unusedVariables false
theorem add_eq {x y z : Rt} (h : addR x y = (z, 0)) : nn z * (dd x * dd y) = (nn x * dd y + nn y * dd x) * dd z := (addR_ok h).elim (fun h => h.2.2.2.2) (fun h => absurd rfl h.1)
theorem sub_eq {x y z : Rt} (h : subR x y = (z, 0)) : nn z * (dd x * dd y) = (nn x * dd y - nn y * dd x) * dd z := (subR_ok h).elim (fun h => h.2.2.2.2) (fun h => absurd rfl h.1)
theorem mul_eq {x y z : Rt} (h : mulR x y = (z, 0)) : nn z * (dd x * dd y) = nn x * nn y * dd z := (mulR_ok h).elim (fun h => h.2.2.2.2) (fun h => absurd rfl h.1)
theorem dpos {x : Rt} {a b : Nat} (h : bd x a b) : 0 < dd x := (rv_facts h.1).1
theorem cancel {a b k : Int} (hk : 0 < k) (h : a * k = b * k) : a = b := Int.eq_of_mul_eq_mul_right (show k ≠ 0 by omega) h
/-- A step: white water afterwards. -/
theorem done_val {f r c : Int} {x : Rt} (hc : checkS f r c = 0) (hx : bd x 3 3) : ∃ w, (doneR f r c x).2.2 = w ∧ bd w 13 10 ∧ nn w * (1000000 * dd x) = (f * dd x + nn x) * ((1000 - r) * c) * dd w := by
  obtain ⟨⟨f1, f2⟩, ⟨r1, r2⟩, c1, c2⟩ := checkS_zero hc
  have p1 : pw 1 = 1000000000 := pw_one
  have p2 : pw 2 = 1000000000000000000 := pw_two
  obtain ⟨F, hF, bF, vF⟩ := make_bd (p := f) (q := 1) (a := 2) (b := 1) f1 f2 (by decide) (by decide) (by omega) (by omega)
  obtain ⟨u, hu, bu, vu⟩ := make_bd (p := r) (q := 1000) (a := 1) (b := 1) (by omega) (by omega) (by decide) (by decide) (by omega) (by omega)
  obtain ⟨v, hv, bv, vv⟩ := make_bd (p := c) (q := 1000) (a := 1) (b := 1) (by omega) (by omega) (by decide) (by decide) (by omega) (by omega)
  obtain ⟨h, hh, bh⟩ := add_bd 6 bF hx (by decide) (by decide) (by decide) (by decide)
  obtain ⟨a, ha, ba⟩ := mul_bd bh bu (by decide) (by decide)
  obtain ⟨rs, hrs, brs⟩ := sub_bd 12 bh ba (by decide) (by decide) (by decide) (by decide)
  obtain ⟨w, hw, bw⟩ := mul_bd brs bv (by decide) (by decide)
  refine ⟨w, ?_, bw, ?_⟩
  · unfold doneR timesR
    simp only [hF, hu, hv, hh, ha, hrs, hw]
  have e1 := add_eq hh
  have e2 := mul_eq ha
  have e3 := sub_eq hrs
  have e4 := mul_eq hw
  have dF := dpos bF; have du := dpos bu; have dv := dpos bv; have dh := dpos bh; have da := dpos ba; have dr := dpos brs; have dw := dpos bw; have dx := dpos hx
  rw [Int.mul_one] at vF
  -- the head
  have h1 : nn h * dd x = (f * dd x + nn x) * dd h := by
    refine cancel dF ?_
    rw [vF] at e1
    grind
  -- the paper: a thousandth times r
  have h2 : nn a * (1000 * dd h) = r * nn h * dd a := by
    refine cancel du ?_
    grind
  -- the rest
  have h3 : nn rs * (1000 * dd h) = (1000 - r) * nn h * dd rs := by
    refine cancel da ?_
    grind
  have h4 : nn w * (1000 * dd rs) = c * nn rs * dd w := by
    refine cancel dv ?_
    grind
  have h5 : nn w * (1000000 * dd h) = (1000 - r) * c * nn h * dd w := by
    refine cancel dr ?_
    grind
  refine cancel dh ?_
  grind
theorem steady_facts {f r c : Int} (hc : checkS f r c = 0) : ∃ s, timesR (makeS f 1).1 ((1000 - r) * c) (1000000 - (1000 - r) * c) = s ∧ bd s 3 2 ∧ s.neg = false ∧ nn s * (1000000 - (1000 - r) * c) = f * ((1000 - r) * c) * dd s := by
  obtain ⟨⟨f1, f2⟩, ⟨r1, r2⟩, c1, c2⟩ := checkS_zero hc
  have p1 : pw 1 = 1000000000 := pw_one
  have p2 : pw 2 = 1000000000000000000 := pw_two
  have k0 : 0 ≤ (1000 - r) * c := Int.mul_nonneg (by omega) c1
  have k1 : (1000 - r) * c ≤ 998001 := by
    have h1 : (1000 - r) * c ≤ 999 * c := Int.mul_le_mul_of_nonneg_right (by omega) c1
    omega
  generalize (1000 - r) * c = k at *
  obtain ⟨F, hF, bF, vF⟩ := make_bd (p := f) (q := 1) (a := 2) (b := 1) f1 f2 (by decide) (by decide) (by omega) (by omega)
  obtain ⟨t, ht, bt, vt⟩ := make_bd (p := k) (q := 1000000 - k) (a := 1) (b := 1) k0 (by omega) (by omega) (by omega) (by omega) (by omega)
  obtain ⟨s, hs, bs⟩ := mul_bd bF bt (by decide) (by decide)
  refine ⟨s, by unfold timesR; rw [hF, ht, hs], bs, ?_, ?_⟩
  · have := timesR_neg (x := (makeS f 1).1) (n := k) (m := 1000000 - k) (makeS_neg f1 (by decide)) k0 (by omega)
    unfold timesR at this
    rwa [hF, ht, hs] at this
  · have e := mul_eq hs
    rw [Int.mul_one] at vF
    have dF := dpos bF; have dt := dpos bt
    refine cancel dF (cancel dt ?_)
    rw [vF] at e
    grind
theorem white_bd {x : Rt} {a b : Nat} (h : bd x a b) (ha : a ≤ 8) (hb : b ≤ 8) (hn : x.neg = false) : whiteS x = 0 := by
  obtain ⟨x1, x2, _⟩ := rvB_iff.1 h.1
  have l1 := (len_le (okN_iff.1 x1).2).2 h.2.1
  have l2 := (len_le (okN_iff.1 x2).2).2 h.2.2
  unfold whiteS
  rw [if_pos h.1, if_neg (by simp [hn]), if_neg (by omega)]
theorem bd_mono {x : Rt} {a b a' b' : Nat} (h : bd x a b) (ha : a ≤ a') (hb : b ≤ b') : bd x a' b' := by
  have := pwle ha
  have := pwle hb
  exact ⟨h.1, by have := h.2.1; omega, by have := h.2.2; omega⟩
/-- The steady state is left as it is; its paper and sewer are the fresh fibre. -/
theorem steady_step {f r c : Int} {s : Rt} (hc : checkS f r c = 0) (bs : bd s 3 2) (vs : nn s * (1000000 - (1000 - r) * c) = f * ((1000 - r) * c) * dd s) : ∃ a b, doneR f r c s = (a, b, s) ∧ rvB a = true ∧ rvB b = true ∧ addR a b = ((makeS f 1).1, 0) := by
  have b3 := bd_mono bs (Nat.le_refl 3) (show 2 ≤ 3 by decide)
  obtain ⟨a, b, w, s', t, ed, va, vb, vw, e1, e2, e3⟩ := balance hc b3
  obtain ⟨w', hw, bw, ew⟩ := done_val hc b3
  rw [ed] at hw
  dsimp only at hw
  subst hw
  have ds := dpos bs
  have dw := dpos bw
  have ws : w = s := by
    refine canon vw bs.1 ?_
    refine cancel (show (0 : Int) < 1000000 by decide) (cancel ds ?_)
    grind
  subst ws
  obtain ⟨⟨f1, f2⟩, _⟩ := checkS_zero hc
  have p2 : pw 2 = 1000000000000000000 := pw_two
  have p1 : pw 1 = 1000000000 := pw_one
  obtain ⟨F, hF, bF, vF⟩ := make_bd (p := f) (q := 1) (a := 2) (b := 1) f1 f2 (by decide) (by decide) (by omega) (by omega)
  rw [hF] at e3 ⊢
  have q2 := add_eq e2
  have q3 := add_eq e3
  have vs' : rvB s' = true := (addR_ok e1).elim (fun h => h.2.2.2.1) (fun h => absurd rfl h.1)
  have vt : rvB t = true := (addR_ok e2).elim (fun h => h.2.2.2.1) (fun h => absurd rfl h.1)
  have ds' := (rv_facts vs').1
  have dt := (rv_facts vt).1
  have dF := dpos bF
  have : s' = F := by
    refine canon vs' bF.1 ?_
    refine cancel ds (cancel ds (cancel dt ?_))
    grind
  subst this
  exact ⟨a, b, ed, va, vb, e1⟩
theorem alg1 {Np Dd DK Nd NK Dp k : Int} (hK : 0 < DK) (vK : NK * 1000000 = k * DK) (e2 : Np * (Dd * DK) = Nd * NK * Dp) : Np * (1000000 * Dd) = k * Nd * Dp := by
  refine cancel hK ?_
  grind
theorem alg2 {Np Dd Nd Dp k Dx Ds M : Int} (hd : 0 < Dd) (g : Np * (1000000 * Dd) = k * Nd * Dp) (e1 : Nd * (Dx * Ds) = M * Dd) : Np * (1000000 * (Dx * Ds)) = k * M * Dp := by
  refine cancel hd ?_
  grind
theorem alg3 {Nq Dw Ds Nw Ns Dq k Dx Nx F : Int} (hw : 0 < Dw) (vs : Ns * (1000000 - k) = F * k * Ds) (ew : Nw * (1000000 * Dx) = (F * Dx + Nx) * k * Dw) (e3 : Nq * (Dw * Ds) = (Nw * Ds - Ns * Dw) * Dq) : Nq * (1000000 * (Dx * Ds)) = k * (Nx * Ds - Ns * Dx) * Dq := by
  refine cancel hw ?_
  have h1 : Nq * (1000000 * (Dx * Ds)) * Dw = (Nw * Ds - Ns * Dw) * Dq * (1000000 * Dx) := by grind
  have h2 : (Nw * Ds - Ns * Dw) * (1000000 * Dx) = k * (Nx * Ds - Ns * Dx) * Dw := by grind
  grind
theorem alg4 {P Q A B M X : Int} (hX : 0 < X) (h1 : P * (1000000 * X) = M * A) (h2 : Q * (1000000 * X) = M * B) : P * B = Q * A := by
  refine cancel (show (0 : Int) < 1000000 by decide) (cancel hX ?_)
  grind
/-- The distance to the steady state is multiplied by one factor. -/
theorem steady_dist {f r c : Int} {s x : Rt} (hc : checkS f r c = 0) (bs : bd s 3 2) (vs : nn s * (1000000 - (1000 - r) * c) = f * ((1000 - r) * c) * dd s) (hx : bd x 3 3) :
    ∃ w, (doneR f r c x).2.2 = w ∧ rvB w = true ∧ (mulR (subR x s).1 (makeS ((1000 - r) * c) 1000000).1).1 = (subR w s).1 := by
  obtain ⟨w, hw, bw, ew⟩ := done_val hc hx
  obtain ⟨_, ⟨r1, r2⟩, c1, c2⟩ := checkS_zero hc
  have p1 : pw 1 = 1000000000 := pw_one
  have k0 : 0 ≤ (1000 - r) * c := Int.mul_nonneg (by omega) c1
  have k1 : (1000 - r) * c ≤ 998001 := by
    have h1 : (1000 - r) * c ≤ 999 * c := Int.mul_le_mul_of_nonneg_right (by omega) c1
    omega
  refine ⟨w, hw, bw.1, ?_⟩
  generalize (1000 - r) * c = k at *
  obtain ⟨K, hK, bK, vK⟩ := make_bd (p := k) (q := 1000000) (a := 1) (b := 1) k0 (by omega) (by decide) (by decide) (by omega) (by omega)
  obtain ⟨d, hd, bd'⟩ := sub_bd 7 hx bs (by decide) (by decide) (by decide) (by decide)
  obtain ⟨p, hp, bp⟩ := mul_bd bd' bK (by decide) (by decide)
  obtain ⟨q, hq, bq⟩ := sub_bd 16 bw bs (by decide) (by decide) (by decide) (by decide)
  rw [hd, hK, hp, hq]
  have ds := dpos bs; have dw := dpos bw; have dx := dpos hx; have dK := dpos bK; have dd' := dpos bd'
  have e1 := sub_eq hd
  have e2 := mul_eq hp
  have e3 := sub_eq hq
  have g1 := alg1 dK vK e2
  have g2 := alg2 dd' g1 e1
  have g3 := alg3 dw vs ew e3
  exact canon bp.1 bq.1 (alg4 (Int.mul_pos dx ds) g2 g3)
end Go.Proofs.Ytiondkijgpjgcaa.Px
namespace Go.Proofs.Ytiondkijgpjgcaa.Px
open Mat Wd
def scmp (m n : Bool) (c : Int) : Int := if m = true ∧ n = false then -1 else if n = true ∧ m = false then 1 else if m = true then -c else c
def cmpR (x y : Rt) : Int × Int := if rvB x = true ∧ rvB y = true then (if (mulS x.p y.q).2 = 0 ∧ (mulS y.p x.q).2 = 0 then (scmp x.neg y.neg (cmpS (val x.p * val y.q) (val y.p * val x.q)), 0) else (0, 2)) else (0, 3)
def flipR (y : Rt) : Rt := ⟨y.neg, y.q, y.p⟩
def divR (x y : Rt) : Rt × Int := if rvB x = true ∧ rvB y = true then (if y.p = [] then (zR, 16) else mulR x (flipR y)) else (zR, 3)
def wholeS (x : Rt) (cnt : Bool) : Int × Int :=
  if rvB x = true then (if 1125899906842624 < val x.p / val x.q then (0, 2) else
    (if cnt = true ∧ val x.p % val x.q ≠ 0 then (if 1125899906842624 < val x.p / val x.q + 1 then (0, 2) else (if x.neg = true then -(val x.p / val x.q + 1) else val x.p / val x.q + 1, 0)) else (if x.neg = true then -(val x.p / val x.q) else val x.p / val x.q, 0))) else (0, 3)
theorem cmpS_cases (a b : Int) : cmpS a b = -1 ∨ cmpS a b = 0 ∨ cmpS a b = 1 := by unfold cmpS; split <;> (try split) <;> simp
theorem cmpS_anti (a b : Int) : cmpS a b = -(cmpS b a) := by unfold cmpS; split <;> split <;> (try split) <;> (try split) <;> omega
theorem mulS_comm (a b : List Int) : mulS a b = mulS b a := by unfold mulS; rw [Int.mul_comm]; simp only [and_comm]
theorem addS_comm (a b : List Int) : addS a b = addS b a := by unfold addS; rw [Int.add_comm]; simp only [and_comm]
theorem redS_nil (m n : Bool) (q : List Int) : redS m [] q = redS n [] q := by
  unfold redS
  have e : dg (val [] / gcdI (val []) (val q)) = [] := by rw [show val [] = 0 from rfl, Int.zero_ediv, dg_zero]
  rw [e]; simp
theorem mulR_comm (x y : Rt) : mulR x y = mulR y x := by
  unfold mulR
  rw [mulS_comm x.p y.p, mulS_comm x.q y.q, show (x.neg == y.neg) = (y.neg == x.neg) by cases x.neg <;> cases y.neg <;> rfl]
  simp only [and_comm]
theorem plusS_ne {m n : Bool} {a b : List Int} (h : m ≠ n) : plusS m a n b = if cmpS (val a) (val b) < 0 then (n, subS b a) else (m, subS a b) := by unfold plusS; rw [if_neg h]
theorem plus_swap {m n : Bool} {a b : List Int} (ha : okN a = true) (hb : okN b = true) : (plusS m a n b).2 = (plusS n b m a).2 ∧ ((plusS m a n b).1 = (plusS n b m a).1 ∨ (plusS m a n b).2.1 = []) := by
  by_cases h : m = n
  · subst h
    have e : plusS m a m b = plusS m b m a := by unfold plusS; rw [if_pos rfl, if_pos rfl, addS_comm]
    rw [e]
    exact ⟨rfl, .inl rfl⟩
  · rw [plusS_ne h, plusS_ne (fun e => h e.symm)]
    by_cases h1 : val a < val b
    · have e1 : cmpS (val a) (val b) = -1 := by unfold cmpS; rw [if_pos h1]
      have e2 : cmpS (val b) (val a) = 1 := by unfold cmpS; rw [if_neg (by omega), if_pos (by omega)]
      rw [e1, e2]
      exact ⟨rfl, .inl rfl⟩
    · by_cases h2 : val b < val a
      · have e1 : cmpS (val a) (val b) = 1 := by unfold cmpS; rw [if_neg (by omega), if_pos (by omega)]
        have e2 : cmpS (val b) (val a) = -1 := by unfold cmpS; rw [if_pos h2]
        rw [e1, e2]
        exact ⟨rfl, .inl rfl⟩
      · have e0 : val a = val b := by omega
        have e1 : cmpS (val a) (val b) = 0 := by unfold cmpS; rw [if_neg (by omega), if_neg (by omega)]
        have e2 : cmpS (val b) (val a) = 0 := by unfold cmpS; rw [if_neg (by omega), if_neg (by omega)]
        rw [e1, e2]
        have s1 : subS a b = ([], 0) := by unfold subS; rw [if_pos ⟨ha, hb⟩, if_neg (by omega), e0, Int.sub_self, dg_zero]
        have s2 : subS b a = ([], 0) := by unfold subS; rw [if_pos ⟨hb, ha⟩, if_neg (by omega), e0, Int.sub_self, dg_zero]
        rw [s1, s2]
        exact ⟨rfl, .inr rfl⟩
theorem mul_okN {a b : List Int} (ha : okN a = true) (hb : okN b = true) (h : (mulS a b).2 = 0) : okN (mulS a b).1 = true := by
  rw [mulS_ok ha hb] at h ⊢
  exact (fitS_ok (Int.mul_nonneg (okN_iff.1 ha).nonneg (okN_iff.1 hb).nonneg)).1
theorem addR_v {x y : Rt} (hx : rvB x = true) (hy : rvB y = true) : addR x y = if (mulS x.p y.q).2 = 0 ∧ (mulS y.p x.q).2 = 0 ∧ (mulS x.q y.q).2 = 0 ∧ (plusS x.neg (mulS x.p y.q).1 y.neg (mulS y.p x.q).1).2.2 = 0 then (redS (plusS x.neg (mulS x.p y.q).1 y.neg (mulS y.p x.q).1).1 (plusS x.neg (mulS x.p y.q).1 y.neg (mulS y.p x.q).1).2.1 (mulS x.q y.q).1, 0) else (zR, 2) := by
  unfold addR; rw [if_pos ⟨hx, hy⟩]
theorem addR_i {x y : Rt} (h : ¬ (rvB x = true ∧ rvB y = true)) : addR x y = (zR, 3) := by unfold addR; rw [if_neg h]
theorem addR_comm (x y : Rt) : addR x y = addR y x := by
  by_cases h : rvB x = true ∧ rvB y = true
  · obtain ⟨hx, hy⟩ := h
    obtain ⟨x1, x2, _⟩ := rvB_iff.1 hx
    obtain ⟨y1, y2, _⟩ := rvB_iff.1 hy
    rw [addR_v hx hy, addR_v hy hx, mulS_comm y.q x.q]
    by_cases e1 : (mulS x.p y.q).2 = 0
    · by_cases e2 : (mulS y.p x.q).2 = 0
      · have o1 := mul_okN x1 y2 e1
        have o2 := mul_okN y1 x2 e2
        obtain ⟨p1, p2⟩ := plus_swap (m := x.neg) (n := y.neg) o1 o2
        rw [← p1]
        by_cases e3 : (mulS x.q y.q).2 = 0 ∧ (plusS x.neg (mulS x.p y.q).1 y.neg (mulS y.p x.q).1).2.2 = 0
        · rw [if_pos ⟨e1, e2, e3⟩, if_pos ⟨e2, e1, e3⟩]
          rcases p2 with p2 | p2
          · rw [p2]
          · rw [p2, redS_nil _ (plusS y.neg (mulS y.p x.q).1 x.neg (mulS x.p y.q).1).1]
        · rw [if_neg (fun h => e3 h.2.2), if_neg (fun h => e3 h.2.2)]
      · rw [if_neg (fun h => e2 h.2.1), if_neg (fun h => e2 h.1)]
    · rw [if_neg (fun h => e1 h.1), if_neg (fun h => e1 h.2.1)]
  · rw [addR_i h, addR_i (fun k => h k.symm)]
theorem add_facts {x y z : Rt} (h : addR x y = (z, 0)) : rvB x = true ∧ rvB y = true ∧ rvB z = true ∧ nn z * (dd x * dd y) = (nn x * dd y + nn y * dd x) * dd z := (addR_ok h).elim (fun h => ⟨h.2.1, h.2.2.1, h.2.2.2.1, h.2.2.2.2⟩) (fun h => absurd rfl h.1)
theorem sub_facts {x y z : Rt} (h : subR x y = (z, 0)) : rvB x = true ∧ rvB y = true ∧ rvB z = true ∧ nn z * (dd x * dd y) = (nn x * dd y - nn y * dd x) * dd z := (subR_ok h).elim (fun h => ⟨h.2.1, h.2.2.1, h.2.2.2.1, h.2.2.2.2⟩) (fun h => absurd rfl h.1)
theorem mul_facts {x y z : Rt} (h : mulR x y = (z, 0)) : rvB x = true ∧ rvB y = true ∧ rvB z = true ∧ nn z * (dd x * dd y) = nn x * nn y * dd z := (mulR_ok h).elim (fun h => ⟨h.2.1, h.2.2.1, h.2.2.2.1, h.2.2.2.2⟩) (fun h => absurd rfl h.1)
theorem add_sub {a b s x : Rt} (h1 : addR a b = (s, 0)) (h2 : subR s b = (x, 0)) : x = a := by
  obtain ⟨va, vb, vs, e1⟩ := add_facts h1
  obtain ⟨_, _, vx, e2⟩ := sub_facts h2
  refine canon vx va ?_
  have dB := (rv_facts vb).1
  have dS := (rv_facts vs).1
  have hk : 0 < dd s * dd b := Int.mul_pos dS dB
  refine cancel hk ?_
  generalize nn x = X at *; generalize nn a = a' at *; generalize nn b = b' at *; generalize nn s = s' at *
  generalize dd x = DX at *; generalize dd a = A at *; generalize dd b = B at *; generalize dd s = S at *
  clear h1 h2 va vb vs vx dB dS hk
  grind
theorem mul_div {a b p x : Rt} (h1 : mulR a b = (p, 0)) (h2 : divR p b = (x, 0)) : x = a := by
  obtain ⟨va, vb, vp, e1⟩ := mul_facts h1
  have hb : b.p ≠ [] := fun e => by
    unfold divR at h2
    rw [if_pos ⟨vp, vb⟩, if_pos e] at h2
    injection h2 with _ h2; cases h2
  unfold divR at h2
  rw [if_pos ⟨vp, vb⟩, if_neg hb] at h2
  obtain ⟨_, vf, vx, e2⟩ := mul_facts h2
  refine canon vx va ?_
  have dB := (rv_facts vb).1
  have dP := (rv_facts vp).1
  have dF := (rv_facts vf).1
  have n1 : dd (flipR b) = val b.p := rfl
  have n2 : nn (flipR b) = if b.neg = true then -(dd b) else dd b := rfl
  have n3 : nn b = if b.neg = true then -(val b.p) else val b.p := rfl
  rw [n1] at e2 dF
  rw [n2] at e2
  rw [n3] at e1
  have hk : 0 < dd p * val b.p * dd b := Int.mul_pos (Int.mul_pos dP dF) dB
  refine cancel hk ?_
  generalize nn x = X at *; generalize nn a = a' at *; generalize val b.p = b' at *; generalize nn p = p' at *
  generalize dd x = DX at *; generalize dd a = A at *; generalize dd b = B at *; generalize dd p = P at *
  clear h1 h2 va vb vp vx vf dB dP dF hk n1 n2 n3 hb
  generalize b.neg = sg at *
  cases sg <;> simp only [if_true, if_false, Bool.false_eq_true, reduceIte] at e1 e2 <;> grind
theorem sub_self {a x : Rt} (h : subR a a = (x, 0)) : x = ⟨false, [], [1]⟩ := by
  obtain ⟨va, _, vx, e⟩ := sub_facts h
  refine canon vx (by decide) ?_
  have dA := (rv_facts va).1
  rw [Int.sub_self, Int.zero_mul] at e
  have hk : 0 < dd a * dd a := Int.mul_pos dA dA
  have h0 : nn x = 0 := by
    rcases Int.mul_eq_zero.1 e with h | h
    · exact h
    · omega
  rw [h0, Int.zero_mul, show nn ⟨false, [], [1]⟩ = 0 by decide, Int.zero_mul]
theorem distrib {a b c u v w p y : Rt} (h1 : addR b c = (u, 0)) (h2 : mulR a u = (v, 0)) (h3 : mulR a c = (w, 0)) (h4 : mulR a b = (p, 0)) (h5 : addR p w = (y, 0)) : v = y := by
  obtain ⟨vb, vc, vu, e1⟩ := add_facts h1
  obtain ⟨va, _, vv, e2⟩ := mul_facts h2
  obtain ⟨_, _, vw, e3⟩ := mul_facts h3
  obtain ⟨_, _, vp, e4⟩ := mul_facts h4
  obtain ⟨_, _, vy, e5⟩ := add_facts h5
  refine canon vv vy ?_
  have dA := (rv_facts va).1
  have dB := (rv_facts vb).1
  have dC := (rv_facts vc).1
  have dU := (rv_facts vu).1
  have dP := (rv_facts vp).1
  have dW := (rv_facts vw).1
  have g1 : nn v * (dd a * (dd b * dd c)) = nn a * (nn b * dd c + nn c * dd b) * dd v := by
    refine cancel dU ?_
    generalize nn v = V at *; generalize nn a = a' at *; generalize nn b = b' at *; generalize nn c = c' at *; generalize nn u = u' at *
    generalize dd v = DV at *; generalize dd a = A at *; generalize dd b = B at *; generalize dd c = C at *; generalize dd u = U at *
    clear h1 h2 h3 h4 h5 e3 e4 e5 vb vc vu va vv vw vp vy dA dB dC dU dP dW
    grind
  have g2 : nn y * (dd a * (dd b * dd c)) = nn a * (nn b * dd c + nn c * dd b) * dd y := by
    have hk : 0 < dd p * dd w * dd a := Int.mul_pos (Int.mul_pos dP dW) dA
    refine cancel hk ?_
    generalize nn y = Y at *; generalize nn a = a' at *; generalize nn b = b' at *; generalize nn c = c' at *; generalize nn p = p' at *; generalize nn w = w' at *
    generalize dd y = DY at *; generalize dd a = A at *; generalize dd b = B at *; generalize dd c = C at *; generalize dd p = P at *; generalize dd w = W at *
    clear h1 h2 h3 h4 h5 e1 e2 g1 vb vc vu va vv vw vp vy dA dB dC dU dP dW hk
    grind
  have hk : 0 < dd a * (dd b * dd c) := Int.mul_pos dA (Int.mul_pos dB dC)
  refine cancel hk ?_
  generalize dd a * (dd b * dd c) = K at *
  generalize nn a * (nn b * dd c + nn c * dd b) = M at *
  generalize nn v = V at *; generalize nn y = Y at *; generalize dd v = DV at *; generalize dd y = DY at *
  clear h1 h2 h3 h4 h5 e1 e2 e3 e4 e5 vb vc vu va vv vw vp vy dA dB dC dU dP dW hk
  grind
/-- The sign of a comparison is that of the values. -/
theorem cmp_val {x y : Rt} {m : Int} (h : cmpR x y = (m, 0)) : rvB x = true ∧ rvB y = true ∧ m = cmpS (nn x * dd y) (nn y * dd x) := by
  unfold cmpR at h
  by_cases hv : rvB x = true ∧ rvB y = true
  · obtain ⟨hx, hy⟩ := hv
    rw [if_pos ⟨hx, hy⟩] at h
    split at h
    · refine ⟨hx, hy, ?_⟩
      injection h with h _
      rw [← h]
      obtain ⟨x1, x2, x3, _⟩ := rv_facts hx
      obtain ⟨y1, y2, y3, _⟩ := rv_facts hy
      unfold nn
      have k1 : 0 ≤ val x.p * dd y := Int.mul_nonneg x2 (Int.le_of_lt y1)
      have k2 : 0 ≤ val y.p * dd x := Int.mul_nonneg y2 (Int.le_of_lt x1)
      have k3 : x.neg = true → 0 < val x.p * dd y := fun h => Int.mul_pos (x3 h) y1
      have k4 : y.neg = true → 0 < val y.p * dd x := fun h => Int.mul_pos (y3 h) x1
      rw [show val y.q = dd y from rfl, show val x.q = dd x from rfl]
      unfold scmp
      cases hn : x.neg <;> cases hm : y.neg <;> simp only [if_true, if_false, Bool.false_eq_true, reduceIte, true_and, and_true, and_false, false_and, reduceCtorEq, Int.neg_mul]
      · have := k4 hm
        unfold cmpS; rw [if_neg (by omega), if_pos (by omega)]
      · have := k3 hn
        unfold cmpS; rw [if_pos (by omega)]
      · unfold cmpS
        generalize val x.p * dd y = A at *
        generalize val y.p * dd x = B at *
        split <;> split <;> (try split) <;> (try split) <;> omega
    · injection h with _ h; cases h
  · rw [if_neg hv] at h
    injection h with _ h; cases h
theorem cmp_swap (x y : Rt) : cmpR y x = (-(cmpR x y).1, (cmpR x y).2) := by
  unfold cmpR
  by_cases hv : rvB x = true ∧ rvB y = true
  · rw [if_pos hv, if_pos hv.symm]
    by_cases h : (mulS x.p y.q).2 = 0 ∧ (mulS y.p x.q).2 = 0
    · rw [if_pos h, if_pos h.symm, cmpS_anti (val y.p * val x.q)]
      unfold scmp
      cases x.neg <;> cases y.neg <;> simp
    · rw [if_neg h, if_neg (fun k => h k.symm)]; rfl
  · rw [if_neg hv, if_neg (fun k => hv k.symm)]; rfl
def sgnR (d : Rt) : Int := if d.p = [] then 0 else if d.neg = true then -1 else 1
theorem sgn_val {d : Rt} (h : rvB d = true) : sgnR d = cmpS (nn d) 0 := by
  obtain ⟨h1, h2, h3, _, h5, _⟩ := rv_facts h
  unfold sgnR
  by_cases hp : d.p = []
  · rw [if_pos hp]
    have hv : val d.p = 0 := by rw [hp]; rfl
    have hn : d.neg ≠ true := fun e => by have := h3 e; omega
    unfold nn; rw [if_neg hn, hv]; rfl
  · rw [if_neg hp]
    have hv : val d.p ≠ 0 := fun e => hp (by rw [← h5, e, dg_zero])
    unfold nn
    split
    · unfold cmpS; rw [if_pos (by omega)]
    · unfold cmpS; rw [if_neg (by omega), if_pos (by omega)]
theorem cmp_sub {x y d : Rt} {m : Int} (h1 : cmpR x y = (m, 0)) (h2 : subR x y = (d, 0)) : m = sgnR d := by
  obtain ⟨hx, hy, e1⟩ := cmp_val h1
  obtain ⟨_, _, hd, e2⟩ := sub_facts h2
  rw [sgn_val hd, e1]
  have k1 := (rv_facts hd).1
  have k2 : 0 < dd x * dd y := Int.mul_pos (rv_facts hx).1 (rv_facts hy).1
  generalize nn x * dd y = A at *
  generalize nn y * dd x = B at *
  generalize dd x * dd y = K at *
  generalize nn d = D at *
  generalize dd d = E at *
  clear h1 h2 hx hy hd e1
  unfold cmpS
  by_cases c1 : A < B
  · rw [if_pos c1, if_pos]
    have h1 : (A - B) * E < 0 := Int.mul_neg_of_neg_of_pos (by omega) k1
    rw [← e2] at h1
    exact Int.not_le.1 fun h => by have := Int.mul_nonneg h (Int.le_of_lt k2); omega
  · rw [if_neg c1]
    by_cases c2 : A > B
    · rw [if_pos c2]
      have h1 : 0 < (A - B) * E := Int.mul_pos (by omega) k1
      rw [← e2] at h1
      have h2 : 0 < D := Int.not_le.1 fun h => by have := Int.mul_nonneg_of_nonpos_of_nonpos h (show -K ≤ 0 by omega); rw [Int.mul_neg] at this; omega
      rw [if_neg (by omega), if_pos h2]
    · rw [if_neg c2]
      have h0 : A - B = 0 := by omega
      rw [h0, Int.zero_mul] at e2
      have h2 : D = 0 := by rcases Int.mul_eq_zero.1 e2 with h | h; exact h; omega
      rw [h2, if_neg (by omega), if_neg (by omega)]
end Go.Proofs.Ytiondkijgpjgcaa.Px
namespace Go.Proofs.Ytiondkijgpjgcaa.Pw
open Go Wd Px Mat
set_option linter.unusedVariables false
set_option linter.unusedSimpArgs false
set_option maxRecDepth 100000
set_option maxHeartbeats 8000000
attribute [local irreducible] Int.tmod Int.tdiv
theorem rat_Cmp.c (x y : Rt) : Sound Try.prog 37 [R x, R y] (.tup [I (cmpR x y).1, I (cmpR x y).2]) := by
  have c1 := rat_Valid.c x
  have c2 := rat_Valid.c y
  by_cases hx : rvB x = true
  rotate_left
  · rw [show cmpR x y = (0, 3) by unfold cmpR; rw [if_neg (fun h => hx h.1)]]
    replace hx : rvB x = false := by simpa using hx
    rw [hx] at c1
    clear hx
    obtain ⟨xn, xp, xq⟩ := x
    obtain ⟨yn, yp, yq⟩ := y
    exact runO tok mixed [35] 300 6 (Obs.cons c1 Obs.nil) (by kernel_rfl)
  by_cases hy : rvB y = true
  rotate_left
  · rw [show cmpR x y = (0, 3) by unfold cmpR; rw [if_neg (fun h => hy h.2)]]
    replace hy : rvB y = false := by simpa using hy
    rw [hx] at c1; rw [hy] at c2
    clear hx hy
    obtain ⟨xn, xp, xq⟩ := x
    obtain ⟨yn, yp, yq⟩ := y
    exact runO tok mixed [35] 300 6 (Obs.cons c1 (Obs.cons c2 Obs.nil)) (by kernel_rfl)
  rw [hx] at c1; rw [hy] at c2
  have c3 := nat_Mul.c x.p y.q
  have c4 := nat_Mul.c y.p x.q
  obtain ⟨x1, x2, x3, _⟩ := rvB_iff.1 hx
  obtain ⟨y1, y2, y3, _⟩ := rvB_iff.1 hy
  have hu : cmpR x y = if (mulS x.p y.q).2 = 0 ∧ (mulS y.p x.q).2 = 0 then (scmp x.neg y.neg (cmpS (val x.p * val y.q) (val y.p * val x.q)), 0) else (0, 2) := by unfold cmpR; rw [if_pos ⟨hx, hy⟩]
  rw [hu]
  clear hu
  rcases mulS_cases x1 y2 with ⟨m, e1, m1, m2⟩ | e1
  rotate_left
  · rw [e1] at c3 ⊢
    rw [if_neg (by simp)]
    clear hx hy x1 x2 x3 y1 y2 y3 e1
    obtain ⟨xn, xp, xq⟩ := x; obtain ⟨yn, yp, yq⟩ := y
    exact runO tok mixed [35, 89, 65] 300 6 (Obs.cons c1 (Obs.cons c2 (Obs.cons c3 Obs.nil))) (by kernel_rfl)
  rw [e1] at c3 ⊢
  rcases mulS_cases y1 x2 with ⟨k, e2, k1, k2⟩ | e2
  rotate_left
  · rw [e2] at c4 ⊢
    rw [if_neg (by simp)]
    clear hx hy x1 x2 x3 y1 y2 y3 e1 e2
    obtain ⟨xn, xp, xq⟩ := x; obtain ⟨yn, yp, yq⟩ := y
    exact runO tok mixed [35, 89, 65] 300 6 (Obs.cons c1 (Obs.cons c2 (Obs.cons c3 (Obs.cons c4 Obs.nil)))) (by kernel_rfl)
  rw [e2] at c4 ⊢
  rw [if_pos ⟨rfl, rfl⟩, ← m2, ← k2]
  have c5 := nat_Cmp.c m k
  rw [show ncmpS m k = (cmpS (val m) (val k), 0) by unfold ncmpS; rw [if_pos ⟨m1, k1⟩]] at c5
  have hc := cmpS_cases (val m) (val k)
  generalize cmpS (val m) (val k) = c at *
  clear hx hy x1 x2 x3 y1 y2 y3 e1 e2 m2 k2
  obtain ⟨xn, xp, xq⟩ := x; obtain ⟨yn, yp, yq⟩ := y
  dsimp only at *
  rcases hc with rfl | rfl | rfl <;> cases xn <;> cases yn <;> exact runO tok mixed [35, 89, 65] 300 6 (Obs.cons c1 (Obs.cons c2 (Obs.cons c3 (Obs.cons c4 (Obs.cons c5 Obs.nil))))) (by kernel_rfl)
theorem rat_Neg.c (x : Rt) : Sound Try.prog 47 [R x] (.tup [R (if rvB x = true then negR x else zR), I (if rvB x = true then 0 else 3)]) := by
  have c1 := rat_Valid.c x
  by_cases hx : rvB x = true
  · rw [if_pos hx, if_pos hx]
    have c2 := rat_minus.c x (rv_len hx).1 (rv_len hx).2
    rw [hx] at c1
    generalize negR x = z at *
    obtain ⟨xn, xp, xq⟩ := x
    exact runO tok mixed [35, 75] 300 6 (Obs.cons c1 (Obs.cons c2 Obs.nil)) (by kernel_rfl)
  · rw [if_neg hx, if_neg hx]
    replace hx : rvB x = false := by simpa using hx
    rw [hx] at c1
    obtain ⟨xn, xp, xq⟩ := x
    exact runO tok mixed [35] 300 6 (Obs.cons c1 Obs.nil) (by kernel_rfl)
theorem rat_Div.c (x y : Rt) : Sound Try.prog 92 [R x, R y] (.tup [R (divR x y).1, I (divR x y).2]) := by
  have c1 := rat_Valid.c x
  have c2 := rat_Valid.c y
  by_cases hx : rvB x = true
  rotate_left
  · rw [show divR x y = (zR, 3) by unfold divR; rw [if_neg (fun h => hx h.1)]]
    replace hx : rvB x = false := by simpa using hx
    rw [hx] at c1
    clear hx
    obtain ⟨xn, xp, xq⟩ := x
    obtain ⟨yn, yp, yq⟩ := y
    exact runO tok mixed [35] 300 6 (Obs.cons c1 Obs.nil) (by kernel_rfl)
  by_cases hy : rvB y = true
  rotate_left
  · rw [show divR x y = (zR, 3) by unfold divR; rw [if_neg (fun h => hy h.2)]]
    replace hy : rvB y = false := by simpa using hy
    rw [hx] at c1; rw [hy] at c2
    clear hx hy
    obtain ⟨xn, xp, xq⟩ := x
    obtain ⟨yn, yp, yq⟩ := y
    exact runO tok mixed [35] 300 6 (Obs.cons c1 (Obs.cons c2 Obs.nil)) (by kernel_rfl)
  rw [hx] at c1; rw [hy] at c2
  have c3 := rat_Mul.c x (flipR y)
  have hu : divR x y = if y.p = [] then (zR, 16) else mulR x (flipR y) := by unfold divR; rw [if_pos ⟨hx, hy⟩]
  rw [hu]
  clear hu hx hy
  by_cases h0 : y.p = []
  · rw [if_pos h0]
    obtain ⟨xn, xp, xq⟩ := x
    obtain ⟨yn, yp, yq⟩ := y
    dsimp only at h0
    subst h0
    exact runO tok mixed [35, 61] 300 6 (Obs.cons c1 (Obs.cons c2 Obs.nil)) (by kernel_rfl)
  · rw [if_neg h0]
    generalize mulR x (flipR y) = z at *
    obtain ⟨xn, xp, xq⟩ := x
    obtain ⟨yn, yp, yq⟩ := y
    cases yp with
    | nil => exact absurd rfl h0
    | cons d yp => exact runO tok mixed [35, 61] 300 6 (Obs.cons c1 (Obs.cons c2 (Obs.cons c3 Obs.nil))) (by kernel_rfl)
theorem int_ok {q : Int} (h0 : 0 ≤ q) (h1 : q < pw 48) : intS (dg q) = if 1125899906842624 < q then (0, 2) else (q, 0) := by
  unfold intS; rw [if_pos (okN_iff.2 (ok_dg h0 h1)), val_dg h0]
theorem qr_facts {x : Rt} (hx : rvB x = true) : divS x.p x.q = (dg (val x.p / val x.q), dg (val x.p % val x.q), 0) ∧ 0 ≤ val x.p / val x.q ∧ val x.p / val x.q < pw 48 ∧ 0 ≤ val x.p % val x.q := by
  obtain ⟨x1, x2, x3, _⟩ := rvB_iff.1 hx
  have hq := q_pos hx
  have hp := p_nn hx
  have hl := (okN_iff.1 x1).lt
  have h1 := Int.ediv_nonneg hp (Int.le_of_lt hq)
  have h2 := Int.ediv_le_self (val x.q) hp
  refine ⟨?_, h1, by omega, Int.emod_nonneg _ (by omega)⟩
  unfold divS; rw [if_pos ⟨x1, x2⟩, if_neg x3]
end Go.Proofs.Ytiondkijgpjgcaa.Pw
namespace Go.Proofs.Ytiondkijgpjgcaa.Pw
open Go Wd Px Mat
set_option linter.unusedVariables false
set_option linter.unusedSimpArgs false
set_option maxRecDepth 100000
set_option maxHeartbeats 8000000
attribute [local irreducible] Int.tmod Int.tdiv
theorem r3_Valid.c (x : Rt) : Sound Try.prog 20 [R x] (B (rvB x)) := by
  obtain ⟨n, p, q⟩ := x
  have c1 := ref_Valid.c p
  have c2 := ref_Valid.c q
  by_cases hp : okN p = true
  rotate_left
  · replace hp : okN p = false := by simpa using hp
    rw [show rvB ⟨n, p, q⟩ = false by simp [rvB, hp]]
    rw [hp] at c1
    exact runL tok mixed [48, 49, 50] 300 6 (Good.cons c1 Good.nil) (by kernel_rfl)
  by_cases hq : okN q = true
  rotate_left
  · replace hq : okN q = false := by simpa using hq
    rw [show rvB ⟨n, p, q⟩ = false by simp [rvB, hq]]
    rw [hp] at c1; rw [hq] at c2
    exact runL tok mixed [48, 49, 50] 300 6 (Good.cons c1 (Good.cons c2 Good.nil)) (by kernel_rfl)
  rw [hp] at c1; rw [hq] at c2
  cases q with
  | nil =>
    rw [show rvB ⟨n, p, []⟩ = false by simp [rvB]]
    exact runL tok mixed [48, 49, 50] 300 6 (Good.cons c1 (Good.cons c2 Good.nil)) (by kernel_rfl)
  | cons d q =>
    have e : gcdS p (d :: q) = (dg (gcdI (val p) (val (d :: q))), 0) := by unfold gcdS; rw [if_pos ⟨hp, hq⟩]
    have c3 := ref_Gcd.c p (d :: q)
    rw [e] at c3
    have c4 := limbs.c (dg (gcdI (val p) (val (d :: q)))) [1]
    rw [show decide (dg (gcdI (val p) (val (d :: q))) = [1]) = decide (gcdI (val p) (val (d :: q)) = 1) from decide_eq_decide.2 (dg_one_iff (gcdI_nonneg _ _))] at c4
    have key : rvB ⟨n, p, d :: q⟩ = (!(n && decide (p.length = 0)) && decide (gcdI (val p) (val (d :: q)) = 1)) := by simp [rvB, hp, hq]
    rw [key]
    clear key e
    dsimp only at c3
    generalize decide (gcdI (val p) (val (d :: q)) = 1) = b at *
    generalize dg (gcdI (val p) (val (d :: q))) = G at *
    clear hp hq
    cases p <;> cases n
    case nil.true => exact runL tok mixed [48, 49, 50] 300 6 (Good.cons c1 (Good.cons c2 Good.nil)) (by kernel_rfl)
    all_goals exact runL tok mixed [48, 49, 50] 300 6 (Good.cons c1 (Good.cons c2 (Good.cons c3 (Good.cons c4 Good.nil)))) (by kernel_rfl)
theorem r3_Reduce.c (neg : Bool) (p q : List Int) (hp : okN p = true) (hq : okN q = true) (h0 : q ≠ []) : Sound Try.prog 81 [B neg, N p, N q] (R (redS neg p q)) := by
  obtain ⟨g1, g2, g3⟩ := gcd_facts hp hq h0
  have c1 := ref_Gcd.c p q
  have e : gcdS p q = (dg (gcdI (val p) (val q)), 0) := by unfold gcdS; rw [if_pos ⟨hp, hq⟩]
  rw [e] at c1
  dsimp only at c1
  have c2 := ref_DivMod.c p (dg (gcdI (val p) (val q)))
  have c3 := ref_DivMod.c q (dg (gcdI (val p) (val q)))
  rw [divS_gcd hp g1 g2, g3] at c2
  rw [divS_gcd hq g1 g2, g3] at c3
  dsimp only at c2 c3
  have hr : redS neg p q = ⟨neg && decide (0 < (dg (val p / gcdI (val p) (val q))).length), dg (val p / gcdI (val p) (val q)), dg (val q / gcdI (val p) (val q))⟩ := rfl
  rw [hr]
  generalize dg (gcdI (val p) (val q)) = G at *
  generalize dg (val p / gcdI (val p) (val q)) = X at *
  generalize dg (val q / gcdI (val p) (val q)) = Y at *
  generalize dg (val p % gcdI (val p) (val q)) = X1 at *
  generalize dg (val q % gcdI (val p) (val q)) = Y1 at *
  cases neg <;> cases X <;> exact runL tok mixed [49, 76] 200 3 (Good.cons c1 (Good.cons c2 (Good.cons c3 Good.nil))) (by kernel_rfl)
theorem r3_Make.c (p q : Int) (hwp : -9223372036854775808 ≤ p ∧ p ≤ 9223372036854775807) (hwq : -9223372036854775808 ≤ q ∧ q ≤ 9223372036854775807) : Sound Try.prog 56 [I p, I q] (.tup [R (makeS p q).1, I (makeS p q).2]) := by
  by_cases hp : inR p = true ∧ inR q = true
  · obtain ⟨hp, hq⟩ := hp
    have hp' : -1125899906842624 ≤ p ∧ p ≤ 1125899906842624 := by simpa [inR] using hp
    have hq' : -1125899906842624 ≤ q ∧ q ≤ 1125899906842624 := by simpa [inR] using hq
    obtain ⟨p1, p2⟩ := hp'
    obtain ⟨q1, q2⟩ := hq'
    have n1 : ¬ p < -1125899906842624 := by omega
    have n2 : ¬ 1125899906842624 < p := by omega
    have n3 : ¬ q < -1125899906842624 := by omega
    have n4 : ¬ 1125899906842624 < q := by omega
    by_cases h0 : q = 0
    · subst h0
      rw [show makeS p 0 = (zR, 16) by unfold makeS; rw [if_pos ⟨hp, hq⟩, if_pos rfl]]
      refine Sound.of_WP tok Try.func56 rfl rfl ?_; simp only [Try.f56, args0, List.map, List.length_cons, List.length_nil, Nat.reduceAdd, Nat.reduceSub, List.replicate, List.cons_append, List.nil_append]
      repeat' (first | refine WP_seq ?_ | refine WP_block ?_ | refine regA 64 fun KQ hKQ => ?_ | refine regD 64 fun KQ hKQ => ?_ | refine opsA rfl rfl rfl rfl (nrmA ?_) | refine opsW_skip rfl (nrmA ?_) | (refine opsW_nil ⟨by kernel_rfl, hKQ _ _ _ (nrmB ?_)⟩; clear hKQ KQ) | (refine opsW_nil (hKQ _ _ _ (nrmB ?_)); clear hKQ KQ) | refine condT rfl ?_ | refine condF rfl ?_ | refine WP_skip (nrmB ?_) | refine WP_ret (nrmC ?_) | refine WP_exit (nrmC ?_))
      (refine Res_of rfl ?_ ?_; (focus (first | (refine ⟨⟨?_, ?_⟩, trivial⟩ <;> first | exact Nat.le_of_ble_eq_true rfl | (refine Nat.le_of_ble_eq_true ?_; kernel_rfl) | (intro hh; cases hh)) | (refine ⟨⟨?_, ?_⟩, trivial, trivial⟩ <;> first | (refine Nat.le_of_ble_eq_true ?_; kernel_rfl) | (intro hh; cases hh)) | (refine ⟨⟨?_, ?_⟩, trivial⟩ <;> decide) | (refine ⟨⟨?_, ?_⟩, ⟨trivial, trivial⟩⟩ <;> decide) | decide | (simp [Blk.cells]; done))); exact ⟨_, rfl⟩)
    · have k1 := absI_ok hp
      have k2 := absI_ok hq
      rw [show makeS p q = (redS (!(decide (p < 0) == decide (q < 0))) (dg (absI p)) (dg (absI q)), 0) by unfold makeS; rw [if_pos ⟨hp, hq⟩, if_neg h0]]
      have w1 : wrap64 (0 - p) = -p := by rw [Int.zero_sub]; exact w64 (by omega) (by omega)
      have w2 : wrap64 (0 - q) = -q := by rw [Int.zero_sub]; exact w64 (by omega) (by omega)
      have m1 : mx p (-p) = absI p := by unfold mx absI; split <;> split <;> omega
      have m2 : mx q (-q) = absI q := by unfold mx absI; split <;> split <;> omega
      have c3 := ref_Of.c (absI p) (by unfold absI; split <;> omega)
      have c4 := ref_Of.c (absI q) (by unfold absI; split <;> omega)
      rw [show ofS (absI p) = (dg (absI p), 0) by unfold ofS; rw [if_neg (by unfold absI; split <;> omega)]] at c3
      rw [show ofS (absI q) = (dg (absI q), 0) by unfold ofS; rw [if_neg (by unfold absI; split <;> omega)]] at c4
      dsimp only at c3 c4
      have c5 := r3_Reduce.c (!(decide (p < 0) == decide (q < 0))) (dg (absI p)) (dg (absI q)) k1.1 k2.1 (k2.2 h0)
      clear k1 k2
      generalize hz : redS _ (dg (absI p)) (dg (absI q)) = z at *
      clear hz
      generalize dg (absI p) = P at *
      generalize dg (absI q) = Q at *
      generalize absI p = A1 at *
      generalize absI q = A2 at *
      by_cases s1 : p < 0 <;> by_cases s2 : q < 0
      all_goals
        simp only [s1, s2, decide_true, decide_false] at c5
        refine Sound.of_WP tok Try.func56 rfl rfl ?_; simp only [Try.f56, args0, List.map, List.length_cons, List.length_nil, Nat.reduceAdd, Nat.reduceSub, List.replicate, List.cons_append, List.nil_append]
        repeat' (first | refine WP_seq ?_ | refine WP_block ?_ | refine regA 64 fun KQ hKQ => ?_ | refine regD 64 fun KQ hKQ => ?_ | refine opsA rfl rfl rfl rfl (nrmA ?_) | refine callA rfl rfl rfl (nrmA ?_) (hs := c3) | refine callA rfl rfl rfl (nrmA ?_) (hs := c4) | refine callA rfl rfl rfl (nrmA ?_) (hs := c5) | refine opsW_skip rfl (nrmA ?_) | (refine opsW_nil ⟨by kernel_rfl, hKQ _ _ _ (nrmB ?_)⟩; clear hKQ KQ) | (refine opsW_nil (hKQ _ _ _ (nrmB ?_)); clear hKQ KQ) | refine condT rfl ?_ | refine condF rfl ?_ | refine WP_skip (nrmB ?_) | refine WP_ret (nrmC ?_) | refine WP_exit (nrmC ?_))
        (refine Res_of rfl ?_ ?_; (focus (first | (refine ⟨⟨?_, ?_⟩, trivial⟩ <;> first | exact Nat.le_of_ble_eq_true rfl | (refine Nat.le_of_ble_eq_true ?_; kernel_rfl) | (intro hh; cases hh)) | (refine ⟨⟨?_, ?_⟩, trivial, trivial⟩ <;> first | (refine Nat.le_of_ble_eq_true ?_; kernel_rfl) | (intro hh; cases hh)) | (refine ⟨⟨?_, ?_⟩, trivial⟩ <;> decide) | (refine ⟨⟨?_, ?_⟩, ⟨trivial, trivial⟩⟩ <;> decide) | decide | (simp [Blk.cells]; done))); exact ⟨_, rfl⟩)
  · rw [show makeS p q = (zR, 1) by unfold makeS; rw [if_neg hp]]
    have hp' : p < -1125899906842624 ∨ (¬ p < -1125899906842624 ∧ 1125899906842624 < p) ∨ (¬ p < -1125899906842624 ∧ ¬ 1125899906842624 < p ∧ q < -1125899906842624) ∨ (¬ p < -1125899906842624 ∧ ¬ 1125899906842624 < p ∧ ¬ q < -1125899906842624 ∧ 1125899906842624 < q) := by
      simp only [inR, Bool.and_eq_true, decide_eq_true_eq] at hp
      omega
    clear hp
    rcases hp' with n1 | ⟨n1, n2⟩ | ⟨n1, n2, n3⟩ | ⟨n1, n2, n3, n4⟩
    all_goals
      refine Sound.of_WP tok Try.func56 rfl rfl ?_; simp only [Try.f56, args0, List.map, List.length_cons, List.length_nil, Nat.reduceAdd, Nat.reduceSub, List.replicate, List.cons_append, List.nil_append]
      repeat' (first | refine WP_seq ?_ | refine WP_block ?_ | refine regA 64 fun KQ hKQ => ?_ | refine regD 64 fun KQ hKQ => ?_ | refine opsA rfl rfl rfl rfl (nrmA ?_) | refine opsW_skip rfl (nrmA ?_) | (refine opsW_nil ⟨by kernel_rfl, hKQ _ _ _ (nrmB ?_)⟩; clear hKQ KQ) | (refine opsW_nil (hKQ _ _ _ (nrmB ?_)); clear hKQ KQ) | refine condT rfl ?_ | refine condF rfl ?_ | refine WP_skip (nrmB ?_) | refine WP_ret (nrmC ?_) | refine WP_exit (nrmC ?_))
      (refine Res_of rfl ?_ ?_; (focus (first | (refine ⟨⟨?_, ?_⟩, trivial⟩ <;> first | exact Nat.le_of_ble_eq_true rfl | (refine Nat.le_of_ble_eq_true ?_; kernel_rfl) | (intro hh; cases hh)) | (refine ⟨⟨?_, ?_⟩, trivial, trivial⟩ <;> first | (refine Nat.le_of_ble_eq_true ?_; kernel_rfl) | (intro hh; cases hh)) | (refine ⟨⟨?_, ?_⟩, trivial⟩ <;> decide) | (refine ⟨⟨?_, ?_⟩, ⟨trivial, trivial⟩⟩ <;> decide) | decide | (simp [Blk.cells]; done))); exact ⟨_, rfl⟩)
theorem r3_Of.c (n : Int) (hw : -9223372036854775808 ≤ n ∧ n ≤ 9223372036854775807) : Sound Try.prog 54 [I n] (.tup [R (makeS n 1).1, I (makeS n 1).2]) :=
  runL tok mixed [56] 100 2 (Good.cons (r3_Make.c n 1 hw (by decide)) Good.nil) (by kernel_rfl)
/-- Two numbers have the same fields. -/
def sameS (x y : Rt) : Bool := (x.neg == y.neg) && (decide (x.p = y.p) && decide (x.q = y.q))
theorem sameS_iff {x y : Rt} : sameS x y = true ↔ x = y := by
  obtain ⟨a, b, c⟩ := x
  obtain ⟨d, e, f⟩ := y
  simp [sameS]
theorem sameS_self (x : Rt) : sameS x x = true := sameS_iff.2 rfl
theorem r3_Mul.c (x y : Rt) : Sound Try.prog 57 [R x, R y] (.tup [R (mulR x y).1, I (mulR x y).2]) := by
  have c1 := r3_Valid.c x
  have c2 := r3_Valid.c y
  by_cases hx : rvB x = true
  rotate_left
  · rw [show mulR x y = (zR, 3) by unfold mulR; rw [if_neg (fun h => hx h.1)]]
    replace hx : rvB x = false := by simpa using hx
    rw [hx] at c1
    clear hx
    obtain ⟨xn, xp, xq⟩ := x
    obtain ⟨yn, yp, yq⟩ := y
    exact runL tok mixed [20, 52, 81] 300 6 (Good.cons c1 Good.nil) (by kernel_rfl)
  rw [hx] at c1
  by_cases hy : rvB y = true
  rotate_left
  · rw [show mulR x y = (zR, 3) by unfold mulR; rw [if_neg (fun h => hy h.2)]]
    replace hy : rvB y = false := by simpa using hy
    rw [hy] at c2
    clear hx hy
    obtain ⟨xn, xp, xq⟩ := x
    obtain ⟨yn, yp, yq⟩ := y
    exact runL tok mixed [20, 52, 81] 300 6 (Good.cons c1 (Good.cons c2 Good.nil)) (by kernel_rfl)
  rw [hy] at c2
  have c3 := ref_Mul.c x.p y.p
  have c4 := ref_Mul.c x.q y.q
  obtain ⟨x1, x2, x3, _⟩ := rvB_iff.1 hx
  obtain ⟨y1, y2, y3, _⟩ := rvB_iff.1 hy
  have hq := Int.mul_pos (q_pos hx) (q_pos hy)
  have hu : mulR x y = (if (mulS x.p y.p).2 = 0 then (if (mulS x.q y.q).2 = 0 then (redS (!(x.neg == y.neg)) (mulS x.p y.p).1 (mulS x.q y.q).1, 0) else (zR, (mulS x.q y.q).2)) else (zR, (mulS x.p y.p).2)) := by unfold mulR; rw [if_pos ⟨hx, hy⟩]
  rw [hu]
  clear hu
  rcases mulS_cases x1 y1 with ⟨m, e1, m1, m2⟩ | e1 <;> rcases mulS_cases x2 y2 with ⟨k, e2, k1, k2⟩ | e2 <;> rw [e1] at c3 ⊢ <;> rw [e2] at c4 ⊢
  · have c5 := r3_Reduce.c (!(x.neg == y.neg)) m k m1 k1 (fun e => by subst e; rw [← k2] at hq; simp [val] at hq)
    rw [if_pos rfl, if_pos rfl]
    generalize redS (!(x.neg == y.neg)) m k = z at *
    clear hx hy x1 x2 x3 y1 y2 y3 e1 e2 hq m2 k2
    obtain ⟨xn, xp, xq⟩ := x
    obtain ⟨yn, yp, yq⟩ := y
    exact runL tok mixed [20, 52, 81] 300 6 (Good.cons c1 (Good.cons c2 (Good.cons c3 (Good.cons c4 (Good.cons c5 Good.nil))))) (by kernel_rfl)
  all_goals
    clear hx hy x1 x2 x3 y1 y2 y3 e1 e2 hq
    obtain ⟨xn, xp, xq⟩ := x
    obtain ⟨yn, yp, yq⟩ := y
    exact runL tok mixed [20, 52, 81] 300 6 (Good.cons c1 (Good.cons c2 (Good.cons c3 (Good.cons c4 Good.nil)))) (by kernel_rfl)
theorem r3_Add.c (x y : Rt) : Sound Try.prog 58 [R x, R y] (.tup [R (addR x y).1, I (addR x y).2]) := by
  have c1 := r3_Valid.c x
  have c2 := r3_Valid.c y
  by_cases hx : rvB x = true
  rotate_left
  · rw [show addR x y = (zR, 3) by unfold addR; rw [if_neg (fun h => hx h.1)]]
    replace hx : rvB x = false := by simpa using hx
    rw [hx] at c1
    clear hx
    obtain ⟨xn, xp, xq⟩ := x
    obtain ⟨yn, yp, yq⟩ := y
    exact runL tok mixed [20, 52, 99, 100, 53, 81] 300 6 (Good.cons c1 Good.nil) (by kernel_rfl)
  by_cases hy : rvB y = true
  rotate_left
  · rw [show addR x y = (zR, 3) by unfold addR; rw [if_neg (fun h => hy h.2)]]
    replace hy : rvB y = false := by simpa using hy
    rw [hx] at c1; rw [hy] at c2
    clear hx hy
    obtain ⟨xn, xp, xq⟩ := x
    obtain ⟨yn, yp, yq⟩ := y
    exact runL tok mixed [20, 52, 99, 100, 53, 81] 300 6 (Good.cons c1 (Good.cons c2 Good.nil)) (by kernel_rfl)
  rw [hx] at c1; rw [hy] at c2
  have c3 := ref_Mul.c x.p y.q
  have c4 := ref_Mul.c y.p x.q
  have c5 := ref_Mul.c x.q y.q
  obtain ⟨x1, x2, x3, _⟩ := rvB_iff.1 hx
  obtain ⟨y1, y2, y3, _⟩ := rvB_iff.1 hy
  have hq := Int.mul_pos (q_pos hx) (q_pos hy)
  have hu : addR x y = if (mulS x.p y.q).2 = 0 ∧ (mulS y.p x.q).2 = 0 ∧ (mulS x.q y.q).2 = 0 ∧ (plusS x.neg (mulS x.p y.q).1 y.neg (mulS y.p x.q).1).2.2 = 0 then (redS (plusS x.neg (mulS x.p y.q).1 y.neg (mulS y.p x.q).1).1 (plusS x.neg (mulS x.p y.q).1 y.neg (mulS y.p x.q).1).2.1 (mulS x.q y.q).1, 0) else (zR, 2) := by
    unfold addR; rw [if_pos ⟨hx, hy⟩]
  rw [hu]
  clear hu
  rcases mulS_cases x1 y2 with ⟨m, e1, m1, m2⟩ | e1
  rotate_left
  · rw [e1] at c3 ⊢
    rw [if_neg (by simp)]
    clear hx hy x1 x2 x3 y1 y2 y3 e1
    obtain ⟨xn, xp, xq⟩ := x; obtain ⟨yn, yp, yq⟩ := y
    exact runL tok mixed [20, 52, 99, 100, 53, 81] 300 6 (Good.cons c1 (Good.cons c2 (Good.cons c3 (Good.cons c4 (Good.cons c5 Good.nil))))) (by kernel_rfl)
  rw [e1] at c3 ⊢
  rcases mulS_cases y1 x2 with ⟨k, e2, k1, k2⟩ | e2
  rotate_left
  · rw [e2] at c4 ⊢
    rw [if_neg (by simp)]
    clear hx hy x1 x2 x3 y1 y2 y3 e1 e2
    obtain ⟨xn, xp, xq⟩ := x; obtain ⟨yn, yp, yq⟩ := y
    exact runL tok mixed [20, 52, 99, 100, 53, 81] 300 6 (Good.cons c1 (Good.cons c2 (Good.cons c3 (Good.cons c4 (Good.cons c5 Good.nil))))) (by kernel_rfl)
  rw [e2] at c4 ⊢
  rcases mulS_cases x2 y2 with ⟨l, e3, l1, l2⟩ | e3
  rotate_left
  · rw [e3] at c5 ⊢
    rw [if_neg (by simp)]
    clear hx hy x1 x2 x3 y1 y2 y3 e1 e2 e3
    obtain ⟨xn, xp, xq⟩ := x; obtain ⟨yn, yp, yq⟩ := y
    exact runL tok mixed [20, 52, 99, 100, 53, 81] 300 6 (Good.cons c1 (Good.cons c2 (Good.cons c3 (Good.cons c4 (Good.cons c5 Good.nil))))) (by kernel_rfl)
  rw [e3] at c5 ⊢
  simp only [true_and]
  have hl : l ≠ [] := fun e => by
    subst e
    rw [← l2] at hq; simp [val] at hq
  have c6 := ref_Add.c m k
  have c7 := ref_Cmp.c m k
  rw [show ncmpS m k = (cmpS (val m) (val k), 0) by unfold ncmpS; rw [if_pos ⟨m1, k1⟩]] at c7
  have c8 := ref_Sub.c m k
  have c9 := ref_Sub.c k m
  have hmk : okN m = true ∧ okN k = true := ⟨m1, k1⟩
  have hkm : okN k = true ∧ okN m = true := ⟨k1, m1⟩
  obtain ⟨xn, xp, xq⟩ := x
  obtain ⟨yn, yp, yq⟩ := y
  dsimp only at *
  clear hx hy x1 x2 x3 y1 y2 y3 e1 e2 e3 m2 k2 l2 hq
  have pk := fun (a b : Bool) => plusS_ok (m := a) (n := b) m1 k1
  have same : ∀ b, plusS b m b k = (b, addS m k) := fun b => by unfold plusS; rw [if_pos rfl]
  have add : addS m k = Px.fitS (val m + val k) := by unfold addS; rw [if_pos hmk]
  have red := fun (b : Bool) (s : List Int) (hs : okN s = true) => r3_Reduce.c b s l hs l1 hl
  cases xn <;> cases yn
  case false.false =>
    rw [same]
    have p1 := (pk false false).1
    rw [same] at p1
    rcases fitS_cases (val m + val k) with f | f <;> rw [← add] at f
    · rw [f] at c6 p1 ⊢
      have c10 := red false _ p1
      rw [if_pos rfl]
      exact runL tok mixed [20, 52, 99, 100, 53, 81] 300 6 (Good.cons c1 (Good.cons c2 (Good.cons c3 (Good.cons c4 (Good.cons c5 (Good.cons c6 (Good.cons c10 Good.nil))))))) (by kernel_rfl)
    · rw [f] at c6 ⊢
      rw [if_neg (by simp)]
      exact runL tok mixed [20, 52, 99, 100, 53, 81] 300 6 (Good.cons c1 (Good.cons c2 (Good.cons c3 (Good.cons c4 (Good.cons c5 (Good.cons c6 Good.nil)))))) (by kernel_rfl)
  case true.true =>
    rw [same]
    have p1 := (pk true true).1
    rw [same] at p1
    rcases fitS_cases (val m + val k) with f | f <;> rw [← add] at f
    · rw [f] at c6 p1 ⊢
      have c10 := red true _ p1
      rw [if_pos rfl]
      exact runL tok mixed [20, 52, 99, 100, 53, 81] 300 6 (Good.cons c1 (Good.cons c2 (Good.cons c3 (Good.cons c4 (Good.cons c5 (Good.cons c6 (Good.cons c10 Good.nil))))))) (by kernel_rfl)
    · rw [f] at c6 ⊢
      rw [if_neg (by simp)]
      exact runL tok mixed [20, 52, 99, 100, 53, 81] 300 6 (Good.cons c1 (Good.cons c2 (Good.cons c3 (Good.cons c4 (Good.cons c5 (Good.cons c6 Good.nil)))))) (by kernel_rfl)
  case false.true =>
    by_cases hlt : val m < val k
    · have hc : cmpS (val m) (val k) = -1 := by unfold cmpS; rw [if_pos hlt]
      have es : subS k m = (dg (val k - val m), 0) := by unfold subS; rw [if_pos hkm, if_neg (by omega)]
      have ep : plusS false m true k = (true, subS k m) := by unfold plusS; rw [if_neg (by decide), hc, if_pos (by decide)]
      have p1 := (pk false true).1
      rw [ep, es] at p1 ⊢
      rw [es] at c9
      rw [hc] at c7
      have c10 := red true _ p1
      rw [if_pos rfl]
      exact runL tok mixed [20, 52, 99, 100, 53, 81] 300 6 (Good.cons c1 (Good.cons c2 (Good.cons c3 (Good.cons c4 (Good.cons c5 (Good.cons c7 (Good.cons c9 (Good.cons c10 Good.nil)))))))) (by kernel_rfl)
    · have es : subS m k = (dg (val m - val k), 0) := by unfold subS; rw [if_pos hmk, if_neg hlt]
      have hc : cmpS (val m) (val k) = 0 ∨ cmpS (val m) (val k) = 1 := by unfold cmpS; rw [if_neg hlt]; split <;> simp
      have ep : plusS false m true k = (false, subS m k) := by unfold plusS; rw [if_neg (by decide), if_neg (by rcases hc with h | h <;> rw [h] <;> decide)]
      have p1 := (pk false true).1
      rw [ep, es] at p1 ⊢
      rw [es] at c8
      have c10 := red false _ p1
      rw [if_pos rfl]
      rcases hc with hc | hc <;> rw [hc] at c7
      all_goals exact runL tok mixed [20, 52, 99, 100, 53, 81] 300 6 (Good.cons c1 (Good.cons c2 (Good.cons c3 (Good.cons c4 (Good.cons c5 (Good.cons c7 (Good.cons c8 (Good.cons c10 Good.nil)))))))) (by kernel_rfl)
  case true.false =>
    by_cases hlt : val m < val k
    · have hc : cmpS (val m) (val k) = -1 := by unfold cmpS; rw [if_pos hlt]
      have es : subS k m = (dg (val k - val m), 0) := by unfold subS; rw [if_pos hkm, if_neg (by omega)]
      have ep : plusS true m false k = (false, subS k m) := by unfold plusS; rw [if_neg (by decide), hc, if_pos (by decide)]
      have p1 := (pk true false).1
      rw [ep, es] at p1 ⊢
      rw [es] at c9
      rw [hc] at c7
      have c10 := red false _ p1
      rw [if_pos rfl]
      exact runL tok mixed [20, 52, 99, 100, 53, 81] 300 6 (Good.cons c1 (Good.cons c2 (Good.cons c3 (Good.cons c4 (Good.cons c5 (Good.cons c7 (Good.cons c9 (Good.cons c10 Good.nil)))))))) (by kernel_rfl)
    · have es : subS m k = (dg (val m - val k), 0) := by unfold subS; rw [if_pos hmk, if_neg hlt]
      have hc : cmpS (val m) (val k) = 0 ∨ cmpS (val m) (val k) = 1 := by unfold cmpS; rw [if_neg hlt]; split <;> simp
      have ep : plusS true m false k = (true, subS m k) := by unfold plusS; rw [if_neg (by decide), if_neg (by rcases hc with h | h <;> rw [h] <;> decide)]
      have p1 := (pk true false).1
      rw [ep, es] at p1 ⊢
      rw [es] at c8
      have c10 := red true _ p1
      rw [if_pos rfl]
      rcases hc with hc | hc <;> rw [hc] at c7
      all_goals exact runL tok mixed [20, 52, 99, 100, 53, 81] 300 6 (Good.cons c1 (Good.cons c2 (Good.cons c3 (Good.cons c4 (Good.cons c5 (Good.cons c7 (Good.cons c8 (Good.cons c10 Good.nil)))))))) (by kernel_rfl)
end Go.Proofs.Ytiondkijgpjgcaa.Pw
namespace Go.Proofs.Ytiondkijgpjgcaa.Pw
open Go Wd Px Mat
set_option linter.unusedVariables false
set_option linter.unusedSimpArgs false
set_option maxRecDepth 100000
set_option maxHeartbeats 8000000
attribute [local irreducible] Int.tmod Int.tdiv
theorem r3_Cmp.c (x y : Rt) : Sound Try.prog 22 [R x, R y] (.tup [I (cmpR x y).1, I (cmpR x y).2]) := by
  have c1 := r3_Valid.c x
  have c2 := r3_Valid.c y
  by_cases hx : rvB x = true
  rotate_left
  · rw [show cmpR x y = (0, 3) by unfold cmpR; rw [if_neg (fun h => hx h.1)]]
    replace hx : rvB x = false := by simpa using hx
    rw [hx] at c1
    clear hx
    obtain ⟨xn, xp, xq⟩ := x
    obtain ⟨yn, yp, yq⟩ := y
    exact runO tok mixed [20] 300 6 (Obs.cons c1 Obs.nil) (by kernel_rfl)
  by_cases hy : rvB y = true
  rotate_left
  · rw [show cmpR x y = (0, 3) by unfold cmpR; rw [if_neg (fun h => hy h.2)]]
    replace hy : rvB y = false := by simpa using hy
    rw [hx] at c1; rw [hy] at c2
    clear hx hy
    obtain ⟨xn, xp, xq⟩ := x
    obtain ⟨yn, yp, yq⟩ := y
    exact runO tok mixed [20] 300 6 (Obs.cons c1 (Obs.cons c2 Obs.nil)) (by kernel_rfl)
  rw [hx] at c1; rw [hy] at c2
  have c3 := ref_Mul.c x.p y.q
  have c4 := ref_Mul.c y.p x.q
  obtain ⟨x1, x2, x3, _⟩ := rvB_iff.1 hx
  obtain ⟨y1, y2, y3, _⟩ := rvB_iff.1 hy
  have hu : cmpR x y = if (mulS x.p y.q).2 = 0 ∧ (mulS y.p x.q).2 = 0 then (scmp x.neg y.neg (cmpS (val x.p * val y.q) (val y.p * val x.q)), 0) else (0, 2) := by unfold cmpR; rw [if_pos ⟨hx, hy⟩]
  rw [hu]
  clear hu
  rcases mulS_cases x1 y2 with ⟨m, e1, m1, m2⟩ | e1 <;> rcases mulS_cases y1 x2 with ⟨k, e2, k1, k2⟩ | e2 <;> rw [e1] at c3 ⊢ <;> rw [e2] at c4 ⊢
  rotate_left
  · rw [if_neg (by simp)]
    clear hx hy x1 x2 x3 y1 y2 y3 e1 e2
    obtain ⟨xn, xp, xq⟩ := x; obtain ⟨yn, yp, yq⟩ := y
    exact runO tok mixed [20, 52, 53] 300 6 (Obs.cons c1 (Obs.cons c2 (Obs.cons c3 (Obs.cons c4 Obs.nil)))) (by kernel_rfl)
  · rw [if_neg (by simp)]
    clear hx hy x1 x2 x3 y1 y2 y3 e1 e2
    obtain ⟨xn, xp, xq⟩ := x; obtain ⟨yn, yp, yq⟩ := y
    exact runO tok mixed [20, 52, 53] 300 6 (Obs.cons c1 (Obs.cons c2 (Obs.cons c3 (Obs.cons c4 Obs.nil)))) (by kernel_rfl)
  · rw [if_neg (by simp)]
    clear hx hy x1 x2 x3 y1 y2 y3 e1 e2
    obtain ⟨xn, xp, xq⟩ := x; obtain ⟨yn, yp, yq⟩ := y
    exact runO tok mixed [20, 52, 53] 300 6 (Obs.cons c1 (Obs.cons c2 (Obs.cons c3 (Obs.cons c4 Obs.nil)))) (by kernel_rfl)
  rw [if_pos ⟨rfl, rfl⟩, ← m2, ← k2]
  have c5 := ref_Cmp.c m k
  rw [show ncmpS m k = (cmpS (val m) (val k), 0) by unfold ncmpS; rw [if_pos ⟨m1, k1⟩]] at c5
  have hc := cmpS_cases (val m) (val k)
  generalize cmpS (val m) (val k) = c at *
  clear hx hy x1 x2 x3 y1 y2 y3 e1 e2 m2 k2
  obtain ⟨xn, xp, xq⟩ := x; obtain ⟨yn, yp, yq⟩ := y
  dsimp only at *
  cases xn <;> cases yn
  case false.false => rcases hc with rfl | rfl | rfl <;> exact runO tok mixed [20, 52, 53] 300 6 (Obs.cons c1 (Obs.cons c2 (Obs.cons c3 (Obs.cons c4 (Obs.cons c5 Obs.nil))))) (by kernel_rfl)
  case true.true => rcases hc with rfl | rfl | rfl <;> exact runO tok mixed [20, 52, 53] 300 6 (Obs.cons c1 (Obs.cons c2 (Obs.cons c3 (Obs.cons c4 (Obs.cons c5 Obs.nil))))) (by kernel_rfl)
  case false.true => exact runO tok mixed [20, 52, 53] 300 6 (Obs.cons c1 (Obs.cons c2 (Obs.cons c3 (Obs.cons c4 Obs.nil)))) (by kernel_rfl)
  case true.false => exact runO tok mixed [20, 52, 53] 300 6 (Obs.cons c1 (Obs.cons c2 (Obs.cons c3 (Obs.cons c4 Obs.nil)))) (by kernel_rfl)
theorem ceil_floor {x : Rt} (hx : rvB x = true) : wholeS x (!x.neg) = (IntKind.i64.wrap (0 - (wholeS (negR x) (negR x).neg).1), (wholeS (negR x) (negR x).neg).2) := by
  have hn := (negR_ok hx).1
  obtain ⟨d1, q0, q1, r0⟩ := qr_facts hx
  have hz : x.p = [] → val x.p = 0 := fun h => by rw [h]; rfl
  unfold wholeS
  rw [if_pos hx, if_pos hn]
  obtain ⟨xn, xp, xq⟩ := x
  unfold negR
  dsimp only at *
  by_cases hp : xp = []
  · have hv := hz hp
    rw [hv]
    subst hp
    have e1 : (0 : Int) / val xq = 0 := Int.zero_ediv _
    have e2 : (0 : Int) % val xq = 0 := Int.zero_emod _
    rw [e1, e2]
    cases xn <;> simp <;> decide
  · have hl : 0 < xp.length := List.length_pos_iff.2 hp
    generalize val xp / val xq = q at *
    generalize val xp % val xq = r at *
    have w1 : q ≤ 1125899906842624 → IntKind.i64.wrap (0 - q) = -q := fun h => by rw [wI (by omega) (by omega)]; omega
    have w2 : q ≤ 1125899906842624 → IntKind.i64.wrap (0 - -q) = q := fun h => by rw [wI (by omega) (by omega)]; omega
    have w3 : q + 1 ≤ 1125899906842624 → IntKind.i64.wrap (0 - -(q + 1)) = q + 1 := fun h => by rw [wI (by omega) (by omega)]; omega
    have w0 : IntKind.i64.wrap (0 - 0) = 0 := by decide
    cases xn <;> simp only [hl, decide_true, Bool.and_true, Bool.not_false, Bool.not_true, Bool.false_and, if_true, if_false, Bool.false_eq_true, true_and, false_and, reduceIte, ne_eq]
    · by_cases h1 : 1125899906842624 < q
      · rw [if_pos h1, if_pos h1, w0]
      · rw [if_neg h1, if_neg h1]
        by_cases h2 : r = 0
        · rw [if_neg (fun h => h h2), if_neg (fun h => h h2), w2 (by omega)]
        · rw [if_pos h2, if_pos h2]
          by_cases h3 : 1125899906842624 < q + 1
          · rw [if_pos h3, if_pos h3, w0]
          · rw [if_neg h3, if_neg h3, w3 (by omega)]
    · by_cases h1 : 1125899906842624 < q
      · rw [if_pos h1, if_pos h1, w0]
      · rw [if_neg h1, if_neg h1, w1 (by omega)]
end Go.Proofs.Ytiondkijgpjgcaa.Pw
namespace Go.Proofs.Ytiondkijgpjgcaa.Px
open Mat Wd
set_option linter.unusedVariables false
def rdR (l : List Rt) (i : Int) : Rt := l.getD i.toNat zR
def validR_l0 : Nat → List Rt → Int → Option Bool
  | 0, _, _ => none
  | k + 1, l, i => if i < (l.length : Int) then (if 0 ≤ i then (if rvB (rdR l i) = true then validR_l0 k l (wrap64 (i + 1)) else some false) else none) else some true
theorem rdR_at {l : List Rt} {i : Nat} (h : i < l.length) : rdR l (i : Int) = l[i] := by
  unfold rdR; rw [Int.toNat_natCast, List.getD_eq_getElem?_getD, List.getElem?_eq_getElem h]; rfl
theorem ev_validR (l : List Rt) (hl : l.length ≤ 9223372036854775807) : ∀ (d i : Nat), i + d = l.length → (l.take i).all rvB = true → Ev (fun k => validR_l0 k l (i : Int)) (l.all rvB) := by
  intro d
  induction d with
  | zero =>
    intro i hi hv
    rw [show i = l.length by omega, List.take_length] at hv
    refine Ev.step (f := fun _ => some _) (fun k => ?_) (Ev.now _)
    simp only [validR_l0]
    rw [if_neg (by omega), hv]
  | succ d ih =>
    intro i hi hv
    have hil : i < l.length := by omega
    by_cases h : rvB (rdR l i) = true
    · refine Ev.step (fun k => ?_) (ih (i + 1) (by omega) (by rw [List.take_succ_eq_append_getElem hil, List.all_append, hv, ← rdR_at hil]; simpa using h))
      simp only [validR_l0]
      rw [if_pos (by omega), if_pos (by omega), if_pos h, w64 (by omega) (by omega)]; rfl
    · have hf : l.all rvB = false := by
        rw [Bool.eq_false_iff]; intro ha
        rw [List.all_eq_true] at ha
        exact h (by rw [rdR_at hil]; exact ha _ (List.getElem_mem hil))
      rw [hf]
      refine Ev.step (f := fun _ => some _) (fun k => ?_) (Ev.now _)
      simp only [validR_l0]
      rw [if_pos (by omega), if_pos (by omega), if_neg h]
/-- The sum of numbers, from a number on; or the first error. -/
def sumR : List Rt → Rt → Rt × Int
  | [], s => (s, 0)
  | a :: l, s => if (addR s a).2 = 0 then sumR l (addR s a).1 else (zR, (addR s a).2)
def sumR_l0 : Nat → List Rt → Rt → Int → Option (Rt × Int)
  | 0, _, _, _ => none
  | k + 1, l, s, i => if i < (l.length : Int) then (if 0 ≤ i then (if (addR s (rdR l i)).2 = 0 then sumR_l0 k l (addR s (rdR l i)).1 (wrap64 (i + 1)) else some (zR, (addR s (rdR l i)).2)) else none) else some (s, 0)
theorem ev_sumR (l : List Rt) (hl : l.length ≤ 9223372036854775807) : ∀ (d i : Nat) (s : Rt), i + d = l.length → Ev (fun k => sumR_l0 k l s (i : Int)) (sumR (l.drop i) s) := by
  intro d
  induction d with
  | zero =>
    intro i s hi
    rw [List.drop_eq_nil_of_le (by omega)]
    refine Ev.step (f := fun _ => some _) (fun k => ?_) (Ev.now _)
    simp only [sumR_l0, sumR]
    rw [if_neg (by omega)]
  | succ d ih =>
    intro i s hi
    have hil : i < l.length := by omega
    rw [List.drop_eq_getElem_cons hil, sumR, ← rdR_at hil]
    by_cases h : (addR s (rdR l i)).2 = 0
    · rw [if_pos h]
      refine Ev.step (fun k => ?_) (ih (i + 1) _ (by omega))
      simp only [sumR_l0]
      rw [if_pos (by omega), if_pos (by omega), if_pos h, w64 (by omega) (by omega)]; rfl
    · rw [if_neg h]
      refine Ev.step (f := fun _ => some _) (fun k => ?_) (Ev.now _)
      simp only [sumR_l0]
      rw [if_pos (by omega), if_pos (by omega), if_neg h]
def sumS (l : List Rt) : Rt × Int := if 4096 < l.length then (zR, 8) else if l.all rvB = true then sumR l ⟨false, [], [1]⟩ else (zR, 3)
end Go.Proofs.Ytiondkijgpjgcaa.Px
namespace Go.Proofs.Ytiondkijgpjgcaa.Pw
open Go Go.RowKit
theorem Wk.frzCell {base : Nat} {env : List AV} {st : Stores} {nx : Nat} (b j : Nat) (k : Blk) (a : AV) (x : PV) (rd : List Nat) (hk : get st b = some k) (ha : k.cells[j]? = some a) (h : Pw.frz (get st) 9 a = some (x, rd)) (hr : b ∉ rd) :
    Wk base env st nx env (put (delL st rd) b (some (Blk.mk k.el (k.cells.set j (.p x))))) nx := fun hb => ⟨hb, fun F μ W c hA => by
  obtain ⟨h1, h2⟩ := hA.rs.dels rd
  have e0 : ∀ y, get (put (delL st rd) b (some (Blk.mk k.el (k.cells.set j (.p x))))) y = if y = b then some (Blk.mk k.el (k.cells.set j (.p x))) else dels (get st) rd y := fun y => by
    rw [get_put, get_delL]; rfl
  have eb : dels (get st) rd b = some k := by unfold dels; rw [if_neg hr]; exact hk
  have hM : ∀ B, Mut F μ (get (put (delL st rd) b (some (Blk.mk k.el (k.cells.set j (.p x)))))) B ↔ Mut F μ (dels (get st) rd) B := fun B => by
    unfold Mut
    constructor
    · rintro (h | ⟨y, hy, hB⟩)
      · exact .inl h
      · refine .inr ⟨y, ?_, hB⟩
        rw [e0] at hy
        by_cases e : y = b
        · subst e; rw [eb]; simp
        · rw [if_neg e] at hy; exact hy
    · rintro (h | ⟨y, hy, hB⟩)
      · exact .inl h
      · refine .inr ⟨y, ?_, hB⟩
        rw [e0]
        by_cases e : y = b
        · rw [if_pos e]; simp
        · rw [if_neg e]; exact hy
  have hS : RepS F μ (get (put (delL st rd) b (some (Blk.mk k.el (k.cells.set j (.p x)))))) W := by
    refine ⟨fun y q hy => ?_, fun y y' B hy hy' hB hB' => ?_, h1.low⟩
    · rw [e0] at hy
      by_cases e : y = b
      · subst e
        rw [if_pos rfl] at hy
        injection hy with hy; subst hy
        rcases h1.at_ y k eb with ⟨_, h0⟩ | ⟨B, cs, q1, q2, q3, q4, q5, q6⟩
        · rw [h0] at ha; simp at ha
        · refine .inr ⟨B, cs, q1, q2, by rw [Blk.mk_el]; exact q3, by rw [Blk.mk_cells, List.length_set]; exact q4, fun i hi => q5 i (by rw [Blk.mk_cells, List.length_set] at hi; exact hi), fun i a' ha' => ?_⟩
          rw [Blk.mk_cells, List.getElem?_set] at ha'
          split at ha'
          · rename_i e; subst e
            split at ha'
            · injection ha' with ha'; subst ha'
              rcases hA.rs.at_ y k hk with ⟨_, h0⟩ | ⟨B', cs', p1, p2, p3, p4, p5, p6⟩
              · rw [h0] at ha; simp at ha
              · rw [q1] at p1; injection p1 with p1; subst p1
                rw [q3] at p3; injection p3 with p3; injection p3 with p3 _ _; subst p3
                exact .p _ _ (((frz_both hA.rs rd 9).1 _ _ _ _ h (fun b hb => hb) (p6 _ a ha)).mut fun B hB => (hM B).1 hB)
            · cases ha'
          · exact (q6 i a' ha').mut fun B hB => (hM B).1 hB
      · rw [if_neg e] at hy
        rcases h1.at_ y q hy with h0 | ⟨B, cs, q1, q2, q3, q4, q5, q6⟩
        · exact .inl h0
        · exact .inr ⟨B, cs, q1, q2, q3, q4, q5, fun i a' ha' => (q6 i a' ha').mut fun B hB => (hM B).1 hB⟩
    · have t : ∀ z, get (put (delL st rd) b (some (Blk.mk k.el (k.cells.set j (.p x))))) z ≠ none → dels (get st) rd z ≠ none := fun z hz => by
        rw [e0] at hz
        by_cases e : z = b
        · subst e; rw [eb]; simp
        · rw [if_neg e] at hz; exact hz
      exact h1.inj y y' B (t y hy) (t y' hy') hB hB'
  have hMo : ∀ B, Mut F μ (get (put (delL st rd) b (some (Blk.mk k.el (k.cells.set j (.p x)))))) B → Mut F μ (get st) B := fun B hB => mut_dels ((hM B).1 hB)
  refine ⟨μ, ⟨hS, ⟨hA.re.1, fun s y hy => (hA.re.2.1 s y hy).mut hMo, hA.re.2.2.mut hMo⟩, hA.df, fun y hy => ⟨(hA.fr y hy).1, ?_⟩⟩, ?_⟩
  · rw [e0]
    have hy0 := (hA.fr y hy).2
    by_cases e : y = b
    · subst e; rw [hk] at hy0; cases hy0
    · rw [if_neg e]; unfold dels; split
      · rfl
      · exact hy0
  · have e2 : (Mut F μ (get (put (delL st rd) b (some (Blk.mk k.el (k.cells.set j (.p x))))))) = Mut F μ (dels (get st) rd) := funext fun B => propext (hM B)
    rw [e2]
    exact h2.to base fun _ _ => rfl⟩
end Go.Proofs.Ytiondkijgpjgcaa.Pw
namespace Go.Proofs.Ytiondkijgpjgcaa.Pw
open Go Wd Px Mat
set_option linter.unusedVariables false
set_option linter.unusedSimpArgs false
set_option maxRecDepth 100000
set_option maxHeartbeats 8000000
attribute [local irreducible] Int.tmod Int.tdiv
def RC (l : List Rt) : List PV := l.flatMap fun x => [B x.neg, N x.p, N x.q]
@[reducible] def RL (l : List Rt) : PV := .lst l.length (RC l)
theorem RC_len (l : List Rt) : (RC l).length = l.length * 3 := by
  induction l with
  | nil => rfl
  | cons a l ih => show (([B a.neg, N a.p, N a.q] : List PV) ++ RC l).length = _; rw [List.length_append, ih]; show 3 + l.length * 3 = (l.length + 1) * 3; omega
theorem RC_drop : ∀ (l : List Rt) (i : Nat), (RC l).drop (i * 3) = RC (l.drop i)
  | l, 0 => by simp
  | [], i + 1 => by simp [RC]
  | a :: l, i + 1 => by
    rw [List.drop_succ_cons, ← RC_drop l i]
    show (([B a.neg, N a.p, N a.q] : List PV) ++ RC l).drop _ = _
    rw [show (i + 1) * 3 = 3 + i * 3 by omega, ← List.drop_drop]; rfl
theorem getR {l : List Rt} {i : Int} (h0 : 0 ≤ i) (h1 : i < l.length) : ((RC l).drop (i.toNat * 3)).take 3 = [B (rdR l i).neg, N (rdR l i).p, N (rdR l i).q] := by
  obtain ⟨n, rfl⟩ : ∃ n : Nat, i = n := ⟨i.toNat, by omega⟩
  have hn : n < l.length := by omega
  rw [Int.toNat_natCast, RC_drop, List.drop_eq_getElem_cons hn, rdR_at hn]; rfl
theorem rat_valid.snd (k : Nat) (l : List Rt) (r : Bool) (h : validR_l0 k l 0 = some r) : Sound Try.prog 62 [RL l] (B r) := by
  have hg := fun i : Int => getR (l := l) (i := i)
  have hlen := RC_len l
  refine Sound.of_WP tok Try.func62 rfl rfl ?_; simp only [Try.f62, args0, List.map, List.length_cons, List.length_nil, Nat.reduceAdd, Nat.reduceSub, List.replicate, List.cons_append, List.nil_append]
  repeat' (first | refine WP_seq ?_ | refine WP_block ?_ | refine regA 64 fun KQ hKQ => ?_ | refine regD 64 fun KQ hKQ => ?_ | refine opsA rfl rfl rfl rfl (nrmA ?_) | refine opsW_skip rfl (nrmA ?_) | (refine opsW_nil ⟨by kernel_rfl, hKQ _ _ _ (nrmB ?_)⟩; clear hKQ KQ) | (refine opsW_nil (hKQ _ _ _ (nrmB ?_)); clear hKQ KQ) | refine condT rfl ?_ | refine condF rfl ?_ | refine WP_skip (nrmB ?_) | refine WP_ret (nrmC ?_) | refine WP_exit (nrmC ?_))
  refine WP_loop (WPL_weaken ?_ (WPL_rec (α := Int) (fun k x => validR_l0 k l x) r (fun x => (mkE 15 [(5, .p (RL l)), (6, .p (I (l.length : Int))), (7, .p (I x))], [], 0)) ?_ k _ h))
  · exact wkA
  · clear h; try clear k
    intro k x K ih h
    simp only [mkE, List.replicate, List.foldl, List.set]
    cases k with
    | zero => simp [validR_l0] at h
    | succ k =>
      simp only [validR_l0] at h
      repeat' (first | (simp only [if_true, if_false, Bool.false_eq_true, Bool.not_true, Bool.not_false, reduceIte] at h) | (split at h) | (rw [Option.bind_eq_some_iff] at h; obtain ⟨_, hbb, h⟩ := h; try (simp only [Option.some.injEq] at hbb; subst hbb)) | (cases h; done) | (simp only [Option.some.injEq, Prod.mk.injEq] at h; subst h) | (simp only [Option.some.injEq, Prod.mk.injEq] at h; (have h1 := h.1; have h2 := h.2; clear h; subst h1; first | subst h2 | (obtain ⟨h3, h4⟩ := h2; subst h3; subst h4))))
      all_goals
        repeat' (first | refine WP_seq ?_ | refine WP_block ?_ | refine regA 64 fun KQ hKQ => ?_ | refine regD 64 fun KQ hKQ => ?_ | refine opsA rfl rfl rfl rfl (nrmA ?_) | refine callA rfl rfl rfl (nrmA ?_) (hs := rat_Valid.c (rdR l x)) | refine opsW_skip rfl (nrmA ?_) | (refine opsW_nil ⟨by kernel_rfl, hKQ _ _ _ (nrmB ?_)⟩; clear hKQ KQ) | (refine opsW_nil (hKQ _ _ _ (nrmB ?_)); clear hKQ KQ) | refine condT rfl ?_ | refine condF rfl ?_ | refine WP_skip (nrmB ?_) | refine WP_ret (nrmC ?_) | refine WP_exit (nrmC ?_))
        first
        | exact endA
        | (refine ih _ _ _ _ _ (Nat.lt_succ_self _) h ?_; exact wkA)
theorem rat_valid.c (l : List Rt) : Sound Try.prog 62 [RL l] (B (l.all rvB)) :=
  Sound.len (Entered.of Try.func62 rfl rfl) 0 l.length (RC l) rfl fun hl => by
    exact (ev_validR l hl l.length 0 (by omega) rfl).rounds.elim fun k h => rat_valid.snd k l _ h
end Go.Proofs.Ytiondkijgpjgcaa.Pw
namespace Go.Proofs.Ytiondkijgpjgcaa.Px
open Mat Wd
set_option linter.unusedVariables false
/-- All indices from i on, d of them. -/
def allI (p : Int → Bool) : Nat → Nat → Bool
  | 0, _ => true
  | d + 1, i => p (i : Int) && allI p d (i + 1)
def allI_l0 (p : Int → Bool) (n : Nat) : Nat → Int → Option Bool
  | 0, _ => none
  | k + 1, i => if i < (n : Int) then (if 0 ≤ i then (if p i = true then allI_l0 p n k (wrap64 (i + 1)) else some false) else none) else some true
theorem ev_allI (p : Int → Bool) (n : Nat) (hn : n ≤ 9223372036854775807) : ∀ (d i : Nat), i + d = n → Ev (fun k => allI_l0 p n k (i : Int)) (allI p d i) := by
  intro d
  induction d with
  | zero =>
    intro i hi
    refine Ev.step (f := fun _ => some _) (fun k => ?_) (Ev.now _)
    simp only [allI_l0, allI]
    rw [if_neg (by omega)]
  | succ d ih =>
    intro i hi
    by_cases h : p (i : Int) = true
    · have e : allI p (d + 1) i = allI p d (i + 1) := by simp only [allI, h, Bool.true_and]
      rw [e]
      refine Ev.step (fun k => ?_) (ih (i + 1) (by omega))
      simp only [allI_l0]
      rw [if_pos (by omega), if_pos (by omega), if_pos h, w64 (by omega) (by omega)]; rfl
    · have e : allI p (d + 1) i = false := by simp only [allI, Bool.and_eq_false_iff]; exact .inl (by simpa using h)
      rw [e]
      refine Ev.step (f := fun _ => some _) (fun k => ?_) (Ev.now _)
      simp only [allI_l0]
      rw [if_pos (by omega), if_pos (by omega), if_neg h]
theorem allI_at (p : Int → Bool) : ∀ (d i : Nat), allI p d i = true → ∀ j, i ≤ j → j < i + d → p (j : Int) = true
  | 0, i, _, j, h1, h2 => by omega
  | d + 1, i, h, j, h1, h2 => by
    simp only [allI, Bool.and_eq_true] at h
    by_cases e : j = i
    · subst e; exact h.1
    · exact allI_at p d (i + 1) h.2 j (by omega) (by omega)
theorem allI_of (p : Int → Bool) : ∀ (d i : Nat), (∀ j, i ≤ j → j < i + d → p (j : Int) = true) → allI p d i = true
  | 0, i, _ => rfl
  | d + 1, i, h => by
    simp only [allI, Bool.and_eq_true]
    exact ⟨h i (Nat.le_refl _) (by omega), allI_of p d (i + 1) fun j h1 h2 => h j (by omega) (by omega)⟩
def rdI (l : List Int) (i : Int) : Int := l.getD i.toNat 0
def rdL (l : List (List Int)) (i : Int) : List Int := l.getD i.toNat []
/-- An integer as a rational number. -/
def numR (n : Int) : Rt := (makeS n 1).1
/-- Integers times numbers, d of them from i on, and what was there; or the first error. -/
def dotG (l : List Int) (x : List Rt) : Nat → Nat → Rt → Rt × Int
  | 0, _, s => (s, 0)
  | d + 1, i, s => if (mulR (numR (rdI l i)) (rdR x i)).2 = 0 then (if (addR s (mulR (numR (rdI l i)) (rdR x i)).1).2 = 0 then dotG l x d (i + 1) (addR s (mulR (numR (rdI l i)) (rdR x i)).1).1 else (zR, (addR s (mulR (numR (rdI l i)) (rdR x i)).1).2)) else (zR, (mulR (numR (rdI l i)) (rdR x i)).2)
def dotS (l : List Int) (x : List Rt) : Rt × Int := dotG l x l.length 0 (numR 0)
def dot_l0 (l : List Int) (x : List Rt) : Nat → Rt → Int → Option (Rt × Int)
  | 0, _, _ => none
  | k + 1, s, i => if i < (l.length : Int) then (if 0 ≤ i then (if (mulR (numR (rdI l i)) (rdR x i)).2 = 0 then (if (addR s (mulR (numR (rdI l i)) (rdR x i)).1).2 = 0 then dot_l0 l x k (addR s (mulR (numR (rdI l i)) (rdR x i)).1).1 (wrap64 (i + 1)) else some (zR, (addR s (mulR (numR (rdI l i)) (rdR x i)).1).2)) else some (zR, (mulR (numR (rdI l i)) (rdR x i)).2)) else none) else some (s, 0)
theorem ev_dot (l : List Int) (x : List Rt) (hl : l.length ≤ 9223372036854775807) : ∀ (d i : Nat) (s : Rt), i + d = l.length → Ev (fun k => dot_l0 l x k s (i : Int)) (dotG l x d i s) := by
  intro d
  induction d with
  | zero =>
    intro i s hi
    refine Ev.step (f := fun _ => some _) (fun k => ?_) (Ev.now _)
    simp only [dot_l0, dotG]
    rw [if_neg (by omega)]
  | succ d ih =>
    intro i s hi
    simp only [dotG]
    by_cases h : (mulR (numR (rdI l i)) (rdR x i)).2 = 0
    · rw [if_pos h]
      by_cases g : (addR s (mulR (numR (rdI l i)) (rdR x i)).1).2 = 0
      · rw [if_pos g]
        refine Ev.step (fun k => ?_) (ih (i + 1) _ (by omega))
        simp only [dot_l0]
        rw [if_pos (by omega), if_pos (by omega), if_pos h, if_pos g, w64 (by omega) (by omega)]; rfl
      · rw [if_neg g]
        refine Ev.step (f := fun _ => some _) (fun k => ?_) (Ev.now _)
        simp only [dot_l0]
        rw [if_pos (by omega), if_pos (by omega), if_pos h, if_neg g]
    · rw [if_neg h]
      refine Ev.step (f := fun _ => some _) (fun k => ?_) (Ev.now _)
      simp only [dot_l0]
      rw [if_pos (by omega), if_pos (by omega), if_neg h]
/-- A linear program. -/
structure LP where
  c : List Int
  rows : List (List Int)
  need : List Int
def entB (n : Int) : Bool := !decide (n < -65536) && !decide (65536 < n)
def entS (l : List Int) : Bool := allI (fun i => entB (rdI l i)) l.length 0
def sizeS (p : LP) : Bool := allI (fun i => decide ((rdL p.rows i).length = p.c.length)) p.rows.length 0
def chkS (p : LP) : Int :=
  if p.c.length = 0 then 10 else if 1100 < p.c.length ∨ 8 < p.rows.length then 8 else if p.need.length ≠ p.rows.length then 3
  else if sizeS p = true then (if (entS p.c && entS p.need) && allI (fun i => entS (rdL p.rows i)) p.rows.length 0 then 0 else 1) else 3
def shortB (x : Rt) : Bool := decide (x.p.length ≤ 16) && decide (x.q.length ≤ 16)
/-- Numbers that are checked. -/
def lstS (x : List Rt) (n : Int) : Int :=
  if (x.length : Int) = n then (if allI (fun i => rvB (rdR x i)) x.length 0 = true then (if allI (fun i => shortB (rdR x i)) x.length 0 = true then (if allI (fun i => !(rdR x i).neg) x.length 0 = true then 0 else 1) else 32) else 3) else 3
/-- What the reference asks of numbers. -/
def fineS (x : List Rt) (n : Int) : Bool := decide ((x.length : Int) = n) && allI (fun i => rvB (rdR x i) && (!(rdR x i).neg && shortB (rdR x i))) x.length 0
theorem lst_fine (x : List Rt) (n : Int) : decide (lstS x n = 0) = fineS x n := by
  unfold lstS fineS
  by_cases h : (x.length : Int) = n
  · have key : allI (fun i => rvB (rdR x i) && (!(rdR x i).neg && shortB (rdR x i))) x.length 0 = (allI (fun i => rvB (rdR x i)) x.length 0 && (allI (fun i => shortB (rdR x i)) x.length 0 && allI (fun i => !(rdR x i).neg) x.length 0)) := by
      rw [Bool.eq_iff_iff]
      simp only [Bool.and_eq_true]
      constructor
      · intro a
        have a' := fun j h => allI_at _ _ _ a j (Nat.zero_le _) h
        simp only [Bool.and_eq_true] at a'
        exact ⟨allI_of _ _ _ fun j _ h => (a' j h).1, allI_of _ _ _ fun j _ h => (a' j h).2.2, allI_of _ _ _ fun j _ h => (a' j h).2.1⟩
      · rintro ⟨a, b, c⟩
        refine allI_of _ _ _ fun j h0 h => ?_
        simp only [Bool.and_eq_true]
        exact ⟨allI_at _ _ _ a j h0 h, allI_at _ _ _ c j h0 h, allI_at _ _ _ b j h0 h⟩
    rw [if_pos h, key, decide_eq_true h, Bool.true_and]
    cases allI (fun i => rvB (rdR x i)) x.length 0 <;> cases allI (fun i => shortB (rdR x i)) x.length 0 <;> cases allI (fun i => !(rdR x i).neg) x.length 0 <;> simp
  · rw [if_neg h, decide_eq_false h]; rfl
/-- A sum of products is at least (sg = 1), at most (sg = -1) a bound. -/
def bndS (l : List Int) (x : List Rt) (b sg : Int) : Bool := decide ((dotS l x).2 = 0) && (decide ((cmpR (dotS l x).1 (numR b)).2 = 0) && !decide ((cmpR (dotS l x).1 (numR b)).1 * sg < 0))
def feasS (p : LP) (x : List Rt) : Bool := decide (chkS p = 0) && (fineS x p.c.length && allI (fun i => bndS (rdL p.rows i) x (rdI p.need i) 1) p.rows.length 0)
def valueS (p : LP) (x : List Rt) : Rt × Int := if chkS p = 0 then (if lstS x p.c.length = 3 ∨ lstS x p.c.length = 32 then (zR, lstS x p.c.length) else dotS p.c x) else (zR, chkS p)
end Go.Proofs.Ytiondkijgpjgcaa.Px
