/- One step on the way to the rows: contracts of the program's functions, each for every argument that its statement names. -/
import Derived.Test.YtbjamhkhocjdkaaDk
namespace Go.Proofs.Ytbjamhkhocjdkaa.Px
open Go.RowKit Go.Proofs.YtbjamhkhocjdkaaW.PrintWords Go.Proofs.YtbjamhkhocjdkaaW.PrintLast Go.Proofs.YtbjamhkhocjdkaaW.PrintMore Go.Proofs.Ytbjamhkhocjdkaa.Mat
set_option linter.unusedVariables false
set_option linter.unusedSimpArgs false
def nn (x : Rt) : Int := if x.neg = true then -(val x.p) else val x.p
def dd (x : Rt) : Int := val x.q
theorem red_facts {a b : Int} (ha : 0 ≤ a) (hb : 0 < b) : 0 < gcdI a b ∧ a / gcdI a b * gcdI a b = a ∧ b / gcdI a b * gcdI a b = b ∧ 0 ≤ a / gcdI a b ∧ 0 < b / gcdI a b ∧ a / gcdI a b ≤ a ∧ b / gcdI a b ≤ b ∧ gcdI (a / gcdI a b) (b / gcdI a b) = 1 := by
  obtain ⟨m, rfl⟩ := Int.eq_ofNat_of_zero_le ha
  obtain ⟨n, rfl⟩ := Int.eq_ofNat_of_zero_le (Int.le_of_lt hb)
  have hn : 0 < n := by omega
  have hg : gcdI (m : Int) (n : Int) = ((Nat.gcd m n : Nat) : Int) := by simp [gcdI]
  have hp : 0 < Nat.gcd m n := Nat.gcd_pos_of_pos_right _ hn
  rw [hg]
  have e1 : (m : Int) / ((Nat.gcd m n : Nat) : Int) = ((m / Nat.gcd m n : Nat) : Int) := by simp
  have e2 : (n : Int) / ((Nat.gcd m n : Nat) : Int) = ((n / Nat.gcd m n : Nat) : Int) := by simp
  rw [e1, e2]
  have f1 := Nat.div_mul_cancel (Nat.gcd_dvd_left m n)
  have f2 := Nat.div_mul_cancel (Nat.gcd_dvd_right m n)
  have f3 := Nat.div_le_self m (Nat.gcd m n)
  have f4 := Nat.div_le_self n (Nat.gcd m n)
  have f5 := Nat.gcd_div_gcd_div_gcd_of_pos_right (n := m) hn
  have f6 : 0 < n / Nat.gcd m n := Nat.div_pos (Nat.le_of_dvd hn (Nat.gcd_dvd_right m n)) hp
  generalize m / Nat.gcd m n = a at *
  generalize n / Nat.gcd m n = b at *
  refine ⟨by omega, by exact_mod_cast f1, by exact_mod_cast f2, by omega, by omega, by omega, by omega, ?_⟩
  simp only [gcdI, Int.toNat_natCast, f5]
  rfl
theorem rv_facts {x : Rt} (h : rvB x = true) : 0 < dd x ∧ 0 ≤ val x.p ∧ (x.neg = true → 0 < val x.p) ∧ gcdI (val x.p) (val x.q) = 1 ∧ dg (val x.p) = x.p ∧ dg (val x.q) = x.q := by
  obtain ⟨h1, h2, h3, h4, h5⟩ := rvB_iff.1 h
  have o1 := okN_iff.1 h1
  have o2 := okN_iff.1 h2
  exact ⟨val_pos o2.2 h3, o1.nonneg, fun hn => val_pos o1.2 (h4 hn), h5, dg_val o1.2, dg_val o2.2⟩
theorem neg_iff {x : Rt} (h : rvB x = true) : x.neg = true ↔ nn x < 0 := by
  obtain ⟨h1, h2, h3, _⟩ := rv_facts h
  unfold nn
  constructor
  · intro hn
    have := h3 hn
    rw [if_pos hn]
    omega
  · intro hl
    by_cases hn : x.neg = true
    · exact hn
    · rw [if_neg hn] at hl
      omega
theorem neg_false {x : Rt} (h : rvB x = true) (h0 : 0 ≤ nn x) : x.neg = false := by
  have := neg_iff h
  cases hn : x.neg
  · rfl
  · have := this.1 hn
    omega
theorem redS_ok (neg : Bool) {p q : List Int} (hp : okN p = true) (hq : okN q = true) (hq0 : q ≠ []) : rvB (redS neg p q) = true ∧ nn (redS neg p q) * val q = (if neg = true then -(val p) else val p) * dd (redS neg p q) := by
  have o1 := okN_iff.1 hp
  have o2 := okN_iff.1 hq
  have hqp := val_pos o2.2 hq0
  obtain ⟨g0, g1, g2, g3, g4, g5, g6, g7⟩ := red_facts o1.nonneg hqp
  have l1 := o1.lt
  have l2 := o2.lt
  have k1 := ok_dg g3 (by omega)
  have k2 := ok_dg (Int.le_of_lt g4) (by omega)
  have v1 := val_dg g3
  have v2 := val_dg (Int.le_of_lt g4)
  have z2 : dg (val q / gcdI (val p) (val q)) ≠ [] := fun e => by have := (dg_nil (Int.le_of_lt g4)).1 e; omega
  have hl : (0 < (dg (val p / gcdI (val p) (val q))).length) ↔ 0 < val p / gcdI (val p) (val q) := by
    constructor
    · intro h
      have : val p / gcdI (val p) (val q) ≠ 0 := fun e => by rw [e, dg_zero] at h; simp at h
      omega
    · intro h
      have : dg (val p / gcdI (val p) (val q)) ≠ [] := fun e => by have := (dg_nil g3).1 e; omega
      exact List.length_pos_iff.2 this
  constructor
  · refine rvB_iff.2 ⟨okN_iff.2 k1, okN_iff.2 k2, z2, ?_, ?_⟩
    · intro h e
      simp only [redS, Bool.and_eq_true, decide_eq_true_eq] at h e
      rw [e] at h
      simp at h
    · simp only [redS, v1, v2]
      exact g7
  · have hz : redS neg p q = ⟨neg && decide (0 < (dg (val p / gcdI (val p) (val q))).length), dg (val p / gcdI (val p) (val q)), dg (val q / gcdI (val p) (val q))⟩ := rfl
    rw [hz]
    generalize val p / gcdI (val p) (val q) = a at *
    generalize val q / gcdI (val p) (val q) = b at *
    generalize gcdI (val p) (val q) = g at *
    have e1 : dd ⟨neg && decide (0 < (dg a).length), dg a, dg b⟩ = b := v2
    have e2 : nn ⟨neg && decide (0 < (dg a).length), dg a, dg b⟩ = if neg = true then -a else a := by
      simp only [nn]
      cases neg
      · simp [v1]
      · by_cases ha : 0 < a
        · have := hl.2 ha
          simp [this, v1]
        · have h0 : a = 0 := by omega
          subst h0
          simp [dg_zero, val]
    rw [e1, e2, ← g1, ← g2]
    cases neg
    · simp only [Bool.false_eq_true, if_false]
      grind
    · simp only [if_true]
      grind
theorem canon {x y : Rt} (hx : rvB x = true) (hy : rvB y = true) (h : nn x * dd y = nn y * dd x) : x = y := by
  obtain ⟨a1, a2, a3, a4, a5, a6⟩ := rv_facts hx
  obtain ⟨b1, b2, b3, b4, b5, b6⟩ := rv_facts hy
  obtain ⟨xn, xp, xq⟩ := x
  obtain ⟨yn, yp, yq⟩ := y
  simp only [nn, dd] at *
  have key : ∀ P Q P' Q' : Int, 0 ≤ P → 0 < Q → 0 ≤ P' → 0 < Q' → gcdI P Q = 1 → gcdI P' Q' = 1 → P * Q' = P' * Q → P = P' ∧ Q = Q' := by
    intro P Q P' Q' h1 h2 h3 h4 h5 h6 h7
    obtain ⟨p, rfl⟩ := Int.eq_ofNat_of_zero_le h1
    obtain ⟨q, rfl⟩ := Int.eq_ofNat_of_zero_le (Int.le_of_lt h2)
    obtain ⟨p', rfl⟩ := Int.eq_ofNat_of_zero_le h3
    obtain ⟨q', rfl⟩ := Int.eq_ofNat_of_zero_le (Int.le_of_lt h4)
    simp only [gcdI, Int.toNat_natCast] at h5 h6
    have h5' : Nat.gcd p q = 1 := by exact_mod_cast h5
    have h6' : Nat.gcd p' q' = 1 := by exact_mod_cast h6
    have h7' : p * q' = p' * q := by exact_mod_cast h7
    have d1 : q ∣ q' := by
      have : q ∣ p * q' := ⟨p', by rw [h7', Nat.mul_comm]⟩
      exact Nat.Coprime.dvd_of_dvd_mul_left (by rw [Nat.Coprime, Nat.gcd_comm]; exact h5') this
    have d2 : q' ∣ q := by
      have : q' ∣ p' * q := ⟨p, by rw [← h7', Nat.mul_comm]⟩
      exact Nat.Coprime.dvd_of_dvd_mul_left (by rw [Nat.Coprime, Nat.gcd_comm]; exact h6') this
    have e := Nat.dvd_antisymm d1 d2
    subst e
    have : p = p' := Nat.eq_of_mul_eq_mul_right (by omega) h7'
    subst this
    exact ⟨rfl, rfl⟩
  have fin : ∀ (n : Bool), val xp * val yq = val yp * val xq → xn = yn → (⟨xn, xp, xq⟩ : Rt) = ⟨yn, yp, yq⟩ := by
    intro _ he hn
    obtain ⟨e1, e2⟩ := key _ _ _ _ a2 a1 b2 b1 a4 b4 he
    rw [hn, ← a5, ← a6, ← b5, ← b6, e1, e2]
  cases xn <;> cases yn <;> simp only [Bool.false_eq_true, if_false, if_true, true_implies] at h a3 b3
  · exact fin true h rfl
  · exfalso
    have h1 : 0 ≤ val xp * val yq := Int.mul_nonneg a2 (Int.le_of_lt b1)
    have h2 : 0 < val yp * val xq := Int.mul_pos b3 a1
    rw [Int.neg_mul] at h
    omega
  · exfalso
    have h1 : 0 ≤ val yp * val xq := Int.mul_nonneg b2 (Int.le_of_lt a1)
    have h2 : 0 < val xp * val yq := Int.mul_pos a3 b1
    rw [Int.neg_mul] at h
    omega
  · rw [Int.neg_mul, Int.neg_mul] at h
    exact fin true (by omega) rfl
theorem mulR_ok {x y z : Rt} {e : Int} (h : mulR x y = (z, e)) : (e = 0 ∧ rvB x = true ∧ rvB y = true ∧ rvB z = true ∧ nn z * (dd x * dd y) = nn x * nn y * dd z) ∨ (e ≠ 0 ∧ z = zR) := by
  unfold mulR at h
  split at h
  · rename_i hv
    obtain ⟨hx, hy⟩ := hv
    obtain ⟨x1, x2, x3, x4, x5⟩ := rvB_iff.1 hx
    obtain ⟨y1, y2, y3, y4, y5⟩ := rvB_iff.1 hy
    have n1 := (okN_iff.1 x1).nonneg
    have n2 := (okN_iff.1 y1).nonneg
    have q1 := val_pos (okN_iff.1 x2).2 x3
    have q2 := val_pos (okN_iff.1 y2).2 y3
    rw [mulS_ok x1 y1, mulS_ok x2 y2] at h
    rcases fitS_cases (val x.p * val y.p) with f1 | f1 <;> rcases fitS_cases (val x.q * val y.q) with f2 | f2 <;> rw [f1, f2] at h <;> simp at h
    · obtain ⟨hz, he⟩ := h
      have k1 := fit_facts (Int.mul_nonneg n1 n2) f1
      have k2 := fit_facts (Int.mul_nonneg (Int.le_of_lt q1) (Int.le_of_lt q2)) f2
      have r := redS_ok (!(x.neg == y.neg)) k1.1 k2.1 (k2.2.2.1 (by have := Int.mul_pos q1 q2; omega))
      have hz' : redS (!(x.neg == y.neg)) (dg (val x.p * val y.p)) (dg (val x.q * val y.q)) = z := by simpa using hz
      rw [hz'] at r
      refine .inl ⟨he.symm, hx, hy, r.1, ?_⟩
      have r2 := r.2
      rw [k1.2.1, k2.2.1] at r2
      unfold dd nn at *
      cases hxn : x.neg <;> cases hyn : y.neg <;> simp [hxn, hyn] at r2 ⊢ <;> grind
    all_goals (obtain ⟨hz, he⟩ := h; exact .inr ⟨by omega, by rw [← hz]⟩)
  · injection h with h1 h2
    exact .inr ⟨by omega, h1.symm⟩
theorem plusS_val {m n : Bool} {a b : List Int} (ha : okN a = true) (hb : okN b = true) (h : (plusS m a n b).2.2 = 0) : (if (plusS m a n b).1 = true then -(val (plusS m a n b).2.1) else val (plusS m a n b).2.1) = (if m = true then -(val a) else val a) + (if n = true then -(val b) else val b) := by
  have oa := okN_iff.1 ha
  have ob := okN_iff.1 hb
  have na := oa.nonneg
  have nb := ob.nonneg
  unfold plusS at h ⊢
  split at h
  · rename_i e
    subst e
    have e1 : addS a b = fitS (val a + val b) := by unfold addS; rw [if_pos ⟨ha, hb⟩]
    simp only [if_true]
    rw [e1] at h ⊢
    have e2 : fitS (val a + val b) = ((fitS (val a + val b)).1, 0) := by rw [← h]
    have k := fit_facts (by omega) e2
    rw [k.2.1]
    cases m <;> simp <;> omega
  · rename_i e
    rw [if_neg e]
    have e' : n = !m := by cases m <;> cases n <;> simp at e ⊢
    subst e'
    split at h
    · rename_i hc
      rw [if_pos hc]
      have h' : val a < val b := by
        unfold cmpS at hc
        split at hc
        · assumption
        · split at hc <;> omega
      have e1 : subS b a = (dg (val b - val a), 0) := by unfold subS; rw [if_pos ⟨hb, ha⟩, if_neg (by omega)]
      rw [e1]
      simp only
      rw [val_dg (by omega)]
      cases m <;> simp <;> omega
    · rename_i hc
      rw [if_neg hc]
      have h' : val b ≤ val a := by
        unfold cmpS at hc
        split at hc <;> omega
      have e1 : subS a b = (dg (val a - val b), 0) := by unfold subS; rw [if_pos ⟨ha, hb⟩, if_neg (by omega)]
      rw [e1]
      simp only
      rw [val_dg (by omega)]
      cases m <;> simp <;> omega
theorem addR_ok {x y z : Rt} {e : Int} (h : addR x y = (z, e)) : (e = 0 ∧ rvB x = true ∧ rvB y = true ∧ rvB z = true ∧ nn z * (dd x * dd y) = (nn x * dd y + nn y * dd x) * dd z) ∨ (e ≠ 0 ∧ z = zR) := by
  unfold addR at h
  split at h
  · rename_i hv
    obtain ⟨hx, hy⟩ := hv
    obtain ⟨x1, x2, x3, x4, x5⟩ := rvB_iff.1 hx
    obtain ⟨y1, y2, y3, y4, y5⟩ := rvB_iff.1 hy
    have n1 := (okN_iff.1 x1).nonneg
    have n2 := (okN_iff.1 y1).nonneg
    have q1 := val_pos (okN_iff.1 x2).2 x3
    have q2 := val_pos (okN_iff.1 y2).2 y3
    have g1 := mulS_ok x1 y2
    have g2 := mulS_ok y1 x2
    have g3 := mulS_ok x2 y2
    split at h
    · rename_i hz
      obtain ⟨z1, z2, z3, z4⟩ := hz
      injection h with h1 h2
      have p1 : fitS (val x.p * val y.q) = ((mulS x.p y.q).1, 0) := by rw [← g1, ← z1]
      have p2 : fitS (val y.p * val x.q) = ((mulS y.p x.q).1, 0) := by rw [← g2, ← z2]
      have p3 : fitS (val x.q * val y.q) = ((mulS x.q y.q).1, 0) := by rw [← g3, ← z3]
      have k1 := fit_facts (Int.mul_nonneg n1 (Int.le_of_lt q2)) p1
      have k2 := fit_facts (Int.mul_nonneg n2 (Int.le_of_lt q1)) p2
      have k3 := fit_facts (Int.mul_nonneg (Int.le_of_lt q1) (Int.le_of_lt q2)) p3
      have k4 := plusS_val (m := x.neg) (n := y.neg) k1.1 k2.1 z4
      have k5 := plusS_ok (m := x.neg) (n := y.neg) k1.1 k2.1
      have r := redS_ok (plusS x.neg (mulS x.p y.q).1 y.neg (mulS y.p x.q).1).1 k5.1 k3.1 (k3.2.2.1 (by have := Int.mul_pos q1 q2; omega))
      rw [h1] at r
      refine .inl ⟨h2.symm, hx, hy, r.1, ?_⟩
      have r2 := r.2
      rw [k4, k1.2.1, k2.2.1, k3.2.1] at r2
      unfold dd nn at *
      cases hxn : x.neg <;> cases hyn : y.neg <;> simp [hxn, hyn] at r2 ⊢ <;> grind
    · injection h with h1 h2
      exact .inr ⟨by omega, h1.symm⟩
  · injection h with h1 h2
    exact .inr ⟨by omega, h1.symm⟩
theorem makeS_ok {p q : Int} (hp : inR p = true) (hq : inR q = true) (h0 : 0 < q) {z : Rt} {e : Int} (h : makeS p q = (z, e)) : e = 0 ∧ rvB z = true ∧ nn z * q = p * dd z := by
  unfold makeS at h
  rw [if_pos ⟨hp, hq⟩, if_neg (by omega)] at h
  injection h with h1 h2
  obtain ⟨a1, a2⟩ := absI_ok hp
  obtain ⟨b1, b2⟩ := absI_ok hq
  have r := redS_ok (!(decide (p < 0) == decide (q < 0))) a1 b1 (b2 (by omega))
  rw [h1] at r
  have v1 : val (dg (absI p)) = absI p := val_dg (by unfold absI; split <;> omega)
  have v2 : val (dg (absI q)) = absI q := val_dg (by unfold absI; split <;> omega)
  refine ⟨h2.symm, r.1, ?_⟩
  have r2 := r.2
  rw [v1, v2] at r2
  have e1 : absI q = q := by unfold absI; rw [if_neg (by omega)]
  rw [e1] at r2
  rw [r2]
  congr 1
  unfold absI
  by_cases hn : p < 0
  · rw [if_pos (by simp [hn]; omega), if_pos hn]
    omega
  · rw [if_neg (by simp [hn]; omega), if_neg hn]
theorem makeS_neg {p q : Int} (hp : 0 ≤ p) (hq : 0 < q) : (makeS p q).1.neg = false := by
  unfold makeS
  split
  · split
    · rfl
    · simp only [redS]
      have : (decide (p < 0)) = false := by simp; omega
      have : (decide (q < 0)) = false := by simp; omega
      simp [*]
  · rfl
theorem negR_ok {x : Rt} (h : rvB x = true) : rvB (negR x) = true ∧ nn (negR x) = -(nn x) ∧ dd (negR x) = dd x := by
  obtain ⟨h1, h2, h3, h4, h5⟩ := rvB_iff.1 h
  have o1 := okN_iff.1 h1
  have hl : 0 < x.p.length ↔ 0 < val x.p := by
    constructor
    · intro h
      exact val_pos o1.2 (List.length_pos_iff.1 h)
    · intro h
      refine List.length_pos_iff.2 (fun e => ?_)
      rw [e] at h
      simp [val] at h
  refine ⟨rvB_iff.2 ⟨h1, h2, h3, ?_, h5⟩, ?_, rfl⟩
  · intro hn e
    simp only [negR, Bool.and_eq_true, decide_eq_true_eq] at hn e
    rw [e] at hn
    simp at hn
  · have hn := o1.nonneg
    have h4' := fun hx => val_pos o1.2 (h4 hx)
    clear h h4 h5 h2 h3
    obtain ⟨xn, xp, xq⟩ := x
    simp only [negR, nn] at *
    cases xn
    · by_cases hp : 0 < val xp
      · simp [hl.2 hp]
      · have : ¬ 0 < xp.length := fun h => hp (hl.1 h)
        simp only [this, decide_false, Bool.and_false, Bool.false_eq_true, if_false]
        omega
    · simp
theorem subR_ok {x y z : Rt} {e : Int} (h : subR x y = (z, e)) : (e = 0 ∧ rvB x = true ∧ rvB y = true ∧ rvB z = true ∧ nn z * (dd x * dd y) = (nn x * dd y - nn y * dd x) * dd z) ∨ (e ≠ 0 ∧ z = zR) := by
  unfold subR at h
  split at h
  · rename_i hv
    obtain ⟨n1, n2, n3⟩ := negR_ok hv.2
    rcases addR_ok h with ⟨h1, h2, h3, h4, h5⟩ | h
    · refine .inl ⟨h1, h2, hv.2, h4, ?_⟩
      rw [n2, n3] at h5
      rw [h5]
      grind
    · exact .inr h
  · injection h with h1 h2
    exact .inr ⟨by omega, h1.symm⟩
theorem nonneg_of_mul {a k : Int} (hk : 0 < k) (h : 0 ≤ a * k) : 0 ≤ a := by
  rcases Int.lt_or_le a 0 with h1 | h1
  · have := Int.mul_neg_of_neg_of_pos h1 hk
    omega
  · exact h1
theorem addR_neg {x y : Rt} (hx : x.neg = false) (hy : y.neg = false) : (addR x y).1.neg = false := by
  unfold addR
  split
  · split
    · have : (plusS x.neg (mulS x.p y.q).1 y.neg (mulS y.p x.q).1).1 = false := by unfold plusS; rw [hx, hy, if_pos rfl]
      simp only [redS, this]
      rfl
    · rfl
  · rfl
theorem mulR_neg {x y : Rt} (hx : x.neg = false) (hy : y.neg = false) : (mulR x y).1.neg = false := by
  unfold mulR
  split
  · split
    · split
      · simp [redS, hx, hy]
      · rfl
    · rfl
  · rfl
theorem timesR_neg {x : Rt} {n m : Int} (hx : x.neg = false) (hn : 0 ≤ n) (hm : 0 < m) : (timesR x n m).neg = false := mulR_neg hx (makeS_neg hn hm)
theorem rest_neg {x : Rt} {n m : Int} (hn : 0 ≤ n) (hnm : n ≤ m) (hm : 0 < m) (hr : inR n = true) (hr' : inR m = true) (hx : x.neg = false) : (subR x (timesR x n m)).1.neg = false := by
  obtain ⟨t, e1, g1⟩ : ∃ r e, makeS n m = (r, e) := ⟨_, _, rfl⟩
  obtain ⟨p, e2, g2⟩ : ∃ r e, mulR x t = (r, e) := ⟨_, _, rfl⟩
  have gt : timesR x n m = p := by unfold timesR; rw [g1, g2]
  rw [gt]
  obtain ⟨r, e3, g3⟩ : ∃ r e, subR x p = (r, e) := ⟨_, _, rfl⟩
  rw [g3]
  rcases subR_ok g3 with ⟨_, vx, vp, vr, h3⟩ | ⟨_, h⟩
  rotate_left
  · rw [h]
  obtain ⟨_, vt, h1⟩ := makeS_ok hr hr' hm g1
  rcases mulR_ok g2 with ⟨_, _, _, _, h2⟩ | ⟨_, h⟩
  rotate_left
  · rw [h] at vp
    exact absurd vp (by decide)
  refine neg_false vr ?_
  have dx := (rv_facts vx).1
  have dp := (rv_facts vp).1
  have dt := (rv_facts vt).1
  have dr := (rv_facts vr).1
  have nx : 0 ≤ nn x := by unfold nn; rw [hx]; exact (rv_facts vx).2.1
  have k1 : nn t ≤ dd t := by
    have : nn t * m ≤ dd t * m := by rw [h1, Int.mul_comm n]; exact Int.mul_le_mul_of_nonneg_left hnm (Int.le_of_lt dt)
    exact Int.le_of_mul_le_mul_right this hm
  have k2 : nn p * dd x * dd t ≤ nn x * dd p * dd t := by
    have e : nn p * dd x * dd t = nn x * dd p * nn t := by
      have := h2
      grind
    rw [e]
    exact Int.mul_le_mul_of_nonneg_left k1 (Int.mul_nonneg nx (Int.le_of_lt dp))
  have k3 : nn p * dd x ≤ nn x * dd p := Int.le_of_mul_le_mul_right k2 dt
  refine nonneg_of_mul (Int.mul_pos dx dp) ?_
  rw [h3]
  exact Int.mul_nonneg (by omega) (Int.le_of_lt dr)
def doneR (f r c : Int) (x : Rt) : Rt × Rt × Rt :=
  let head := (addR (makeS f 1).1 x).1
  let paper := timesR head r 1000
  let rest := (subR head paper).1
  let white := timesR rest c 1000
  (paper, (subR rest white).1, white)
theorem checkS_zero {f r c : Int} (h : checkS f r c = 0) : (0 ≤ f ∧ f ≤ 1099511627776) ∧ (1 ≤ r ∧ r ≤ 1000) ∧ 0 ≤ c ∧ c ≤ 999 := by
  unfold checkS at h
  split at h
  · omega
  · split at h
    · omega
    · omega
theorem inR_of {n : Int} (h0 : 0 ≤ n) (h : n ≤ 1099511627776) : inR n = true := by simp [inR]; omega
theorem done_neg {f r c : Int} {x : Rt} (h : checkS f r c = 0) (hx : x.neg = false) : (doneR f r c x).1.neg = false ∧ (doneR f r c x).2.1.neg = false ∧ (doneR f r c x).2.2.neg = false := by
  obtain ⟨⟨f1, f2⟩, ⟨r1, r2⟩, c1, c2⟩ := checkS_zero h
  have n1 : (addR (makeS f 1).1 x).1.neg = false := addR_neg (makeS_neg f1 (by decide)) hx
  have n2 := rest_neg (n := r) (m := 1000) (by omega) (by omega) (by decide) (inR_of (by omega) (by omega)) (by decide) n1
  exact ⟨timesR_neg n1 (by omega) (by decide), rest_neg (by omega) (by omega) (by decide) (inR_of (by omega) (by omega)) (by decide) n2, timesR_neg n2 (by omega) (by decide)⟩
theorem makeS_01 : makeS 0 1 = (⟨false, [], [1]⟩, 0) := by
  have d1 : dg 1 = [1] := (dg_one_iff (by decide)).2 rfl
  have a0 : absI 0 = 0 := by decide
  have a1 : absI 1 = 1 := by decide
  have g : gcdI 0 1 = 1 := by decide
  have v1 : val [1] = 1 := by decide
  have v0 : val [] = 0 := rfl
  unfold makeS redS
  rw [a0, a1, d1, dg_zero, v1, v0, g]
  rw [if_pos (by decide), if_neg (by decide)]
  rw [show (0 : Int) / 1 = 0 from rfl, show (1 : Int) / 1 = 1 from rfl, d1, dg_zero]
  rfl
theorem fit_val {l : List Int} (h : okN l = true) : fitS (val l) = (l, 0) := by
  have o := okN_iff.1 h
  unfold fitS
  rw [if_pos o.lt, dg_val o.2]
theorem add_zero' {x : Rt} (h : rvB x = true ∨ x = zR) : (addR x (makeS 0 1).1).1 = x := by
  rw [makeS_01]
  rcases h with h | h
  rotate_left
  · rw [h]
    unfold addR
    rw [if_neg (fun h => absurd h.1 (by decide))]
  have h0 : rvB ⟨false, [], [1]⟩ = true := by
    refine rvB_iff.2 ⟨by decide, by decide, by decide, by simp, ?_⟩
    show gcdI (val []) (val [1]) = 1
    decide
  obtain ⟨x1, x2, x3, x4, x5⟩ := rvB_iff.1 h
  have e1 : mulS x.p [1] = (x.p, 0) := by
    rw [mulS_ok x1 (by decide), show val [1] = 1 by decide, Int.mul_one]
    exact fit_val x1
  have e2 : mulS [] x.q = ([], 0) := by
    rw [mulS_ok (by decide) x2, show val [] = 0 from rfl, Int.zero_mul]
    exact fit_val (l := []) (by decide)
  have e3 : mulS x.q [1] = (x.q, 0) := by
    rw [mulS_ok x2 (by decide), show val [1] = 1 by decide, Int.mul_one]
    exact fit_val x2
  have e4 : (plusS x.neg x.p false []).2.2 = 0 := by
    have o1 := okN_iff.1 x1
    unfold plusS
    split
    · have : addS x.p [] = fitS (val x.p + val []) := by unfold addS; rw [if_pos ⟨x1, by decide⟩]
      rw [this, show val [] = 0 from rfl, Int.add_zero, fit_val x1]
    · rw [if_neg (by unfold cmpS; have := o1.nonneg; rw [show val [] = 0 from rfl, if_neg (by omega)]; split <;> omega)]
      unfold subS
      rw [if_pos ⟨x1, by decide⟩, if_neg (by rw [show val [] = 0 from rfl]; have := o1.nonneg; omega)]
  have hz : (addR x ⟨false, [], [1]⟩).2 = 0 := by
    unfold addR
    rw [if_pos ⟨h, h0⟩]
    simp only [e1, e2, e3, e4]
    rfl
  obtain ⟨z, e, hr⟩ : ∃ z e, addR x ⟨false, [], [1]⟩ = (z, e) := ⟨_, _, rfl⟩
  rw [hr] at hz ⊢
  rcases addR_ok hr with ⟨_, _, _, hv, hn⟩ | ⟨he, _⟩
  · refine canon hv h ?_
    have d1 : dd (⟨false, [], [1]⟩ : Rt) = 1 := by decide
    have n1 : nn (⟨false, [], [1]⟩ : Rt) = 0 := by decide
    rw [d1, n1, Int.mul_one, Int.mul_one, Int.zero_mul, Int.add_zero] at hn
    exact hn
  · exact absurd hz he
end Go.Proofs.Ytbjamhkhocjdkaa.Px
