/- The functions of the program as functions of values, part 6: a proof's lemmas, with no condition of their own. -/
import Derived.Test.YtiondkijgpjgcaaSad
import Derived.Test.YtiondkijgpjgcaaSae
set_option linter.unusedVariables false
set_option linter.unusedSimpArgs false
namespace Go.Proofs.Ytiondkijgpjgcaa.Px
open Go.Proofs.Ytiondkijgpjgcaa.Wd Go.Proofs.Ytiondkijgpjgcaa.Mat
set_option linter.unusedVariables false

theorem mul_le_b {q x : Int} (hq : 0 ≤ q ∧ q ≤ 1000000000) (hx : 0 ≤ x ∧ x < 1000000000) : 0 ≤ q * x ∧ q * x ≤ q * 999999999 ∧ q * 999999999 ≤ 999999999000000000 := by
  refine ⟨Int.mul_nonneg hq.1 hx.1, Int.mul_le_mul_of_nonneg_left (by omega) hq.1, by omega⟩
/-- u - q * v, limb by limb. -/
theorem ev_reduce_l0 (v : List Int) (hv : Dig v) (hvl : v.length ≤ 1000) (q : Int) (hq : 0 ≤ q ∧ q ≤ 1000000000) (S : Int) : ∀ (d : Nat) (x : List Int) (c i : Int), Dig x → x.length ≤ 1000 → v.length ≤ x.length → 0 ≤ i → i ≤ x.length → (x.length : Int) - i = d → 0 ≤ c → c ≤ q →
    val x - (c + q * val (v.drop i.toNat)) * pw i.toNat = S → ∃ r b, Ev (fun k => nat_reduce.l0 k x v q c x.length i) (decide (b > 0), r) ∧ Dig r ∧ r.length = x.length ∧ 0 ≤ b ∧ val r = S + b * pw x.length := by
  intro d
  induction d with
  | zero =>
    intro x c i hx hxl hvx h0 h1 hd hc0 hc1 hS
    have e : v.drop i.toNat = [] := List.drop_eq_nil_of_le (by omega)
    have ei : i.toNat = x.length := by omega
    rw [e, ei] at hS
    simp only [val, Int.mul_zero, Int.add_zero] at hS
    refine ⟨x, c, ?_, hx, rfl, hc0, by omega⟩
    refine Ev.step (f := fun _ => some _) (fun k => ?_) (Ev.now _)
    simp only [nat_reduce.l0]
    rw [if_neg (by omega)]
  | succ d ih =>
    intro x c i hx hxl hvx h0 h1 hd hc0 hc1 hS
    have ei : (i + 1).toNat = i.toNat + 1 := by omega
    have hr := hx.rd i
    by_cases cb : i < v.length
    · have hrv := hv.rd i
      have hm := mul_le_b hq hrv
      have hvd := val_drop (l := v) h0 cb
      obtain ⟨p, hp⟩ : ∃ p, q * rd v i = p := ⟨_, rfl⟩
      rw [hp] at hm
      by_cases cn : rd x i - c - p < 0
      · obtain ⟨t, ht⟩ : ∃ t, (-(rd x i - c - p) + 1000000000 - 1) / 1000000000 = t := ⟨_, rfl⟩
        have ht1 : 0 ≤ t ∧ t ≤ q ∧ 0 ≤ rd x i - c - p + t * 1000000000 ∧ rd x i - c - p + t * 1000000000 < 1000000000 := by omega
        have hs := val_set (l := x) (rd x i - c - p + t * 1000000000) h0 (by omega)
        have hlen : (x.set i.toNat (rd x i - c - p + t * 1000000000)).length = x.length := List.length_set
        have := ih (x.set i.toNat (rd x i - c - p + t * 1000000000)) t (i + 1) (hx.set _ ⟨ht1.2.2.1, ht1.2.2.2⟩) (by omega) (by omega) (by omega) (by omega) (by omega) (by omega) (by omega)
          (by rw [hs, ei, pw_succ]; rw [hvd] at hS; grind)
        rw [hlen] at this
        obtain ⟨r, b, hE, hD⟩ := this
        refine ⟨r, b, Ev.step (fun k => ?_) hE, hD⟩
        simp only [nat_reduce.l0]
        rw [hp]
        rw [if_pos (by omega), if_pos h0, if_pos (by omega), if_pos cb, w64 (x := p) (by omega) (by omega), w64 (x := rd x i - c) (by omega) (by omega), w64 (x := rd x i - c - p) (by omega) (by omega), if_pos cn,
          w64 (x := -(rd x i - c - p)) (by omega) (by omega), w64 (x := -(rd x i - c - p) + 1000000000) (by omega) (by omega), w64 (x := -(rd x i - c - p) + 1000000000 - 1) (by omega) (by omega), tdiv_e (by omega), ht,
          w64 (x := t) (by omega) (by omega), w64 (x := t * 1000000000) (by omega) (by omega), w64 (x := rd x i - c - p + t * 1000000000) (by omega) (by omega), w64 (x := i + 1) (by omega) (by omega)]
      · have hs := val_set (l := x) (rd x i - c - p) h0 (by omega)
        have hlen : (x.set i.toNat (rd x i - c - p)).length = x.length := List.length_set
        have := ih (x.set i.toNat (rd x i - c - p)) 0 (i + 1) (hx.set _ (by omega)) (by omega) (by omega) (by omega) (by omega) (by omega) (by omega) (by omega)
          (by rw [hs, ei, pw_succ]; rw [hvd] at hS; grind)
        rw [hlen] at this
        obtain ⟨r, b, hE, hD⟩ := this
        refine ⟨r, b, Ev.step (fun k => ?_) hE, hD⟩
        simp only [nat_reduce.l0]
        rw [hp]
        rw [if_pos (by omega), if_pos h0, if_pos (by omega), if_pos cb, w64 (x := p) (by omega) (by omega), w64 (x := rd x i - c) (by omega) (by omega), w64 (x := rd x i - c - p) (by omega) (by omega), if_neg cn, w64 (x := i + 1) (by omega) (by omega)]
    · have e1 : v.drop i.toNat = [] := List.drop_eq_nil_of_le (by omega)
      have e2 : v.drop (i.toNat + 1) = [] := List.drop_eq_nil_of_le (by omega)
      by_cases cn : rd x i - c < 0
      · obtain ⟨t, ht⟩ : ∃ t, (-(rd x i - c) + 1000000000 - 1) / 1000000000 = t := ⟨_, rfl⟩
        have ht1 : 0 ≤ t ∧ t ≤ q ∧ 0 ≤ rd x i - c + t * 1000000000 ∧ rd x i - c + t * 1000000000 < 1000000000 := by omega
        have hs := val_set (l := x) (rd x i - c + t * 1000000000) h0 (by omega)
        have hlen : (x.set i.toNat (rd x i - c + t * 1000000000)).length = x.length := List.length_set
        have := ih (x.set i.toNat (rd x i - c + t * 1000000000)) t (i + 1) (hx.set _ ⟨ht1.2.2.1, ht1.2.2.2⟩) (by omega) (by omega) (by omega) (by omega) (by omega) (by omega) (by omega)
          (by rw [hs, ei, pw_succ, e2]; rw [e1] at hS; simp only [val, Int.mul_zero, Int.add_zero] at hS ⊢; grind)
        rw [hlen] at this
        obtain ⟨r, b, hE, hD⟩ := this
        refine ⟨r, b, Ev.step (fun k => ?_) hE, hD⟩
        simp only [nat_reduce.l0]
        rw [if_pos (by omega), if_pos h0, if_pos (by omega), if_neg cb, w64 (x := rd x i - c) (by omega) (by omega), if_pos cn,
          w64 (x := -(rd x i - c)) (by omega) (by omega), w64 (x := -(rd x i - c) + 1000000000) (by omega) (by omega), w64 (x := -(rd x i - c) + 1000000000 - 1) (by omega) (by omega), tdiv_e (by omega), ht,
          w64 (x := t) (by omega) (by omega), w64 (x := t * 1000000000) (by omega) (by omega), w64 (x := rd x i - c + t * 1000000000) (by omega) (by omega), w64 (x := i + 1) (by omega) (by omega)]
      · have hs := val_set (l := x) (rd x i - c) h0 (by omega)
        have hlen : (x.set i.toNat (rd x i - c)).length = x.length := List.length_set
        have := ih (x.set i.toNat (rd x i - c)) 0 (i + 1) (hx.set _ (by omega)) (by omega) (by omega) (by omega) (by omega) (by omega) (by omega) (by omega)
          (by rw [hs, ei, pw_succ, e2]; rw [e1] at hS; simp only [val, Int.mul_zero, Int.add_zero] at hS ⊢; grind)
        rw [hlen] at this
        obtain ⟨r, b, hE, hD⟩ := this
        refine ⟨r, b, Ev.step (fun k => ?_) hE, hD⟩
        simp only [nat_reduce.l0]
        rw [if_pos (by omega), if_pos h0, if_pos (by omega), if_neg cb, w64 (x := rd x i - c) (by omega) (by omega), if_neg cn, w64 (x := i + 1) (by omega) (by omega)]
theorem ev_reduce (u v : List Int) (hu : Dig u) (hv : Dig v) (hul : u.length ≤ 1000) (hvl : v.length ≤ u.length) (q : Int) (hq : 0 ≤ q ∧ q ≤ 1000000000) :
    ∃ r b, Ev (fun k => nat_reduce.f k u v q) (decide (b > 0), r) ∧ Dig r ∧ r.length = u.length ∧ 0 ≤ b ∧ val r = val u - q * val v + b * pw u.length :=
  ev_reduce_l0 v hv (by omega) q hq _ u.length u 0 0 hu hul hvl (by omega) (by omega) (by omega) (by omega) hq.1 (by simp [pw_zero])
/-- u + v, what is carried beyond u dropped. -/
theorem ev_restore_l0 (v : List Int) (hv : Dig v) (hvl : v.length ≤ 1000) (S : Int) : ∀ (d : Nat) (x : List Int) (c i : Int), Dig x → x.length ≤ 1000 → v.length ≤ x.length → 0 ≤ i → i ≤ x.length → (x.length : Int) - i = d → 0 ≤ c → c ≤ 1 →
    val x + (c + val (v.drop i.toNat)) * pw i.toNat = S → ∃ r b, Ev (fun k => nat_restore.l0 k x v c x.length i) r ∧ Dig r ∧ r.length = x.length ∧ 0 ≤ b ∧ val r + b * pw x.length = S := by
  intro d
  induction d with
  | zero =>
    intro x c i hx hxl hvx h0 h1 hd hc0 hc1 hS
    have e : v.drop i.toNat = [] := List.drop_eq_nil_of_le (by omega)
    have ei : i.toNat = x.length := by omega
    rw [e, ei] at hS
    simp only [val, Int.add_zero] at hS
    refine ⟨x, c, ?_, hx, rfl, hc0, hS⟩
    refine Ev.step (f := fun _ => some _) (fun k => ?_) (Ev.now _)
    simp only [nat_restore.l0]
    rw [if_neg (by omega)]
  | succ d ih =>
    intro x c i hx hxl hvx h0 h1 hd hc0 hc1 hS
    have ei : (i + 1).toNat = i.toNat + 1 := by omega
    have hr := hx.rd i
    by_cases cb : i < v.length
    · have hrb := hv.rd i
      have hsum : 0 ≤ rd x i + c + rd v i := by omega
      have hvb := val_drop (l := v) h0 cb
      have hm := Int.emod_add_mul_ediv (rd x i + c + rd v i) 1000000000
      have hs := val_set (l := x) ((rd x i + c + rd v i) % 1000000000) h0 (by omega)
      have hlen : (x.set i.toNat ((rd x i + c + rd v i) % 1000000000)).length = x.length := List.length_set
      have := ih (x.set i.toNat ((rd x i + c + rd v i) % 1000000000)) ((rd x i + c + rd v i) / 1000000000) (i + 1) (hx.set _ (by omega)) (by omega) (by omega) (by omega) (by omega) (by omega) (by omega) (by omega)
        (by rw [hs, ei, pw_succ]; rw [hvb] at hS; grind)
      rw [hlen] at this
      obtain ⟨r, b, hE, hD⟩ := this
      refine ⟨r, b, Ev.step (fun k => ?_) hE, hD⟩
      simp only [nat_restore.l0]
      rw [if_pos (by omega), if_pos h0, if_pos (by omega), if_pos cb, w64 (x := rd x i + c) (by omega) (by omega), w64 (x := rd x i + c + rd v i) (by omega) (by omega), tmod_e hsum, tdiv_e hsum, w64 (by omega) (by omega), w64 (by omega) (by omega)]
    · have hsum : 0 ≤ rd x i + c := by omega
      have e1 : v.drop i.toNat = [] := List.drop_eq_nil_of_le (by omega)
      have e2 : v.drop (i.toNat + 1) = [] := List.drop_eq_nil_of_le (by omega)
      have hm := Int.emod_add_mul_ediv (rd x i + c) 1000000000
      have hs := val_set (l := x) ((rd x i + c) % 1000000000) h0 (by omega)
      have hlen : (x.set i.toNat ((rd x i + c) % 1000000000)).length = x.length := List.length_set
      have := ih (x.set i.toNat ((rd x i + c) % 1000000000)) ((rd x i + c) / 1000000000) (i + 1) (hx.set _ (by omega)) (by omega) (by omega) (by omega) (by omega) (by omega) (by omega) (by omega)
        (by rw [hs, ei, pw_succ, e2]; rw [e1] at hS; simp only [val, Int.add_zero] at hS ⊢; grind)
      rw [hlen] at this
      obtain ⟨r, b, hE, hD⟩ := this
      refine ⟨r, b, Ev.step (fun k => ?_) hE, hD⟩
      simp only [nat_restore.l0]
      rw [if_pos (by omega), if_pos h0, if_pos (by omega), if_neg cb, w64 (x := rd x i + c) (by omega) (by omega), tmod_e hsum, tdiv_e hsum, w64 (by omega) (by omega), w64 (by omega) (by omega)]
theorem ev_restore (u v : List Int) (hu : Dig u) (hv : Dig v) (hul : u.length ≤ 1000) (hvl : v.length ≤ u.length) :
    ∃ r b, Ev (fun k => nat_restore.f k u v) r ∧ Dig r ∧ r.length = u.length ∧ 0 ≤ b ∧ val r + b * pw u.length = val u + val v :=
  ev_restore_l0 v hv (by omega) _ u.length u 0 0 hu hul hvl (by omega) (by omega) (by omega) (by omega) (by omega) (by simp [pw_zero])

/-! ### the limb of a quotient that the leading limbs suggest -/
/-- vn, vm: the leading two limbs of the divisor, X: the number of the three leading limbs. -/
theorem ev_digit_l0 (u v : List Int) (k0 n0 : Int) (vn vm ub X : Int) (hk0 : 2 ≤ k0 ∧ k0 < u.length) (hn0 : 1 ≤ n0 ∧ n0 < v.length) (hul : u.length ≤ 1000) (hvl : v.length ≤ 1000) (hvn : rd v n0 = vn) (hvm : rd v (n0 - 1) = vm) (hub : rd u (k0 - 2) = ub)
    (h1 : 500000000 ≤ vn ∧ vn < 1000000000) (h2 : 0 ≤ vm ∧ vm < 1000000000) (h3 : 0 ≤ ub ∧ ub < 1000000000) :
    ∀ (d : Nat) (q r : Int), 0 ≤ q → q ≤ 1000000001 → 0 ≤ r → r < 1000000000 → 1000000000 - r ≤ d → (q * vn + r) * 1000000000 + ub = X → (q ≥ 1000000000 → q * vn + r ≤ vn * 1000000000 + 999999999) →
      ((q + 1) * (vn * 1000000000 + vm) > X ∨ q + 1 ≥ 1000000000) →
      ∃ p, Ev (fun k => nat_digit.l0 k u v k0 n0 q r) p ∧ 0 ≤ p ∧ p < 1000000000 ∧ p * (vn * 1000000000 + vm) ≤ X ∧ ((p + 1) * (vn * 1000000000 + vm) > X ∨ p + 1 ≥ 1000000000) := by
  intro d
  induction d with
  | zero => intro q r hq0 hq1 hr0 hr1 hd; omega
  | succ d ih =>
    intro q r hq0 hq1 hr0 hr1 hd hX hbig hmax
    have hqm : 0 ≤ q * vm ∧ q * vm ≤ 1000000001 * vm := ⟨Int.mul_nonneg hq0 h2.1, Int.mul_le_mul_of_nonneg_right hq1 h2.1⟩
    have hW : q * (vn * 1000000000 + vm) = q * vn * 1000000000 + q * vm := by grind
    have hX2 : X = q * vn * 1000000000 + r * 1000000000 + ub := by rw [← hX]; grind
    -- one round further down
    have hdown : ∀ (hc : q ≥ 1000000000 ∨ q * vm > r * 1000000000 + ub), ∃ p, Ev (fun k => nat_digit.j1 k u v k0 n0 q r true) p ∧ 0 ≤ p ∧ p < 1000000000 ∧ p * (vn * 1000000000 + vm) ≤ X ∧ ((p + 1) * (vn * 1000000000 + vm) > X ∨ p + 1 ≥ 1000000000) := by
      intro hc
      have hqpos : 0 < q := by
        rcases hc with hc | hc
        · omega
        · rcases Int.lt_or_le 0 q with h | h
          · exact h
          · have : q = 0 := by omega
            subst this; simp at hc; omega
      have hmax' : (q - 1 + 1) * (vn * 1000000000 + vm) > X ∨ q - 1 + 1 ≥ 1000000000 := by
        have e : q - 1 + 1 = q := by omega
        rw [e]
        rcases hc with hc | hc
        · exact .inr hc
        · left; omega
      have hqs : (q - 1) * vn + (r + vn) = q * vn + r := by grind
      by_cases c : r + vn ≥ 1000000000
      · have hb : q - 1 < 1000000000 := by
          rcases Int.lt_or_le q 1000000000 with h | h
          · omega
          · -- q is Limb or one more
            have := hbig h
            rcases (show q = 1000000000 ∨ q = 1000000001 by omega) with h | h
            · omega
            · subst h
              have : 1000000001 * vn + r ≤ vn * 1000000000 + 999999999 := this
              omega
        refine ⟨q - 1, ?_, by omega, hb, ?_, hmax'⟩
        · refine Ev.step (f := fun _ => some _) (fun k => ?_) (Ev.now _)
          simp only [nat_digit.j1]
          rw [if_pos trivial, if_pos (by omega), if_pos (by omega), hvn, w64 (by omega) (by omega), if_pos c, w64 (by omega) (by omega)]
        · have h5 : (q - 1) * vm ≤ 1000000000 * 999999999 := by
            have := Int.mul_le_mul (show q - 1 ≤ 1000000000 by omega) (show vm ≤ 999999999 by omega) h2.1 (by omega)
            omega
          have h6 : (q - 1) * (vn * 1000000000 + vm) = (q - 1) * vn * 1000000000 + (q - 1) * vm := by grind
          have h7 : (q - 1) * vn = q * vn - vn := by grind
          rw [h6, h7]
          omega
      · obtain ⟨p, hp, hh⟩ := ih (q - 1) (r + vn) (by omega) (by omega) (by omega) (by omega) (by omega) (by rw [hqs]; exact hX) (fun h => by rw [hqs]; exact hbig (by omega)) hmax'
        refine ⟨p, Ev.step (fun k => ?_) hp, hh⟩
        simp only [nat_digit.j1]
        rw [if_pos trivial, if_pos (by omega), if_pos (by omega), hvn, w64 (x := r + vn) (by omega) (by omega), if_neg c, w64 (by omega) (by omega)]
    by_cases c1 : q ≥ 1000000000
    · obtain ⟨p, hp, hh⟩ := hdown (.inl c1)
      refine ⟨p, Ev.step (fun k => ?_) hp, hh⟩
      simp only [nat_digit.l0]
      rw [if_pos c1]
    · have hstep : ∀ k, nat_digit.l0 (k + 1) u v k0 n0 q r = nat_digit.j1 k u v k0 n0 q r (decide (q * vm > r * 1000000000 + ub)) := by
        intro k
        simp only [nat_digit.l0]
        rw [if_neg c1, w64 (x := n0 - 1) (by omega) (by omega), if_pos (by omega), if_pos (by omega), w64 (x := k0 - 2) (by omega) (by omega), if_pos (by omega), if_pos (by omega), hvm, hub, w64 (x := q * vm) (by omega) (by omega), w64 (x := r * 1000000000) (by omega) (by omega), w64 (x := r * 1000000000 + ub) (by omega) (by omega)]
      by_cases c2 : q * vm > r * 1000000000 + ub
      · obtain ⟨p, hp, hh⟩ := hdown (.inr c2)
        exact ⟨p, Ev.step (fun k => by rw [hstep k, decide_eq_true c2]) hp, hh⟩
      · refine ⟨q, Ev.step (f := fun k => nat_digit.j1 k u v k0 n0 q r false) (fun k => by rw [hstep k, decide_eq_false c2]) (Ev.step (f := fun _ => some _) (fun k => ?_) (Ev.now _)), hq0, by omega, by omega, hmax⟩
        simp only [nat_digit.j1]
        rw [if_neg (by simp)]

/-- Three leading limbs, and two of the divisor: the right limb, or one more. u < Limb * v, v normalised. -/
theorem ev_digit (u v : List Int) (hu : Dig u) (hv : Dig v) (hl : u.length = v.length + 1) (hvl : 2 ≤ v.length) (hvm : v.length ≤ 900) (hn : 500000000 ≤ rd v ((v.length : Int) - 1)) (hlt : val u < 1000000000 * val v) :
    ∃ p, Ev (fun k => nat_digit.f k u v) p ∧ 0 ≤ p ∧ p < 1000000000 ∧ val u / val v ≤ p ∧ p ≤ val u / val v + 1 := by
  obtain ⟨n, hn2⟩ : ∃ n : Nat, v.length = n + 2 := ⟨v.length - 2, by omega⟩
  have eu : (u.length : Int) - 1 = ((n + 2 : Nat) : Int) := by omega
  have ev : (v.length : Int) - 1 = ((n + 1 : Nat) : Int) := by omega
  rw [ev] at hn
  obtain ⟨vn, hvn⟩ : ∃ x, rd v ((n + 1 : Nat) : Int) = x := ⟨_, rfl⟩
  obtain ⟨vm, hvm1⟩ : ∃ x, rd v (n : Int) = x := ⟨_, rfl⟩
  obtain ⟨ua, hua⟩ : ∃ x, rd u ((n + 2 : Nat) : Int) = x := ⟨_, rfl⟩
  obtain ⟨ub, hub⟩ : ∃ x, rd u ((n + 1 : Nat) : Int) = x := ⟨_, rfl⟩
  obtain ⟨uc, huc⟩ : ∃ x, rd u (n : Int) = x := ⟨_, rfl⟩
  have b1 := hv.rd ((n + 1 : Nat) : Int)
  have b2 := hv.rd (n : Int)
  have b3 := hu.rd ((n + 2 : Nat) : Int)
  have b4 := hu.rd ((n + 1 : Nat) : Int)
  have b5 := hu.rd (n : Int)
  rw [hvn] at b1 hn
  rw [hvm1] at b2
  rw [hua] at b3
  rw [hub] at b4
  rw [huc] at b5
  -- the numbers, from their leading limbs
  have hV : val v = val (v.take n) + pw n * (vm + 1000000000 * vn) := by
    have e1 := val_split v n (by omega)
    have e2 := val_drop (l := v) (i := (n : Int)) (by omega) (by omega)
    have e3 := val_drop (l := v) (i := ((n + 1 : Nat) : Int)) (by omega) (by omega)
    have t1 : ((n : Nat) : Int).toNat = n := by omega
    have t2 : ((n + 1 : Nat) : Int).toNat = n + 1 := by omega
    rw [t1] at e2
    rw [t2] at e3
    rw [List.drop_eq_nil_of_le (show v.length ≤ n + 1 + 1 by omega)] at e3
    rw [e2, e3, hvm1, hvn] at e1
    simp only [val, Int.mul_zero, Int.add_zero] at e1
    exact e1
  have hU : val u = val (u.take n) + pw n * (uc + 1000000000 * (ub + 1000000000 * ua)) := by
    have e1 := val_split u n (by omega)
    have e2 := val_drop (l := u) (i := (n : Int)) (by omega) (by omega)
    have e3 := val_drop (l := u) (i := ((n + 1 : Nat) : Int)) (by omega) (by omega)
    have e4 := val_drop (l := u) (i := ((n + 2 : Nat) : Int)) (by omega) (by omega)
    have t1 : ((n : Nat) : Int).toNat = n := by omega
    have t2 : ((n + 1 : Nat) : Int).toNat = n + 1 := by omega
    have t3 : ((n + 2 : Nat) : Int).toNat = n + 2 := by omega
    rw [t1] at e2
    rw [t2] at e3
    rw [t3] at e4
    rw [List.drop_eq_nil_of_le (show u.length ≤ n + 2 + 1 by omega)] at e4
    rw [e2, e3, e4, huc, hub, hua] at e1
    simp only [val, Int.mul_zero, Int.add_zero] at e1
    exact e1
  have lv0 := val_nonneg (hv.take n)
  have lv1 := val_lt (hv.take n)
  have lu0 := val_nonneg (hu.take n)
  have lu1 := val_lt (hu.take n)
  rw [List.length_take, Nat.min_eq_left (by omega)] at lv1 lu1
  have hp := pw_pos n
  obtain ⟨P, hP⟩ : ∃ P, pw n = P := ⟨_, rfl⟩
  obtain ⟨V', hV'⟩ : ∃ x, val (v.take n) = x := ⟨_, rfl⟩
  obtain ⟨U', hU'⟩ : ∃ x, val (u.take n) = x := ⟨_, rfl⟩
  rw [hP] at hV hU lv1 lu1 hp
  rw [hV'] at hV lv0 lv1
  rw [hU'] at hU lu0 lu1
  obtain ⟨W, hW⟩ : ∃ W, vn * 1000000000 + vm = W := ⟨_, rfl⟩
  obtain ⟨X, hX⟩ : ∃ X, (ua * 1000000000 + ub) * 1000000000 + uc = X := ⟨_, rfl⟩
  have hVW : val v = V' + P * W := by rw [hV, ← hW]; grind
  have hUX : val u = U' + P * X := by rw [hU, ← hX]; grind
  have hVp : 0 < val v := by
    have := Int.mul_le_mul_of_nonneg_left (show (1 : Int) ≤ W by omega) (Int.le_of_lt hp)
    rw [hVW]; omega
  -- the leading limb of u is at most that of v
  have hal : ua ≤ vn := by
    rcases Int.lt_or_le vn ua with h | h
    · exfalso
      have h1 : (vn + 1) * 1000000000000000000 ≤ X := by rw [← hX]; omega
      have h2 : W + 1 ≤ (vn + 1) * 1000000000 := by rw [← hW]; omega
      have h3 : 1000000000 * (W + 1) ≤ X := by omega
      have h4 := Int.mul_le_mul_of_nonneg_left h3 (Int.le_of_lt hp)
      have h5 : 1000000000 * val v = 1000000000 * V' + P * (1000000000 * W) := by rw [hVW]; grind
      have h6 : P * (1000000000 * (W + 1)) = P * (1000000000 * W) + 1000000000 * P := by grind
      omega
    · exact h
  have hq0 : 0 ≤ (ua * 1000000000 + ub) / vn := Int.ediv_nonneg (by omega) (by omega)
  have hdm := Int.emod_add_mul_ediv (ua * 1000000000 + ub) vn
  have hr0 := Int.emod_nonneg (ua * 1000000000 + ub) (show vn ≠ 0 by omega)
  have hr1 := Int.emod_lt_of_pos (ua * 1000000000 + ub) (show 0 < vn by omega)
  obtain ⟨q, hq⟩ : ∃ q, (ua * 1000000000 + ub) / vn = q := ⟨_, rfl⟩
  obtain ⟨r, hr⟩ : ∃ r, (ua * 1000000000 + ub) % vn = r := ⟨_, rfl⟩
  rw [hq] at hdm hq0
  rw [hr] at hdm hr0 hr1
  have hq1 : q ≤ 1000000001 := by
    rcases Int.lt_or_le 1000000001 q with h | h
    · exfalso
      have := Int.mul_le_mul_of_nonneg_left (show (1000000002 : Int) ≤ q from h) (show 0 ≤ vn by omega)
      omega
    · exact h
  have z0 : ((n + 1 : Nat) : Int) - 1 = n := by omega
  have z1 : rd v (((n + 1 : Nat) : Int) - 1) = vm := by rw [z0]; exact hvm1
  have z3 : ((n + 2 : Nat) : Int) - 2 = n := by omega
  have z2 : rd u (((n + 2 : Nat) : Int) - 2) = uc := by rw [z3]; exact huc
  have z4 : (q * vn + r) * 1000000000 + uc = X := by rw [← hX, ← hdm]; grind
  have z5 : q * vn + r ≤ vn * 1000000000 + 999999999 := by
    have h1 : q * vn + r = ua * 1000000000 + ub := by rw [← hdm]; grind
    have h2 := Int.mul_le_mul_of_nonneg_right hal (show (0 : Int) ≤ 1000000000 by omega)
    omega
  have z6 : (q + 1) * (vn * 1000000000 + vm) > X := by
    have h0 : (q + 1) * vn = vn * q + vn := by grind
    have h1 : (q + 1) * vn ≥ ua * 1000000000 + ub + 1 := by omega
    have h2 := Int.mul_le_mul_of_nonneg_right h1 (show (0 : Int) ≤ 1000000000 by omega)
    have h3 : (q + 1) * (vn * 1000000000 + vm) = (q + 1) * vn * 1000000000 + (q + 1) * vm := by grind
    have h4 : 0 ≤ (q + 1) * vm := Int.mul_nonneg (by omega) b2.1
    rw [h3, ← hX]; omega
  obtain ⟨p, hE, hp0, hp1, hpX, hpm⟩ := ev_digit_l0 u v ((n + 2 : Nat) : Int) ((n + 1 : Nat) : Int) vn vm uc X (by omega) (by omega) (by omega) (by omega) hvn z1 z2 ⟨hn, b1.2⟩ b2 b5 1000000000 q r hq0 hq1 hr0 (by omega) (by omega) z4 (fun _ => z5) (.inl z6)
  rw [hW] at hpX hpm
  refine ⟨p, ?_, hp0, hp1, ?_, ?_⟩
  · refine Ev.congr (fun k => ?_) hE
    unfold nat_digit.f
    have e1 : ((n + 2 : Nat) : Int) - 1 = ((n + 1 : Nat) : Int) := by omega
    have hs0 : 0 ≤ ua * 1000000000 + ub := by omega
    rw [eu, ev, w64 (x := ((n + 2 : Nat) : Int)) (by omega) (by omega), w64 (x := ((n + 1 : Nat) : Int)) (by omega) (by omega), e1, w64 (x := ((n + 1 : Nat) : Int)) (by omega) (by omega), hua, hub, hvn]
    rw [if_pos (by omega), if_pos (by omega), if_pos (by omega), if_pos (by omega), if_pos (by omega), if_pos (by omega), if_neg (by omega), w64 (x := ua * 1000000000) (by omega) (by omega), w64 (x := ua * 1000000000 + ub) (by omega) (by omega), tdiv_e hs0, tmod_e hs0, hq, hr, w64 (x := q) (by omega) (by omega)]
  · -- no limb that is right is greater
    have hlt2 : val u / val v < p + 1 := by
      apply Int.ediv_lt_of_lt_mul hVp
      rcases hpm with h | h
      · have h1 := Int.mul_le_mul_of_nonneg_left (show X + 1 ≤ (p + 1) * W from h) (Int.le_of_lt hp)
        have h2 : (p + 1) * val v = (p + 1) * V' + P * ((p + 1) * W) := by rw [hVW]; grind
        have h3 : 0 ≤ (p + 1) * V' := Int.mul_nonneg (by omega) lv0
        have h4 : P * (X + 1) = P * X + P := by grind
        rw [h2, hUX]; omega
      · have : p + 1 = 1000000000 := by omega
        rw [this]; exact hlt
    omega
  · -- one less is small enough
    rcases Int.lt_or_le 0 p with h0 | h0
    · have h1 : p - 1 ≤ val u / val v := by
        apply Int.le_ediv_of_mul_le hVp
        have h2 : (p - 1) * val v = p * V' + P * (p * W) - val v := by rw [hVW]; grind
        have h3 := Int.mul_le_mul_of_nonneg_left hpX (Int.le_of_lt hp)
        have h4 : p * V' ≤ 1000000000 * P := Int.mul_le_mul (by omega) (by omega) lv0 (by omega)
        have h5 := Int.mul_le_mul_of_nonneg_left (show (500000000000000000 : Int) ≤ W by omega) (Int.le_of_lt hp)
        rw [h2, hVW, hUX]; omega
      omega
    · have : 0 ≤ val u / val v := Int.ediv_nonneg (val_nonneg hu) (by omega)
      omega
end Go.Proofs.Ytiondkijgpjgcaa.Px
namespace Go.Proofs.Ytiondkijgpjgcaa.Px
open Go.Proofs.Ytiondkijgpjgcaa.Wd Go.Proofs.Ytiondkijgpjgcaa.Mat
set_option linter.unusedVariables false

theorem small_factor {b P x y : Int} (hP : 0 < P) (hb : 0 ≤ b) (h : x + b * P = y) (hx : 0 ≤ x) (hy : y < P) : b = 0 := by
  rcases Int.lt_or_le 0 b with h1 | h1
  · have := Int.mul_le_mul_of_nonneg_right (show 1 ≤ b by omega) (Int.le_of_lt hP)
    omega
  · omega
theorem one_factor {b P x y : Int} (hP : 0 < P) (h : x + b * P = y) (hx : 0 ≤ x) (hx1 : x < P) (hy0 : P ≤ y) (hy : y < 2 * P) : b = 1 := by
  rcases Int.lt_or_le 1 b with h1 | h1
  · have := Int.mul_le_mul_of_nonneg_right (show 2 ≤ b by omega) (Int.le_of_lt hP)
    omega
  · rcases Int.lt_or_le 0 b with h2 | h2
    · omega
    · have := Int.mul_le_mul_of_nonneg_right (show b ≤ 0 by omega) (Int.le_of_lt hP)
      omega
theorem ev_divide_l0 (v : List Int) (hv : Dig v) (hvl : 2 ≤ v.length) (hvm : v.length ≤ 400) (hn : 500000000 ≤ rd v ((v.length : Int) - 1)) (S : Int) : ∀ (d : Nat) (u out : List Int), Dig u → Dig out → u.length = out.length + v.length → u.length ≤ 900 → d ≤ out.length → val (u.drop d) < val v →
    val u + pw d * (val v * val (out.drop d)) = S → (∀ s : Nat, s < d → rd out s = 0) →
    ∃ uf of, Ev (fun k => nat_divide.l0 k v u out ((d : Int) - 1)) (uf, of) ∧ Dig uf ∧ Dig of ∧ uf.length = u.length ∧ of.length = out.length ∧ val uf < val v ∧ val uf + val v * val of = S := by
  intro d
  induction d with
  | zero =>
    intro u out hu ho hl hm hd ht hS hz
    refine ⟨u, out, ?_, hu, ho, rfl, rfl, by simpa using ht, by simpa [pw_zero] using hS⟩
    refine Ev.step (f := fun _ => some _) (fun k => ?_) (Ev.now _)
    simp only [nat_divide.l0]
    rw [if_neg (by omega)]
  | succ d ih =>
    intro u out hu ho hl hm hd ht hS hz
    have e1 : (((d + 1 : Nat) : Int) - 1) = d := by omega
    have ed : ((d : Int)).toNat = d := by omega
    obtain ⟨V, hV⟩ : ∃ V, val v = V := ⟨_, rfl⟩
    obtain ⟨L, hL⟩ : ∃ L, v.length = L := ⟨_, rfl⟩
    obtain ⟨pre, hpre⟩ : ∃ p, u.take d = p := ⟨_, rfl⟩
    obtain ⟨part, hpart⟩ : ∃ p, (u.drop d).take (v.length + 1) = p := ⟨_, rfl⟩
    obtain ⟨post, hpost⟩ : ∃ p, u.drop (d + (v.length + 1)) = p := ⟨_, rfl⟩
    have hpl : pre.length = d := by rw [← hpre, List.length_take]; omega
    have hql : part.length = L + 1 := by rw [← hpart, List.length_take, List.length_drop]; omega
    have hDpre : Dig pre := by rw [← hpre]; exact hu.take _
    have hDpart : Dig part := by rw [← hpart]; exact (hu.drop _).take _
    have hDpost : Dig post := by rw [← hpost]; exact hu.drop _
    have hVl := val_lt hv
    rw [hV, hL] at hVl
    rw [hV] at ht hS
    -- what lies above is zero
    have hr := hu.rd d
    have hda := val_drop (l := u) (i := (d : Int)) (by omega) (by omega)
    rw [ed] at hda
    have hT0 := val_nonneg (hu.drop (d + 1))
    have hpo : val post = 0 := by
      have h1 := val_split (u.drop (d + 1)) L (by rw [List.length_drop]; omega)
      rw [List.drop_drop, show d + 1 + L = d + (v.length + 1) by omega, hpost] at h1
      have h2 := val_nonneg ((hu.drop (d + 1)).take L)
      have h3 := val_nonneg hDpost
      exact small_factor (pw_pos L) h3 (x := val ((u.drop (d + 1)).take L)) (y := val (u.drop (d + 1))) (by rw [h1]; grind) h2 (by omega)
    have hP : val part = val (u.drop d) := by
      have h1 := val_split (u.drop d) (L + 1) (by rw [List.length_drop]; omega)
      rw [List.drop_drop, show d + (L + 1) = d + (v.length + 1) by omega, hpost, hpo, ← hL, hpart] at h1
      rw [h1]; omega
    have hPlt : val part < 1000000000 * V := by rw [hP, hda]; omega
    have hP0 := val_nonneg hDpart
    have hVp : 0 < V := by omega
    have hu1 : val u = val pre + pw d * val part := by
      rw [hP, ← hpre]; exact val_split u d (by omega)
    obtain ⟨q, hE1, hq0, hq1, hqa, hqb⟩ := ev_digit part v hDpart hv (by omega) hvl (by omega) hn (by rw [hV]; exact hPlt)
    obtain ⟨r, b, hE2, hDr, hrl, hb0, hrv⟩ := ev_reduce part v hDpart hv (by omega) (by omega) q ⟨hq0, by omega⟩
    rw [hV] at hqa hqb hrv
    have hdm := Int.emod_add_mul_ediv (val part) V
    have hm0 := Int.emod_nonneg (val part) (show V ≠ 0 by omega)
    have hm1 := Int.emod_lt_of_pos (val part) hVp
    obtain ⟨qt, hqt⟩ : ∃ x, val part / V = x := ⟨_, rfl⟩
    obtain ⟨rm, hrm⟩ : ∃ x, val part % V = x := ⟨_, rfl⟩
    rw [hqt] at hqa hqb hdm
    rw [hrm] at hdm hm0 hm1
    have hqt0 : 0 ≤ qt := by rw [← hqt]; exact Int.ediv_nonneg hP0 (by omega)
    have hr0 := val_nonneg hDr
    have hr1 := val_lt hDr
    rw [hrl, hql] at hr1
    rw [hql] at hrv
    have hpL := pw_pos L
    have hpw := pw_succ L
    obtain ⟨PP, hPP⟩ : ∃ x, pw (L + 1) = x := ⟨_, rfl⟩
    rw [hPP] at hr1 hrv hpw
    -- what both ways have in common
    have common : ∀ r' : List Int, Dig r' → r'.length = L + 1 → val r' = rm →
        ∃ uf of, Ev (fun k => nat_divide.l0 k v (pre ++ r' ++ post) (out.set d qt) ((d : Int) - 1)) (uf, of) ∧ Dig uf ∧ Dig of ∧ uf.length = u.length ∧ of.length = out.length ∧ val uf < val v ∧ val uf + val v * val of = S := by
      intro r' hD' hl' hv'
      have hul : (pre ++ r' ++ post).length = u.length := by
        have : u.length = pre.length + (part.length + post.length) := by
          rw [hpl, hql, ← hpost, List.length_drop]; omega
        simp only [List.length_append]; omega
      have hdr : (pre ++ r' ++ post).drop d = r' ++ post := by
        rw [List.append_assoc, ← hpl, List.drop_left]
      have hd1 : val ((pre ++ r' ++ post).drop d) = rm := by rw [hdr, val_append, hpo, hv']; omega
      have hu2 : val (pre ++ r' ++ post) = val pre + pw d * rm := by
        rw [val_split (pre ++ r' ++ post) d (by omega), hd1, List.append_assoc, ← hpl, List.take_left]
      have ho1 : val ((out.set d qt).drop d) = qt + 1000000000 * val (out.drop (d + 1)) := by
        have h1 := val_drop (l := out.set d qt) (i := (d : Int)) (by omega) (by rw [List.length_set]; omega)
        rw [ed] at h1
        have h2 := rd_set_eq (l := out) (i := (d : Int)) qt (by omega)
        rw [ed] at h2
        rw [h1, h2, List.drop_set_of_lt (show d < d + 1 by omega)]
      obtain ⟨uf, of, hE, h1, h2, h3, h4, h5, h6⟩ := ih (pre ++ r' ++ post) (out.set d qt) ((hDpre.append hD').append hDpost) (ho.set _ ⟨hqt0, by omega⟩) (by rw [hul, List.length_set]; exact hl) (by omega) (by rw [List.length_set]; omega) (by rw [hd1, hV]; exact hm1)
        (by rw [hu2, ho1, hV, ← hS, hu1, pw_succ, ← hdm]; grind) (fun s hs => by
          have := rd_set_ne (l := out) (i := (d : Int)) (j := (s : Int)) qt (by omega)
          rw [ed] at this
          rw [this]; exact hz s (by omega))
      exact ⟨uf, of, hE, h1, h2, by omega, by rw [h4, List.length_set], h5, h6⟩
    by_cases hcase : q = qt
    · -- the limb is right
      have hbz : b = 0 := by
        refine small_factor (show 0 < PP by omega) hb0 (x := rm) (y := val r) ?_ hm0 hr1
        rw [hrv, hcase, ← hdm]; grind
      have hrm2 : val r = rm := by rw [hrv, hbz, hcase, ← hdm]; grind
      obtain ⟨uf, of, hE, hrest⟩ := common r hDr (by omega) hrm2
      refine ⟨uf, of, ?_, hrest⟩
      refine Ev.step (fun k => ?_) (Ev.bind hE1 (Ev.bind hE2 (f := fun k b_ => if b_.1 = true then (nat_restore.f k b_.2 v).bind fun p => nat_divide.l0 k v (pre ++ p ++ post) (out.set d (wrap64 (q - 1))) ((d : Int) - 1) else nat_divide.l0 k v (pre ++ b_.2 ++ post) (out.set d q) ((d : Int) - 1)) ?_)
        (f := fun k q => (nat_reduce.f k part v q).bind fun b_ => if b_.1 = true then (nat_restore.f k b_.2 v).bind fun p => nat_divide.l0 k v (pre ++ p ++ post) (out.set d (wrap64 (q - 1))) ((d : Int) - 1) else nat_divide.l0 k v (pre ++ b_.2 ++ post) (out.set d q) ((d : Int) - 1)))
      · simp only [nat_divide.l0]
        rw [e1, if_pos (by omega), ed, hpre, hpart, hpost]
      · refine Ev.congr (fun k => ?_) hE
        simp only [hbz]
        rw [if_neg (by simp), hcase]
    · -- it is one too great
      have hq2 : q = qt + 1 := by omega
      have hbo : b = 1 := by
        refine one_factor (show 0 < PP by omega) (x := rm + PP - V) (y := val r + PP) ?_ (by omega) (by omega) (by omega) (by omega)
        rw [hrv, hq2, ← hdm]; grind
      have hrm2 : val r = rm - V + PP := by rw [hrv, hbo, hq2, ← hdm]; grind
      obtain ⟨p, c, hE3, hDp, hpl2, hc0, hpv⟩ := ev_restore r v hDr hv (by omega) (by omega)
      rw [hrl, hql, hPP, hV, hrm2] at hpv
      have hp0 := val_nonneg hDp
      have hp1 := val_lt hDp
      rw [hpl2, hrl, hql, hPP] at hp1
      have hc1 : c = 1 := one_factor (show 0 < PP by omega) hpv hp0 hp1 (by omega) (by omega)
      have hpm : val p = rm := by rw [hc1] at hpv; omega
      obtain ⟨uf, of, hE, hrest⟩ := common p hDp (by omega) hpm
      refine ⟨uf, of, ?_, hrest⟩
      refine Ev.step (fun k => ?_) (Ev.bind hE1 (Ev.bind hE2 (f := fun k b_ => if b_.1 = true then (nat_restore.f k b_.2 v).bind fun p => nat_divide.l0 k v (pre ++ p ++ post) (out.set d (wrap64 (q - 1))) ((d : Int) - 1) else nat_divide.l0 k v (pre ++ b_.2 ++ post) (out.set d q) ((d : Int) - 1)) ?_)
        (f := fun k q => (nat_reduce.f k part v q).bind fun b_ => if b_.1 = true then (nat_restore.f k b_.2 v).bind fun p => nat_divide.l0 k v (pre ++ p ++ post) (out.set d (wrap64 (q - 1))) ((d : Int) - 1) else nat_divide.l0 k v (pre ++ b_.2 ++ post) (out.set d q) ((d : Int) - 1)))
      · simp only [nat_divide.l0]
        rw [e1, if_pos (by omega), ed, hpre, hpart, hpost]
      · refine Ev.congr (f := fun k => (nat_restore.f k r v).bind fun p => nat_divide.l0 k v (pre ++ p ++ post) (out.set d qt) ((d : Int) - 1)) (fun k => ?_) (Ev.bind hE3 hE)
        simp only [hbo]
        rw [if_pos (by simp), w64 (by omega) (by omega)]
        have : q - 1 = qt := by omega
        rw [this]

theorem norm_half {bt m : Int} (h1 : 1 ≤ bt) (h2 : bt < 1000000000) (hm : 1000000000 / (bt + 1) = m) : 1 ≤ m ∧ m ≤ 500000000 ∧ 500000000 ≤ bt * m ∧ (bt + 1) * m ≤ 1000000000 := by
  have hdm := Int.emod_add_mul_ediv 1000000000 (bt + 1)
  have hr0 := Int.emod_nonneg 1000000000 (show bt + 1 ≠ 0 by omega)
  have hr1 := Int.emod_lt_of_pos 1000000000 (show 0 < bt + 1 by omega)
  rw [hm] at hdm
  have hm1 : 1 ≤ m := by
    rcases Int.lt_or_le 0 m with h | h
    · omega
    · have := Int.mul_le_mul_of_nonneg_left h (show 0 ≤ bt + 1 by omega)
      omega
  have hm2 : m ≤ 500000000 := by
    have := Int.mul_le_mul_of_nonneg_right (show 2 ≤ bt + 1 by omega) (show 0 ≤ m by omega)
    omega
  refine ⟨hm1, hm2, ?_, by omega⟩
  have hx : (bt + 1) * m = bt * m + m := by grind
  by_cases c : m = 1
  · subst c; omega
  · by_cases c2 : bt = 1
    · subst c2; omega
    · have h3 : 0 ≤ (bt - 2) * (m - 2) := Int.mul_nonneg (by omega) (by omega)
      have h4 : (bt - 2) * (m - 2) = bt * m - 2 * bt - 2 * m + 4 := by grind
      omega
theorem divmod_unique {a b q r : Int} (h : r + b * q = a) (h0 : 0 ≤ r) (h1 : r < b) : a / b = q ∧ a % b = r := by
  have hb : 0 < b := by omega
  subst h
  exact ⟨by rw [Int.add_mul_ediv_left _ _ (by omega), Int.ediv_eq_zero_of_lt h0 h1]; omega, by rw [Int.add_mul_emod_self_left, Int.emod_eq_of_lt h0 h1]⟩
theorem take_all {l : List Int} (h : Dig l) {n : Nat} (hn : n ≤ l.length) (hv : val l < pw n) : val (l.take n) = val l := by
  have h1 := val_split l n hn
  have h2 := val_nonneg (h.take n)
  have h3 := val_nonneg (h.drop n)
  have h4 : val (l.drop n) = 0 := small_factor (pw_pos n) h3 (x := val (l.take n)) (y := val l) (by rw [h1]; grind) h2 hv
  rw [h1, h4]; omega
theorem ev_divide (a b : List Int) (ha : Nrm a) (hb : Nrm b) (hal : a.length ≤ 300) (hbl : 2 ≤ b.length) (hab : val b ≤ val a) :
    Ev (fun k => nat_divide.f k a b) (dg (val a / val b), dg (val a % val b)) := by
  have hlen := len_of_le ha hb hab
  obtain ⟨lb, hlb⟩ : ∃ n : Nat, b.length = n + 1 := ⟨b.length - 1, by omega⟩
  obtain ⟨e, he⟩ : ∃ n : Nat, a.length = n + b.length := ⟨a.length - b.length, by omega⟩
  have et : (b.length : Int) - 1 = (lb : Int) := by omega
  obtain ⟨bt, hbt⟩ : ∃ x, rd b (lb : Int) = x := ⟨_, rfl⟩
  have hb1 := hb.1.rd (lb : Int)
  have hbne := nrm_last hb (i := (lb : Int)) (by omega) (by omega)
  rw [hbt] at hb1 hbne
  obtain ⟨m, hm⟩ : ∃ m, 1000000000 / (bt + 1) = m := ⟨_, rfl⟩
  obtain ⟨hm1, hm2, hm3, hm4⟩ := norm_half (show 1 ≤ bt by omega) hb1.2 hm
  obtain ⟨u, hE1, hDu, hul, huv⟩ := ev_scaled a ha.1 (by omega) m (by omega) (by omega)
  obtain ⟨v0, hE2, hDv0, hvl0, hvv0⟩ := ev_scaled b hb.1 (by omega) m (by omega) (by omega)
  have hb0 := val_nonneg hb.1
  have ha0 := val_nonneg ha.1
  -- b, by its leading limb
  have hbs : val b = val (b.take lb) + pw lb * bt := by
    have h1 := val_split b lb (by omega)
    have h2 := val_drop (l := b) (i := (lb : Int)) (by omega) (by omega)
    have h3 : ((lb : Nat) : Int).toNat = lb := by omega
    rw [h3, List.drop_eq_nil_of_le (show b.length ≤ lb + 1 by omega), hbt] at h2
    rw [h2] at h1
    simpa [val] using h1
  have hbk0 := val_nonneg (hb.1.take lb)
  have hbk1 := val_lt (hb.1.take lb)
  rw [List.length_take, Nat.min_eq_left (by omega)] at hbk1
  have hP := pw_pos lb
  have hps := pw_succ lb
  obtain ⟨P, hPe⟩ : ∃ P, pw lb = P := ⟨_, rfl⟩
  rw [hPe] at hbs hbk1 hP hps
  have hbm1 : val b * m < P * 1000000000 := by
    have h0 : P * (bt + 1) = P * bt + P := by grind
    have h1 : val b * m < (P * (bt + 1)) * m := Int.mul_lt_mul_of_pos_right (by omega) (by omega)
    have h2 : (P * (bt + 1)) * m = P * ((bt + 1) * m) := by grind
    have h3 := Int.mul_le_mul_of_nonneg_left hm4 (Int.le_of_lt hP)
    omega
  have hbm2 : P * 500000000 ≤ val b * m := by
    have h1 : (P * bt) * m ≤ val b * m := Int.mul_le_mul_of_nonneg_right (by omega) (by omega)
    have h2 : (P * bt) * m = P * (bt * m) := by grind
    have h3 := Int.mul_le_mul_of_nonneg_left hm3 (Int.le_of_lt hP)
    omega
  obtain ⟨v, hve⟩ : ∃ v, v0.take b.length = v := ⟨_, rfl⟩
  have hDv : Dig v := by rw [← hve]; exact hDv0.take _
  have hvl : v.length = lb + 1 := by rw [← hve, List.length_take]; omega
  have hvv : val v = val b * m := by rw [← hve, ← hvv0]; exact take_all hDv0 (by omega) (by rw [hvv0, hlb, hps]; omega)
  -- v is normalised
  have hvn : 500000000 ≤ rd v ((v.length : Int) - 1) := by
    have h1 := val_split v lb (by omega)
    have h2 := val_drop (l := v) (i := (lb : Int)) (by omega) (by omega)
    have h3 : ((lb : Nat) : Int).toNat = lb := by omega
    rw [h3, List.drop_eq_nil_of_le (show v.length ≤ lb + 1 by omega)] at h2
    simp only [val, Int.mul_zero, Int.add_zero] at h2
    rw [h2, hPe] at h1
    have h4 := val_lt (hDv.take lb)
    rw [List.length_take, Nat.min_eq_left (by omega), hPe] at h4
    have h5 : (v.length : Int) - 1 = (lb : Int) := by omega
    rw [h5]
    rcases Int.lt_or_le (rd v (lb : Int)) 500000000 with h | h
    · exfalso
      have := Int.mul_le_mul_of_nonneg_left (show rd v (lb : Int) + 1 ≤ 500000000 by omega) (Int.le_of_lt hP)
      have h6 : P * (rd v (lb : Int) + 1) = P * rd v (lb : Int) + P := by grind
      omega
    · exact h
  -- the first leading part is less than v
  have hT : val (u.drop (e + 1)) < val v := by
    have h1 := val_split u (e + 1) (by omega)
    have h2 := val_nonneg (hDu.take (e + 1))
    have h3 := val_lt ha.1
    have h4 : pw a.length = pw (e + 1) * P := by rw [show a.length = (e + 1) + lb by omega, pw_add, hPe]
    have h5 : val a * m < pw (e + 1) * P * m := by rw [← h4]; exact Int.mul_lt_mul_of_pos_right h3 (by omega)
    rcases Int.lt_or_le (val (u.drop (e + 1))) (P * m) with h | h
    · have := Int.mul_le_mul_of_nonneg_left hm2 (Int.le_of_lt hP)
      rw [hvv]; omega
    · exfalso
      have h6 := Int.mul_le_mul_of_nonneg_left h (Int.le_of_lt (pw_pos (e + 1)))
      have h7 : pw (e + 1) * (P * m) = pw (e + 1) * P * m := by grind
      omega
  have hrz : val (List.replicate (e + 1) 0) = 0 := val_rep _
  obtain ⟨uf, of, hE3, hDuf, hDof, hufl, hofl, hlt, hS⟩ := ev_divide_l0 v hDv (by omega) (by omega) hvn (val u) (e + 1) u (List.replicate (e + 1) 0) hDu (Dig.rep _) (by simp; omega) (by omega) (by simp) hT (by rw [List.drop_eq_nil_of_le (by simp)]; simp [val]) (fun s _ => rd_rep _ _)
  have e3 : ((e + 1 : Nat) : Int) - 1 = (e : Int) := by omega
  rw [e3] at hE3
  have huf0 := val_nonneg hDuf
  -- the quotient and the remainder
  have hr : val uf = m * (val a - val b * val of) := by rw [huv, hvv] at hS; grind
  have hr0 : 0 ≤ val a - val b * val of := by
    rcases Int.lt_or_le (val a - val b * val of) 0 with h | h
    · have := Int.mul_lt_mul_of_pos_left h (show 0 < m by omega)
      omega
    · exact h
  have hr1 : val a - val b * val of < val b := by
    rcases Int.lt_or_le (val a - val b * val of) (val b) with h | h
    · exact h
    · have := Int.mul_le_mul_of_nonneg_left h (show 0 ≤ m by omega)
      rw [hvv] at hlt
      have h2 : m * val b = val b * m := Int.mul_comm _ _
      omega
  obtain ⟨hq1, hq2⟩ := divmod_unique (a := val a) (b := val b) (q := val of) (r := val a - val b * val of) (by omega) hr0 hr1
  have htk : val (uf.take b.length) = val uf := take_all hDuf (by omega) (by rw [hlb, hps]; rw [hvv] at hlt; omega)
  have hE4 := ev_trimmed (uf.take b.length) (hDuf.take _) (by rw [List.length_take]; omega)
  rw [htk] at hE4
  have hE5 := ev_short (dg (val uf)) (nrm_dg _).1 (by rw [dg_len huf0]; have := pw_le (show lb + 1 ≤ 1000 by omega); rw [hps] at this; rw [hvv] at hlt; omega) m (by omega) (by omega)
  rw [val_dg huf0] at hE5
  have hE6 := ev_trimmed of hDof (by rw [hofl]; simp; omega)
  have hdiv : val uf / m = val a % val b := by rw [hq2, hr]; exact Int.mul_ediv_cancel_left _ (by omega)
  rw [hdiv] at hE5
  rw [hq1]
  have hg : a.length ≤ 1000000 ∧ b.length ≤ a.length ∧ 2 ≤ b.length ∧ 0 ≤ rd b ((b.length : Int) - 1) ∧ rd b ((b.length : Int) - 1) < 1000000000 := by
    rw [et, hbt]; exact ⟨by omega, by omega, hbl, hb1.1, hb1.2⟩
  refine Ev.congr (f := fun k => (nat_scaled.f k a m).bind fun u_ => (nat_scaled.f k b m).bind fun v_ => if u_.length = a.length + 1 ∧ v_.length = b.length + 1 then
      (nat_divide.l0 k (v_.take b.length) u_ (List.replicate (a.length - b.length + 1) 0) ((a.length : Int) - b.length)).bind fun s =>
      (nat_trimmed.f k (s.1.take b.length)).bind fun t => (nat_short.f k t m).bind fun d => (nat_trimmed.f k s.2).bind fun q => some (q, d.1) else none) (fun k => ?_) ?_
  · unfold nat_divide.f
    rw [if_pos hg, et, hbt, hm]
  · refine Ev.bind hE1 (Ev.bind hE2 ?_)
    refine Ev.congr (fun k => if_pos ⟨hul, hvl0⟩) ?_
    rw [hve, show a.length - b.length + 1 = e + 1 by omega, show (a.length : Int) - (b.length : Int) = (e : Int) by omega]
    exact Ev.bind hE3 (Ev.bind hE4 (Ev.bind hE5 (Ev.bind hE6 (Ev.now _))))
theorem val_single {b : List Int} (h : b.length = 1) : val b = rd b 0 := by
  match b, h with
  | [x], _ => simp [val, rd]
theorem ev_divided (a b : List Int) (ha : Nrm a) (hb : Nrm b) (hal : a.length ≤ 300) (hbne : b ≠ []) :
    Ev (fun k => nat_divided.f k a b) (dg (val a / val b), dg (val a % val b)) := by
  have hbp := val_pos hb hbne
  have ha0 := val_nonneg ha.1
  unfold nat_divided.f
  refine Ev.bind (ev_compare a b ha hb (by omega)) ?_
  by_cases c : val a < val b
  · have h1 : val a / val b = 0 := Int.ediv_eq_zero_of_lt ha0 c
    have h2 : val a % val b = val a := Int.emod_eq_of_lt ha0 c
    rw [h1, h2, dg_zero]
    have hE := ev_trimmed a ha.1 (by omega)
    refine Ev.congr (f := fun k => (nat_trimmed.f k a).bind fun t => some ([], t)) (fun k => ?_) (Ev.bind hE (Ev.now _))
    have hcm : cmpS (val a) (val b) < 0 := by unfold cmpS; rw [if_pos c]; omega
    rw [if_pos hcm, padded_e _ _ (by omega) (by omega), Option.bind_some]
    have e : ((a.length : Int)).toNat - a.length = 0 := by omega
    rw [e]; simp
  · have hcm : ¬ cmpS (val a) (val b) < 0 := by unfold cmpS; rw [if_neg c]; split <;> omega
    by_cases c1 : b.length = 1
    · have hv := val_single c1
      have h1 := hb.1.rd 0
      have hE := ev_short a ha.1 (by omega) (rd b 0) (by omega) (by omega)
      rw [← hv] at hE
      refine Ev.congr (f := fun k => nat_short.f k a (val b)) (fun k => ?_) hE
      rw [if_neg hcm, if_pos (by omega), if_pos (by omega), ← hv]
      cases nat_short.f k a (val b) with
      | none => rfl
      | some p => rfl
    · have h0 : b.length ≠ 0 := fun e => hbne (List.eq_nil_of_length_eq_zero e)
      refine Ev.congr (f := fun k => nat_divide.f k a b) (fun k => ?_) (ev_divide a b ha hb hal (by omega) (by omega))
      rw [if_neg hcm, if_neg (by omega)]
      cases nat_divide.f k a b with
      | none => rfl
      | some p => rfl
def divS (a b : List Int) : List Int × List Int × Int := if okN a = true ∧ okN b = true then (if b = [] then ([], [], 16) else (dg (val a / val b), dg (val a % val b), 0)) else ([], [], 3)
theorem ev_DivMod (a b : List Int) : Ev (fun k => nat_DivMod.f k a b) (divS a b) := by
  unfold divS
  by_cases ca : okN a = true
  · by_cases cb : okN b = true
    · rw [if_pos ⟨ca, cb⟩]
      have oa := okN_iff.1 ca
      have ob := okN_iff.1 cb
      have hla := oa.1
      refine Ev.bind (ev_Valid a) ?_
      rw [ca]
      simp only [if_true]
      refine Ev.bind (ev_Valid b) ?_
      rw [cb]
      by_cases c : b = []
      · subst c
        rw [if_pos rfl]
        refine Ev.step (f := fun _ => some _) (fun k => ?_) (Ev.now _)
        simp [nat_DivMod.j0]
      · rw [if_neg c]
        have h0 : b.length ≠ 0 := fun e => c (List.eq_nil_of_length_eq_zero e)
        refine Ev.step (f := fun k => (nat_divided.f k a b).bind fun p => some (p.1, p.2, 0)) (fun k => ?_) (Ev.bind (ev_divided a b oa.2 ob.2 (by omega) c) (Ev.now _))
        simp only [nat_DivMod.j0]
        rw [if_neg (by simp), if_neg (by omega)]
    · rw [if_neg (fun h => cb h.2)]
      refine Ev.bind (ev_Valid a) ?_
      rw [ca]
      simp only [if_true]
      refine Ev.bind (ev_Valid b) ?_
      rw [Bool.eq_false_iff.2 cb]
      refine Ev.step (f := fun _ => some _) (fun k => ?_) (Ev.now _)
      simp [nat_DivMod.j0]
  · rw [if_neg (fun h => ca h.1)]
    refine Ev.bind (ev_Valid a) ?_
    rw [Bool.eq_false_iff.2 ca]
    simp only [Bool.false_eq_true, if_false]
    refine Ev.step (f := fun _ => some _) (fun k => ?_) (Ev.now _)
    simp [nat_DivMod.j0]
end Go.Proofs.Ytiondkijgpjgcaa.Px
namespace Go.Proofs.Ytiondkijgpjgcaa.Px
open Go.Proofs.Ytiondkijgpjgcaa.Wd Go.Proofs.Ytiondkijgpjgcaa.Mat
set_option linter.unusedVariables false

def gcdI (x y : Int) : Int := (Nat.gcd x.toNat y.toNat : Nat)
theorem gcdI_step {x y : Int} (hx : 0 ≤ x) (hy : 0 < y) : gcdI x y = gcdI y (x % y) := by
  unfold gcdI
  have e : (x % y).toNat = x.toNat % y.toNat := Int.toNat_emod hx (Int.le_of_lt hy)
  rw [e, Nat.gcd_comm, Nat.gcd_rec, Nat.gcd_comm]
theorem gcdI_zero {x : Int} (hx : 0 ≤ x) : gcdI x 0 = x := by unfold gcdI; simp; omega
theorem gcdI_nonneg (x y : Int) : 0 ≤ gcdI x y := by unfold gcdI; omega
theorem gcdI_le_left {x y : Int} (hx : 0 < x) : gcdI x y ≤ x := by
  unfold gcdI
  have := Nat.gcd_le_left (m := x.toNat) y.toNat (by omega)
  omega
theorem gcdI_comm (x y : Int) : gcdI x y = gcdI y x := by unfold gcdI; rw [Nat.gcd_comm]
theorem gcdI_le_right {x y : Int} (hy : 0 < y) : gcdI x y ≤ y := by rw [gcdI_comm]; exact gcdI_le_left hy
theorem ev_Gcd_l1 : ∀ (n : Nat) (x y : Int), y < n → 0 ≤ y → 0 ≤ x → x ≤ 9000000000000000000 → y ≤ 9000000000000000000 → Ev (fun k => nat_Gcd.l1 k x y) (dg (gcdI x y), 0) := by
  intro n
  induction n with
  | zero => intro x y h h0; omega
  | succ n ih =>
    intro x y h h0 hx hx1 hy1
    by_cases c : y > 0
    · have h1 := Int.emod_nonneg x (show y ≠ 0 by omega)
      have h2 := Int.emod_lt_of_pos x c
      have := ih y (x % y) (by omega) h1 h0 hy1 (by omega)
      rw [← gcdI_step hx c] at this
      refine Ev.step (fun k => ?_) this
      simp only [nat_Gcd.l1]
      rw [if_pos c, if_neg (by omega), tmod_e hx]
    · have hy : y = 0 := by omega
      subst hy
      rw [gcdI_zero hx]
      have := ev_Of x (by omega)
      unfold ofS at this
      rw [if_neg (by omega)] at this
      refine Ev.step (fun k => ?_) this
      simp only [nat_Gcd.l1]
      rw [if_neg c]
      cases nat_Of.f k x with
      | none => rfl
      | some p => rfl
theorem ev_Gcd_j2 (a b : List Int) (ha : Ok a) (hb : Ok b) (h : b = [] ∨ a.length ≤ 2 ∧ b.length ≤ 2) : Ev (fun k => nat_Gcd.j2 k a b) (dg (gcdI (val a) (val b)), 0) := by
  have hal := ha.1
  have ha0 := ha.nonneg
  have hb0 := hb.nonneg
  by_cases c : b = []
  · subst c
    have e : val ([] : List Int) = 0 := rfl
    rw [e, gcdI_zero ha0]
    refine Ev.step (f := fun k => (nat_trimmed.f k a).bind fun t => some (t, 0)) (fun k => ?_) (Ev.bind (ev_trimmed a ha.2.1 (by omega)) (Ev.now _))
    simp only [nat_Gcd.j2]
    rw [if_pos (by simp), padded_e _ _ (by omega) (by omega), Option.bind_some]
    have e : ((a.length : Int)).toNat - a.length = 0 := by omega
    rw [e]; simp
  · have h2 := h.resolve_left c
    have hbl : b.length ≠ 0 := fun e => c (List.eq_nil_of_length_eq_zero e)
    have l1 := val_lt ha.2.1
    have l2 := val_lt hb.2.1
    have l3 := pw_le h2.1
    have l4 := pw_le h2.2
    rw [pw_two] at l3 l4
    refine Ev.step (f := fun k => (nat_small.f k a).bind fun x => (nat_small.f k b).bind fun y => nat_Gcd.l1 k x y) (fun k => ?_) (Ev.bind (ev_small a ha.2.1 h2.1) (Ev.bind (ev_small b hb.2.1 h2.2) (ev_Gcd_l1 ((val b).toNat + 1) (val a) (val b) (by omega) hb0 ha0 (by omega) (by omega))))
    simp only [nat_Gcd.j2]
    rw [if_neg (by omega)]
theorem ev_Gcd_l0 : ∀ (n : Nat) (a b : List Int), val b < n → Ok a → Ok b → Ev (fun k => nat_Gcd.l0 k a b) (dg (gcdI (val a) (val b)), 0) := by
  intro n
  induction n with
  | zero => intro a b h ha hb; have := hb.nonneg; omega
  | succ n ih =>
    intro a b h ha hb
    have hal := ha.1
    by_cases c : b = []
    · subst c
      refine Ev.step (fun k => ?_) (ev_Gcd_j2 a [] ha hb (.inl rfl))
      simp only [nat_Gcd.l0]
      rw [if_neg (by simp)]
    · have hbl : b.length ≠ 0 := fun e => c (List.eq_nil_of_length_eq_zero e)
      have hbp := val_pos hb.2 c
      have h1 := Int.emod_nonneg (val a) (show val b ≠ 0 by omega)
      have h2 := Int.emod_lt_of_pos (val a) hbp
      have hlt := hb.lt
      have hrec := ih b (dg (val a % val b)) (by rw [val_dg h1]; omega) hb (ok_dg h1 (by omega))
      rw [val_dg h1, ← gcdI_step ha.nonneg hbp] at hrec
      by_cases c2 : a.length > 2
      · refine Ev.step (fun k => ?_) (Ev.bind (ev_divided a b ha.2 hb.2 (by omega) c) hrec (f := fun k p => nat_Gcd.l0 k b p.2))
        simp only [nat_Gcd.l0]
        rw [if_pos (by omega), if_pos (by omega)]
      · by_cases c3 : b.length > 2
        · refine Ev.step (fun k => ?_) (Ev.bind (ev_divided a b ha.2 hb.2 (by omega) c) hrec (f := fun k p => nat_Gcd.l0 k b p.2))
          simp only [nat_Gcd.l0]
          rw [if_pos (by omega), if_neg (by omega), if_pos (by omega)]
        · refine Ev.step (fun k => ?_) (ev_Gcd_j2 a b ha hb (.inr ⟨by omega, by omega⟩))
          simp only [nat_Gcd.l0]
          rw [if_pos (by omega), if_neg (by omega), if_neg (by omega)]
def gcdS (a b : List Int) : List Int × Int := if okN a = true ∧ okN b = true then (dg (gcdI (val a) (val b)), 0) else ([], 3)
theorem ev_Gcd (a b : List Int) : Ev (fun k => nat_Gcd.f k a b) (gcdS a b) := by
  unfold gcdS
  by_cases ca : okN a = true
  · by_cases cb : okN b = true
    · rw [if_pos ⟨ca, cb⟩]
      have oa := okN_iff.1 ca
      have ob := okN_iff.1 cb
      refine Ev.bind (ev_Valid a) ?_
      rw [ca]
      simp only [if_true]
      refine Ev.bind (ev_Valid b) ?_
      rw [cb]
      refine Ev.step (fun k => ?_) (ev_Gcd_l0 ((val b).toNat + 1) a b (by have := ob.nonneg; omega) oa ob)
      simp [nat_Gcd.j0]
    · rw [if_neg (fun h => cb h.2)]
      refine Ev.bind (ev_Valid a) ?_
      rw [ca]
      simp only [if_true]
      refine Ev.bind (ev_Valid b) ?_
      rw [Bool.eq_false_iff.2 cb]
      refine Ev.step (f := fun _ => some _) (fun k => ?_) (Ev.now _)
      simp [nat_Gcd.j0]
  · rw [if_neg (fun h => ca h.1)]
    refine Ev.bind (ev_Valid a) ?_
    rw [Bool.eq_false_iff.2 ca]
    simp only [Bool.false_eq_true, if_false]
    refine Ev.step (f := fun _ => some _) (fun k => ?_) (Ev.now _)
    simp [nat_Gcd.j0]
end Go.Proofs.Ytiondkijgpjgcaa.Px
namespace Go.Proofs.Ytiondkijgpjgcaa.Px
open Go.Proofs.Ytiondkijgpjgcaa.Wd Go.Proofs.Ytiondkijgpjgcaa.Mat
set_option linter.unusedVariables false

theorem er_Valid_l0 (l : List Int) (hb : l.length ≤ 48) : ∀ (d : Nat) (i : Int), 0 ≤ i → i ≤ l.length → (l.length : Int) - i = d →
    Ev (fun k => papermillref02_Valid.l0 k l i) (digB (l.drop i.toNat)) := by
  intro d
  induction d with
  | zero =>
    intro i h0 h1 hd
    have e : l.drop i.toNat = [] := List.drop_eq_nil_of_le (by omega)
    rw [e]
    refine Ev.step (f := fun _ => some _) (fun k => ?_) (Ev.now _)
    simp only [papermillref02_Valid.l0]
    rw [if_neg (by omega)]; rfl
  | succ d ih =>
    intro i h0 h1 hd
    have ih' := ih (i + 1) (by omega) (by omega) (by omega)
    have e1 : (i + 1).toNat = i.toNat + 1 := by omega
    rw [e1] at ih'
    rw [drop_rd h0 (by omega)]
    by_cases c1 : rd l i < 0
    · have e2 : (digB (rd l i :: l.drop (i.toNat + 1))) = false := by simp only [digB, List.all_cons]; rw [show decide (0 ≤ rd l i) = false from decide_eq_false (by omega)]; simp
      rw [e2]
      refine Ev.step (f := fun _ => some _) (fun k => ?_) (Ev.now _)
      simp only [papermillref02_Valid.l0]
      rw [if_pos (by omega), if_pos h0, if_pos c1]
    · by_cases c2 : rd l i ≥ 1000000000
      · have e2 : (digB (rd l i :: l.drop (i.toNat + 1))) = false := by simp only [digB, List.all_cons]; rw [show decide (rd l i < 1000000000) = false from decide_eq_false (by omega)]; simp
        rw [e2]
        refine Ev.step (f := fun _ => some _) (fun k => ?_) (Ev.now _)
        simp only [papermillref02_Valid.l0]
        rw [if_pos (by omega), if_pos h0, if_neg c1, if_pos c2]
      · have e2 : (digB (rd l i :: l.drop (i.toNat + 1))) = digB (l.drop (i.toNat + 1)) := by simp only [digB, List.all_cons]; rw [decide_eq_true (show 0 ≤ rd l i by omega), decide_eq_true (show rd l i < 1000000000 by omega)]; simp
        rw [e2]
        refine Ev.step (fun k => ?_) ih'
        simp only [papermillref02_Valid.l0]
        rw [if_pos (by omega), if_pos h0, if_neg c1, if_neg c2, w64 (by omega) (by omega)]
theorem er_Valid (l : List Int) (hlen : l.length ≤ 9223372036854775807) : Ev (fun k => papermillref02_Valid.f k l) (okN l) := by
  have hf : Ev (fun k => papermillref02_Valid.j0 k l true) false := by
    refine Ev.step (f := fun _ => some _) (fun k => ?_) (Ev.now _)
    simp [papermillref02_Valid.j0]
  by_cases hl : l.length ≤ 48
  · have h := er_Valid_l0 l hl l.length 0 (by omega) (by omega) (by omega)
    have hj : Ev (fun k => papermillref02_Valid.j0 k l false) (digB l) := by
      refine Ev.step (fun k => ?_) h
      simp [papermillref02_Valid.j0]
    unfold okN
    rw [decide_eq_true hl, Bool.true_and]
    by_cases hn : l = []
    · subst hn
      refine Ev.congr (fun k => ?_) hj
      unfold papermillref02_Valid.f
      rw [if_neg (by simp), if_neg (by simp)]
    · have hp : 0 < l.length := List.length_pos_iff.2 hn
      have e2 : l.isEmpty = false := by cases l with | nil => exact absurd rfl hn | cons a b => rfl
      rw [e2, Bool.false_or]
      by_cases hz : rd l ((l.length : Int) - 1) = 0
      · have e3 : (rd l ((l.length : Int) - 1) != 0) = false := bne_eq_false_iff_eq.2 hz
        rw [e3, Bool.and_false]
        refine Ev.congr (fun k => ?_) hf
        unfold papermillref02_Valid.f
        rw [if_neg (by omega), if_pos (by omega), w64 (by omega) (by omega), if_pos (by omega), if_pos (by omega), beq_iff_eq.2 hz]
      · have e3 : (rd l ((l.length : Int) - 1) != 0) = true := bne_iff_ne.2 hz
        rw [e3, Bool.and_true]
        refine Ev.congr (fun k => ?_) hj
        unfold papermillref02_Valid.f
        rw [if_neg (by omega), if_pos (by omega), w64 (by omega) (by omega), if_pos (by omega), if_pos (by omega), beq_eq_false_iff_ne.2 hz]
  · unfold okN
    rw [decide_eq_false hl, Bool.false_and, Bool.false_and]
    refine Ev.congr (fun k => ?_) hf
    unfold papermillref02_Valid.f
    rw [if_pos (by omega)]

theorem er_fit_l0 (l : List Int) (h : Dig l) (hb : l.length ≤ 1000000000) : ∀ (d : Nat), d ≤ l.length → val (l.drop d) = 0 →
    Ev (fun k => papermillref02_fit.l0 k l d) (fitS (val l)) := by
  have stop : ∀ d : Nat, d ≤ l.length → l.take d = dg (val l) → ((if (d : Int) > 48 then (some (([] : List Int), (2 : Int))) else ((some (([] : List Int) : List Int)).bind fun y => (if (0 : Int) ≤ d then (if (d : Int) ≤ (l.length : Int) then (if y.length + (l.take ((d : Int)).toNat).length < 17592186044416 then (some ((y ++ (l.take ((d : Int)).toNat)), (0 : Int))) else none) else none) else none)))) = some (fitS (val l)) := by
    intro d hd he
    have ed : ((d : Int)).toNat = d := by omega
    have hl : (dg (val l)).length = d := by rw [← he, List.length_take]; omega
    have hw := dg_len (val_nonneg h) (m := 48)
    unfold fitS
    by_cases c : d ≤ 48
    · rw [if_neg (by omega), if_pos (hw.1 (by omega)), Option.bind_some, if_pos (by omega), if_pos (by omega), ed, if_pos (by simp [List.length_take]; omega), he]; rfl
    · rw [if_pos (by omega), if_neg (fun e => c (by have := hw.2 e; omega))]
  intro d
  induction d with
  | zero =>
    intro hd hv
    rw [List.drop_zero] at hv
    refine Ev.step (f := fun _ => some _) (fun k => ?_) (Ev.now _)
    simp only [papermillref02_fit.l0]
    rw [if_neg (by omega)]
    exact stop 0 (by omega) (by rw [hv, dg_zero]; simp)
  | succ d ih =>
    intro hd hv
    have e1 : (((d + 1 : Nat) : Int) - 1) = d := by omega
    by_cases c : rd l d = 0
    · have hv' : val (l.drop d) = 0 := by
        have := val_drop (l := l) (i := (d : Int)) (by omega) (by omega)
        simp only [Int.toNat_natCast] at this
        rw [this, c, hv]; rfl
      refine Ev.step (fun k => ?_) (ih (by omega) hv')
      simp only [papermillref02_fit.l0]
      rw [if_pos (by omega), w64 (by omega) (by omega), e1, if_pos (by omega), if_pos (by omega), if_pos c]
    · refine Ev.step (f := fun _ => some _) (fun k => ?_) (Ev.now _)
      simp only [papermillref02_fit.l0]
      rw [if_pos (by omega), w64 (by omega) (by omega), e1, if_pos (by omega), if_pos (by omega), if_neg c]
      refine stop (d + 1) hd ?_
      have hn : Nrm (l.take (d + 1)) := by
        refine nrm_of_last (h.take _) fun i hi h0 => ?_
        rw [List.length_take, Nat.min_eq_left hd] at hi
        have : i = d := by omega
        subst this
        have h2 : rd l d = rd (l.take (d + 1) ++ l.drop (d + 1)) d := by rw [List.take_append_drop]
        rw [h2, rd_append_left (by rw [List.length_take]; omega)] at c
        exact c
      have h3 := val_split l (d + 1) hd
      rw [hv, Int.mul_zero, Int.add_zero] at h3
      rw [h3, dg_val hn]
theorem er_fit (l : List Int) (h : Dig l) (hb : l.length ≤ 1000000000) : Ev (fun k => papermillref02_fit.f k l) (fitS (val l)) :=
  er_fit_l0 l h hb l.length (Nat.le_refl _) (by rw [List.drop_length]; rfl)

theorem er_compare_l0 (a b : List Int) (ha : Dig a) (hb : Dig b) (hl : a.length = b.length) (hm : a.length ≤ 1000000000) : ∀ (d : Nat), d ≤ a.length → val (a.drop d) = val (b.drop d) →
    Ev (fun k => papermillref02_compare.l0 k a b ((d : Int) - 1)) (cmpS (val a) (val b)) := by
  intro d
  induction d with
  | zero =>
    intro hd he
    refine Ev.step (f := fun _ => some _) (fun k => ?_) (Ev.now _)
    simp only [papermillref02_compare.l0]
    rw [if_neg (by omega)]
    simp only [List.drop_zero] at he
    unfold cmpS
    rw [if_neg (by omega), if_neg (by omega)]
  | succ d ih =>
    intro hd he
    have e1 : (((d + 1 : Nat) : Int) - 1) = d := by omega
    rw [e1]
    have e2 : ((d : Int)).toNat + 1 = d + 1 := by omega
    by_cases c1 : rd a d < rd b d
    · have := cmp_top ha hb (i := (d : Int)) (by omega) (by omega) (by omega) (by rw [e2]; exact he) c1
      refine Ev.step (f := fun _ => some _) (fun k => ?_) (Ev.now _)
      simp only [papermillref02_compare.l0]
      rw [if_pos (by omega), if_pos (by omega), if_pos (by omega), if_pos (by omega), if_pos c1]
      unfold cmpS; rw [if_pos this]
    · by_cases c2 : rd a d > rd b d
      · have := cmp_top hb ha (i := (d : Int)) (by omega) (by omega) (by omega) (by rw [e2]; exact he.symm) c2
        refine Ev.step (f := fun _ => some _) (fun k => ?_) (Ev.now _)
        simp only [papermillref02_compare.l0]
        rw [if_pos (by omega), if_pos (by omega), if_pos (by omega), if_pos (by omega), if_neg c1, if_pos c2]
        unfold cmpS; rw [if_neg (by omega), if_pos this]
      · have hv : val (a.drop d) = val (b.drop d) := by
          have h1 := val_drop (l := a) (i := (d : Int)) (by omega) (by omega)
          have h2 := val_drop (l := b) (i := (d : Int)) (by omega) (by omega)
          simp only [Int.toNat_natCast] at h1 h2
          rw [h1, h2, he]; omega
        refine Ev.step (fun k => ?_) (ih (by omega) hv)
        simp only [papermillref02_compare.l0]
        rw [if_pos (by omega), if_pos (by omega), if_pos (by omega), if_pos (by omega), if_neg c1, if_neg c2, w64 (by omega) (by omega)]
theorem er_compare (a b : List Int) (ha : Nrm a) (hb : Nrm b) (hm : a.length ≤ 1000000000) : Ev (fun k => papermillref02_compare.f k a b) (cmpS (val a) (val b)) := by
  by_cases hl : a.length = b.length
  · refine Ev.congr (fun k => ?_) (er_compare_l0 a b ha.1 hb.1 hl hm a.length (Nat.le_refl _) (by rw [List.drop_length, hl, List.drop_length]))
    unfold papermillref02_compare.f
    rw [if_pos (by omega), w64 (by omega) (by omega)]
  · by_cases hc : a.length < b.length
    · refine Ev.congr (f := fun _ => some _) (fun k => ?_) (Ev.now _)
      unfold papermillref02_compare.f cmpS
      rw [if_neg (by omega), if_pos (by omega), if_pos (len_lt_val ha hb hc)]
    · have := len_lt_val hb ha (by omega)
      refine Ev.congr (f := fun _ => some _) (fun k => ?_) (Ev.now _)
      unfold papermillref02_compare.f cmpS
      rw [if_neg (by omega), if_neg (by omega), if_neg (by omega), if_pos this]
/-! ### the checks that all functions begin with -/
theorem two_checks {α : Type} {V : Nat → List Int → Option Bool} {a b : List Int} (hV : ∀ l, l = a ∨ l = b → Ev (fun k => V k l) (okN l)) {J : Nat → Bool → Option α} {r e : α} (hok : okN a = true → okN b = true → Ev (fun k => J k false) r) (hbad : Ev (fun k => J k true) e) :
    Ev (fun k => (V k a).bind fun t => if t = true then ((V k b).bind fun t' => J k (!t')) else J k true) (if okN a = true ∧ okN b = true then r else e) := by
  by_cases ca : okN a = true
  · by_cases cb : okN b = true
    · rw [if_pos ⟨ca, cb⟩]
      refine Ev.bind (hV a (.inl rfl)) ?_
      rw [ca]
      simp only [if_true]
      refine Ev.bind (hV b (.inr rfl)) ?_
      rw [cb]
      exact hok ca cb
    · rw [if_neg (fun h => cb h.2)]
      refine Ev.bind (hV a (.inl rfl)) ?_
      rw [ca]
      simp only [if_true]
      refine Ev.bind (hV b (.inr rfl)) ?_
      rw [Bool.eq_false_iff.2 cb]
      exact hbad
  · rw [if_neg (fun h => ca h.1)]
    refine Ev.bind (hV a (.inl rfl)) ?_
    rw [Bool.eq_false_iff.2 ca]
    simp only [Bool.false_eq_true, if_false]
    exact hbad
def Sml (l : List Int) : Prop := l.length ≤ 9223372036854775807

/-! ### Add -/
theorem at_e (l : List Int) (i : Int) (h : 0 ≤ i) : papermillref02_at.f l i = some (rd l i) := by
  unfold papermillref02_at.f
  by_cases c : i < l.length
  · rw [if_pos c, if_pos h]
  · rw [if_neg c, rd_ge (by omega)]
theorem val_drop_rd (l : List Int) {i : Int} (h : 0 ≤ i) : val (l.drop i.toNat) = rd l i + 1000000000 * val (l.drop (i.toNat + 1)) := by
  by_cases c : i < l.length
  · exact val_drop h c
  · rw [rd_ge (by omega), List.drop_eq_nil_of_le (by omega), List.drop_eq_nil_of_le (by omega)]; rfl
theorem val_snoc (x : List Int) (d : Int) : val (x ++ [d]) = val x + pw x.length * d := by rw [val_append]; simp [val]
theorem er_Add_l0 (a b : List Int) (ha : Dig a) (hb : Dig b) (hal : a.length ≤ 1000) (hbl : b.length ≤ 1000) (S : Int) : ∀ (n : Nat) (x : List Int) (c i : Int), Dig x → 0 ≤ i → (x.length : Int) = i → 2000 - i ≤ n → i ≤ 1001 → 0 ≤ c → c ≤ 1 → (c > 0 → i ≤ 1000) →
    val x + (c + val (a.drop i.toNat) + val (b.drop i.toNat)) * pw i.toNat = S → Ev (fun k => papermillref02_Add.l0 k a b x c i) (fitS S) := by
  intro n
  induction n with
  | zero => intro x c i hx h0 hxl hn h1; omega
  | succ n ih =>
    intro x c i hx h0 hxl hn h1 hc0 hc1 hci hS
    have go : (i < a.length ∨ i < b.length ∨ c > 0) → Ev (fun k => papermillref02_Add.j2 k a b x c i true) (fitS S) := by
      intro hg
      have r1 := ha.rd i
      have r2 := hb.rd i
      have hsum : 0 ≤ rd a i + rd b i + c := by omega
      have hm := Int.emod_add_mul_ediv (rd a i + rd b i + c) 1000000000
      have ei : (i + 1).toNat = i.toNat + 1 := by omega
      have e2 : x.length = i.toNat := by omega
      have := ih (x ++ [(rd a i + rd b i + c) % 1000000000]) ((rd a i + rd b i + c) / 1000000000) (i + 1) (hx.append (Dig.cons (by omega) Dig.nil)) (by omega) (by simp; omega) (by omega) (by omega) (by omega) (by omega)
        (fun hcc => by
          rcases hg with h | h | h
          · omega
          · omega
          · by_cases hh : i < 1000
            · omega
            · exfalso
              rw [rd_ge (by omega), rd_ge (by omega)] at hcc
              omega)
        (by
          have d1 := val_drop_rd a h0
          have d2 := val_drop_rd b h0
          rw [val_snoc, ei, e2, pw_succ]
          rw [d1, d2] at hS
          grind)
      refine Ev.step (fun k => ?_) this
      simp only [papermillref02_Add.j2]
      rw [if_pos trivial, at_e a i h0, Option.bind_some, at_e b i h0, Option.bind_some, if_pos (by omega), w64 (x := rd a i + rd b i) (by omega) (by omega), w64 (x := rd a i + rd b i + c) (by omega) (by omega), tmod_e hsum, tdiv_e hsum, w64 (by omega) (by omega), w64 (by omega) (by omega)]
    by_cases c1 : i < a.length
    · refine Ev.step (fun k => ?_) (go (.inl c1))
      simp only [papermillref02_Add.l0]
      rw [if_pos c1]
    · by_cases c2 : i < b.length
      · refine Ev.step (fun k => ?_) (go (.inr (.inl c2)))
        simp only [papermillref02_Add.l0]
        rw [if_neg c1, if_pos c2]
      · by_cases c3 : c > 0
        · refine Ev.step (fun k => ?_) (go (.inr (.inr c3)))
          simp only [papermillref02_Add.l0]
          rw [if_neg c1, if_neg c2, decide_eq_true c3]
        · have hcz : c = 0 := by omega
          have e1 : a.drop i.toNat = [] := List.drop_eq_nil_of_le (by omega)
          have e2 : b.drop i.toNat = [] := List.drop_eq_nil_of_le (by omega)
          rw [e1, e2, hcz] at hS
          have hS2 : val x = S := by simpa [val] using hS
          refine Ev.step (f := fun k => papermillref02_Add.j2 k a b x c i false) (fun k => ?_) (Ev.step (f := fun k => papermillref02_fit.f k x) (fun k => ?_) (hS2 ▸ er_fit x hx (by omega)))
          · simp only [papermillref02_Add.l0]
            rw [if_neg c1, if_neg c2, decide_eq_false c3]
          · simp only [papermillref02_Add.j2]
            rw [if_neg (by simp)]
            cases papermillref02_fit.f k x with
            | none => rfl
            | some p => rfl
theorem er_Add (a b : List Int) (ha : Sml a) (hb : Sml b) : Ev (fun k => papermillref02_Add.f k a b) (addS a b) := by
  unfold papermillref02_Add.f addS
  refine two_checks (V := papermillref02_Valid.f) (fun l hl => er_Valid l (by rcases hl with rfl | rfl <;> assumption)) (J := fun k t => papermillref02_Add.j0 k a b t) (fun ca cb => ?_) ?_
  · have oa := okN_iff.1 ca
    have ob := okN_iff.1 cb
    have h1 := oa.1
    have h2 := ob.1
    refine Ev.step (fun k => ?_) (er_Add_l0 a b oa.2.1 ob.2.1 (by omega) (by omega) (val a + val b) 2000 [] 0 0 Dig.nil (by omega) (by simp) (by omega) (by omega) (by omega) (by omega) (by omega) (by simp [val, pw_zero]))
    simp [papermillref02_Add.j0]
  · refine Ev.step (f := fun _ => some _) (fun k => ?_) (Ev.now _)
    simp [papermillref02_Add.j0]

/-! ### Sub -/
theorem er_minus_l0 (a b : List Int) (ha : Dig a) (hb : Dig b) (hal : a.length ≤ 1000) (hbl : b.length ≤ a.length) (S : Int) (hS0 : 0 ≤ S) (hS1 : S < pw 48) : ∀ (n : Nat) (x : List Int) (c i : Int), Dig x → 0 ≤ i → (x.length : Int) = i → (a.length : Int) - i = n → i ≤ a.length → 0 ≤ c → c ≤ 1 →
    val x + (val (a.drop i.toNat) - val (b.drop i.toNat) - c) * pw i.toNat = S → Ev (fun k => papermillref02_minus.l0 k a b x c i) (dg S) := by
  intro n
  induction n with
  | zero =>
    intro x c i hx h0 hxl hn h1 hc0 hc1 hS
    have e1 : a.drop i.toNat = [] := List.drop_eq_nil_of_le (by omega)
    have e2 : b.drop i.toNat = [] := List.drop_eq_nil_of_le (by omega)
    rw [e1, e2] at hS
    simp only [val] at hS
    have hv := val_lt hx
    have e3 : x.length = i.toNat := by omega
    rw [e3] at hv
    have hcz : c = 0 := by
      rcases (show c = 0 ∨ c = 1 by omega) with h | h
      · exact h
      · rw [h] at hS; omega
    rw [hcz] at hS
    have hS2 : val x = S := by simpa using hS
    have hf := er_fit x hx (by omega)
    rw [hS2] at hf
    unfold fitS at hf
    rw [if_pos hS1] at hf
    refine Ev.step (f := fun k => (papermillref02_fit.f k x).bind fun p => some p.1) (fun k => ?_) (Ev.bind hf (Ev.now _))
    simp only [papermillref02_minus.l0]
    rw [if_neg (by omega)]
  | succ n ih =>
    intro x c i hx h0 hxl hn h1 hc0 hc1 hS
    have r1 := ha.rd i
    have r2 := hb.rd i
    have ei : (i + 1).toNat = i.toNat + 1 := by omega
    have e2 : x.length = i.toNat := by omega
    have d1 := val_drop_rd a h0
    have d2 := val_drop_rd b h0
    rw [d1, d2] at hS
    by_cases cn : rd a i - rd b i - c < 0
    · have := ih (x ++ [rd a i - rd b i - c + 1000000000]) 1 (i + 1) (hx.append (Dig.cons (by omega) Dig.nil)) (by omega) (by simp; omega) (by omega) (by omega) (by omega) (by omega)
        (by rw [val_snoc, ei, e2, pw_succ]; grind)
      refine Ev.step (fun k => ?_) this
      simp only [papermillref02_minus.l0]
      rw [if_pos (by omega), if_pos h0, at_e b i h0, Option.bind_some, w64 (x := rd a i - rd b i) (by omega) (by omega), w64 (x := rd a i - rd b i - c) (by omega) (by omega), if_pos cn, if_pos (by omega), w64 (by omega) (by omega), w64 (by omega) (by omega)]
    · have := ih (x ++ [rd a i - rd b i - c]) 0 (i + 1) (hx.append (Dig.cons (by omega) Dig.nil)) (by omega) (by simp; omega) (by omega) (by omega) (by omega) (by omega)
        (by rw [val_snoc, ei, e2, pw_succ]; grind)
      refine Ev.step (fun k => ?_) this
      simp only [papermillref02_minus.l0]
      rw [if_pos (by omega), if_pos h0, at_e b i h0, Option.bind_some, w64 (x := rd a i - rd b i) (by omega) (by omega), w64 (x := rd a i - rd b i - c) (by omega) (by omega), if_neg cn, if_pos (by omega), w64 (by omega) (by omega)]
theorem er_minus (a b : List Int) (ha : Nrm a) (hb : Nrm b) (hal : a.length ≤ 1000) (hab : val b ≤ val a) (hlt : val a - val b < pw 48) : Ev (fun k => papermillref02_minus.f k a b) (dg (val a - val b)) :=
  er_minus_l0 a b ha.1 hb.1 hal (len_of_le ha hb hab) (val a - val b) (by omega) hlt a.length [] 0 0 Dig.nil (by omega) (by simp) (by omega) (by omega) (by omega) (by omega) (by simp [val, pw_zero])
theorem er_Sub (a b : List Int) (ha : Sml a) (hb : Sml b) : Ev (fun k => papermillref02_Sub.f k a b) (subS a b) := by
  unfold papermillref02_Sub.f subS
  refine two_checks (V := papermillref02_Valid.f) (fun l hl => er_Valid l (by rcases hl with rfl | rfl <;> assumption)) (J := fun k t => papermillref02_Sub.j0 k a b t) (fun ca cb => ?_) ?_
  · have oa := okN_iff.1 ca
    have ob := okN_iff.1 cb
    have h1 := oa.1
    have h2 := ob.1
    have h3 := oa.lt
    have h4 := ob.nonneg
    by_cases c : val a < val b
    · rw [if_pos c]
      have hcm : cmpS (val a) (val b) < 0 := by unfold cmpS; rw [if_pos c]; omega
      refine Ev.step (f := fun k => (papermillref02_compare.f k a b).bind fun t => if t < 0 then some ([], 1) else (papermillref02_minus.f k a b).bind fun t => some (t, 0)) (fun k => ?_) (Ev.bind (er_compare a b oa.2 ob.2 (by omega)) (Ev.congr (f := fun _ => some _) (fun k => if_pos hcm) (Ev.now _)))
      simp [papermillref02_Sub.j0]
    · rw [if_neg c]
      have hcm : ¬ cmpS (val a) (val b) < 0 := by unfold cmpS; rw [if_neg c]; split <;> omega
      refine Ev.step (f := fun k => (papermillref02_compare.f k a b).bind fun t => if t < 0 then some ([], 1) else (papermillref02_minus.f k a b).bind fun t => some (t, 0)) (fun k => ?_) (Ev.bind (er_compare a b oa.2 ob.2 (by omega)) (Ev.congr (fun k => if_neg hcm) (Ev.bind (er_minus a b oa.2 ob.2 (by omega) (by omega) (by omega)) (Ev.now _))))
      simp [papermillref02_Sub.j0]
  · refine Ev.step (f := fun _ => some _) (fun k => ?_) (Ev.now _)
    simp [papermillref02_Sub.j0]
end Go.Proofs.Ytiondkijgpjgcaa.Px
namespace Go.Proofs.Ytiondkijgpjgcaa.Px
open Go.Proofs.Ytiondkijgpjgcaa.Wd Go.Proofs.Ytiondkijgpjgcaa.Mat
set_option linter.unusedVariables false

theorem er_times_l2 (l : List Int) (h : Dig l) (hb : l.length ≤ 1000000000) : ∀ (d : Nat), d ≤ l.length → val (l.drop d) = 0 →
    Ev (fun k => papermillref02_times.l2 k l d) (dg (val l)) := by
  intro d
  induction d with
  | zero =>
    intro hd hv
    refine Ev.step (f := fun _ => some _) (fun k => ?_) (Ev.now _)
    simp only [papermillref02_times.l2]
    rw [if_neg (by omega), if_pos (by omega), if_pos (by omega)]
    rw [List.drop_zero] at hv
    rw [hv, dg_zero]; simp
  | succ d ih =>
    intro hd hv
    have e1 : (((d + 1 : Nat) : Int) - 1) = d := by omega
    by_cases c : rd l d = 0
    · have hv' : val (l.drop d) = 0 := by
        have := val_drop (l := l) (i := (d : Int)) (by omega) (by omega)
        simp only [Int.toNat_natCast] at this
        rw [this, c, hv]; rfl
      refine Ev.step (fun k => ?_) (ih (by omega) hv')
      simp only [papermillref02_times.l2]
      rw [if_pos (by omega), w64 (by omega) (by omega), e1, if_pos (by omega), if_pos (by omega), if_pos c]
    · refine Ev.step (f := fun _ => some _) (fun k => ?_) (Ev.now _)
      simp only [papermillref02_times.l2]
      rw [if_pos (by omega), w64 (by omega) (by omega), e1, if_pos (by omega), if_pos (by omega), if_neg c, if_pos (by omega), if_pos (by omega)]
      congr 1
      have e2 : ((d + 1 : Nat) : Int).toNat = d + 1 := by omega
      rw [e2]
      have hn : Nrm (l.take (d + 1)) := by
        refine nrm_of_last (h.take _) fun i hi h0 => ?_
        rw [List.length_take, Nat.min_eq_left hd] at hi
        have : i = d := by omega
        subst this
        have h2 : rd l d = rd (l.take (d + 1) ++ l.drop (d + 1)) d := by rw [List.take_append_drop]
        rw [h2, rd_append_left (by rw [List.length_take]; omega)] at c
        exact c
      have h3 := val_split l (d + 1) hd
      rw [hv, Int.mul_zero, Int.add_zero] at h3
      rw [h3, dg_val hn]
theorem take_step' (b : List Int) (t : Nat) : val (b.take (t + 1)) = val (b.take t) + pw t * rd b t := by
  by_cases h : t < b.length
  · exact take_step b t h
  · rw [rd_ge (by omega), List.take_of_length_le (by omega), List.take_of_length_le (by omega)]; omega
theorem er_times_l1 (a b : List Int) (ha : Dig a) (hb : Dig b) (hal : a.length ≤ 1000) (hbl : b.length ≤ 1000) (i : Int) (hi0 : 0 ≤ i) (hi1 : i < a.length) (F : List Int) (V : Int)
    (hnext : ∀ x : List Int, Dig x → x.length = a.length + b.length → val x = V + rd a i * val b * pw i.toNat → (∀ t : Nat, i + b.length + 1 ≤ t → rd x t = 0) → Ev (fun k => papermillref02_times.l0 k a b x (wrap64 (i + 1))) F) :
    ∀ (d : Nat) (x : List Int) (c t : Int), Dig x → x.length = a.length + b.length → 0 ≤ t → t ≤ b.length + 1 → (b.length : Int) + 1 - t = d → 0 ≤ c → c < 1000000000 → (t = b.length + 1 → c = 0) →
    val x + c * pw (i.toNat + t.toNat) = V + rd a i * val (b.take t.toNat) * pw i.toNat → (∀ s : Nat, i + b.length + 1 ≤ s → rd x s = 0) → (t ≤ b.length → rd x (i + b.length) = 0) →
    Ev (fun k => papermillref02_times.l1 k a b x i c t) F := by
  intro d
  induction d with
  | zero =>
    intro x c t hx hxl h0 h1 hd hc0 hc1 hcz hV hz hz2
    have et : t.toNat = b.length + 1 := by omega
    have hc := hcz (by omega)
    rw [et, List.take_of_length_le (by omega), hc] at hV
    refine Ev.step (fun k => ?_) (hnext x hx hxl (by rw [← hV]; omega) hz)
    simp only [papermillref02_times.l1]
    rw [if_neg (by omega), if_neg (by omega)]
  | succ d ih =>
    intro x c t hx hxl h0 h1 hd hc0 hc1 hcz hV hz hz2
    have hr := hx.rd (i + t)
    have hm := mul_lt (ha.rd i) (hb.rd t)
    have et : (t + 1).toNat = t.toNat + 1 := by omega
    have eit : (i + t).toNat = i.toNat + t.toNat := by omega
    have hsum : 0 ≤ rd x (i + t) + rd a i * rd b t + c := by omega
    have hdm := Int.emod_add_mul_ediv (rd x (i + t) + rd a i * rd b t + c) 1000000000
    have htk := take_step' b t.toNat
    have e3 : ((t.toNat : Nat) : Int) = t := by omega
    rw [e3] at htk
    have hp := pw_add i.toNat t.toNat
    have step : Ev (fun k => papermillref02_times.l1 k a b (x.set (i + t).toNat ((rd x (i + t) + rd a i * rd b t + c) % 1000000000)) i ((rd x (i + t) + rd a i * rd b t + c) / 1000000000) (t + 1)) F := by
      have hs := val_set (l := x) (i := i + t) ((rd x (i + t) + rd a i * rd b t + c) % 1000000000) (by omega) (by omega)
      refine ih _ _ _ (hx.set _ (by omega)) (by rw [List.length_set]; exact hxl) (by omega) (by omega) (by omega) (by omega) (by omega) (fun h => ?_)
        (by rw [hs, et, htk, eit, ← Nat.add_assoc, pw_succ, hp]; rw [hp] at hV; grind) (fun s hs => by rw [rd_set_ne _ (by omega)]; exact hz s (by omega)) (fun h => by rw [rd_set_ne _ (by omega)]; exact hz2 (by omega))
      have htb : t = b.length := by omega
      have z1 := hz2 (by omega)
      rw [← htb] at z1
      rw [z1, rd_ge (l := b) (by omega)]
      omega
    by_cases cb : t < b.length
    · refine Ev.step (fun k => ?_) step
      simp only [papermillref02_times.l1]
      rw [if_pos cb, w64 (x := i + t) (by omega) (by omega), if_pos (by omega), if_pos (by omega), if_pos hi0, if_pos hi1, at_e b t h0, Option.bind_some,
        w64 (x := rd a i * rd b t) (by omega) (by omega), w64 (x := rd x (i + t) + rd a i * rd b t) (by omega) (by omega), w64 (x := rd x (i + t) + rd a i * rd b t + c) (by omega) (by omega), tmod_e hsum, tdiv_e hsum, w64 (by omega) (by omega), w64 (by omega) (by omega)]
    · have htb : t = b.length := by omega
      by_cases cc : c > 0
      · refine Ev.step (fun k => ?_) step
        simp only [papermillref02_times.l1]
        rw [if_neg cb, if_pos cc, w64 (x := i + t) (by omega) (by omega), if_pos (by omega), if_pos (by omega), if_pos hi0, if_pos hi1, at_e b t h0, Option.bind_some,
          w64 (x := rd a i * rd b t) (by omega) (by omega), w64 (x := rd x (i + t) + rd a i * rd b t) (by omega) (by omega), w64 (x := rd x (i + t) + rd a i * rd b t + c) (by omega) (by omega), tmod_e hsum, tdiv_e hsum, w64 (by omega) (by omega), w64 (by omega) (by omega)]
      · have hcz2 : c = 0 := by omega
        rw [htb, hcz2, show ((b.length : Int)).toNat = b.length by omega, List.take_length] at hV
        refine Ev.step (fun k => ?_) (hnext x hx hxl (by rw [← hV]; omega) hz)
        simp only [papermillref02_times.l1]
        rw [if_neg cb, if_neg cc]
theorem er_times_l0 (a b : List Int) (ha : Dig a) (hb : Dig b) (hal : a.length ≤ 1000) (hbl : b.length ≤ 1000) : ∀ (d : Nat) (x : List Int) (i : Int), Dig x → x.length = a.length + b.length → 0 ≤ i → i ≤ a.length → (a.length : Int) - i = d →
    val x = val (a.take i.toNat) * val b → (∀ s : Nat, i + b.length ≤ s → rd x s = 0) → Ev (fun k => papermillref02_times.l0 k a b x i) (dg (val a * val b)) := by
  intro d
  induction d with
  | zero =>
    intro x i hx hxl h0 h1 hd hV hz
    have ei : i.toNat = a.length := by omega
    rw [ei, List.take_length] at hV
    have := er_times_l2 x hx (by omega) x.length (Nat.le_refl _) (by rw [List.drop_length]; rfl)
    rw [hV] at this
    refine Ev.step (fun k => ?_) this
    simp only [papermillref02_times.l0]
    rw [if_neg (by omega)]
  | succ d ih =>
    intro x i hx hxl h0 h1 hd hV hz
    have ei : (i + 1).toNat = i.toNat + 1 := by omega
    have hts := take_step a i.toNat (by omega)
    have e2 : ((i.toNat : Nat) : Int) = i := by omega
    rw [e2] at hts
    have hz3 := hz (i + b.length).toNat (by omega)
    have e3 : (((i + (b.length : Int)).toNat : Nat) : Int) = i + (b.length : Int) := by omega
    rw [e3] at hz3
    have := er_times_l1 a b ha hb hal hbl i h0 (by omega) (dg (val a * val b)) (val x) (fun y hy hyl hyv hyz => by
      rw [w64 (by omega) (by omega)]
      exact ih y (i + 1) hy hyl (by omega) (by omega) (by omega) (by rw [ei, hts, hyv, hV]; grind) (fun s hs => hyz s (by omega))) (b.length + 1) x 0 0 hx hxl (by omega) (by omega) (by omega) (by omega) (by omega) (by omega) (by simp [val]) (fun s hs => hz s (by omega)) (fun _ => hz3)
    refine Ev.step (fun k => ?_) this
    simp only [papermillref02_times.l0]
    rw [if_pos (by omega)]
theorem er_times (a b : List Int) (ha : Dig a) (hb : Dig b) (hal : a.length ≤ 400) (hbl : b.length ≤ 400) : Ev (fun k => papermillref02_times.f k a b) (dg (val a * val b)) := by
  have := er_times_l0 a b ha hb (by omega) (by omega) a.length (List.replicate (a.length + b.length) 0) 0 (Dig.rep _) (by simp) (by omega) (by omega) (by omega) (by rw [val_rep]; simp [val]) (fun s _ => rd_rep _ _)
  refine Ev.congr (fun k => ?_) this
  unfold papermillref02_times.f
  have e : ((a.length : Int) + (b.length : Int)).toNat = a.length + b.length := by omega
  rw [w64 (by omega) (by omega), if_pos (by omega), if_pos (by omega), e]
theorem mul_le_pw {a b : List Int} (ha : Dig a) (hb : Dig b) : 0 ≤ val a * val b ∧ val a * val b < pw (a.length + b.length) := by
  refine ⟨Int.mul_nonneg (val_nonneg ha) (val_nonneg hb), ?_⟩
  rw [pw_add]
  have h1 := val_lt ha
  have h2 := val_lt hb
  have h3 := val_nonneg ha
  have h4 := val_nonneg hb
  have h5 := Int.mul_le_mul (show val a ≤ pw a.length - 1 by omega) (show val b ≤ pw b.length - 1 by omega) h4 (by omega)
  have h6 := pw_pos a.length
  have h7 := pw_pos b.length
  have h8 : (pw a.length - 1) * (pw b.length - 1) = pw a.length * pw b.length - pw a.length - pw b.length + 1 := by grind
  omega
theorem er_Mul (a b : List Int) (ha : Sml a) (hb : Sml b) : Ev (fun k => papermillref02_Mul.f k a b) (mulS a b) := by
  unfold papermillref02_Mul.f mulS
  refine two_checks (V := papermillref02_Valid.f) (fun l hl => er_Valid l (by rcases hl with rfl | rfl <;> assumption)) (J := fun k t => papermillref02_Mul.j0 k a b t) (fun ca cb => ?_) ?_
  · have oa := okN_iff.1 ca
    have ob := okN_iff.1 cb
    have h1 := oa.1
    have h2 := ob.1
    have h3 := mul_le_pw oa.2.1 ob.2.1
    have hf := er_fit (dg (val a * val b)) (nrm_dg _).1 (by have := (dg_len h3.1).2 h3.2; omega)
    rw [val_dg h3.1] at hf
    refine Ev.step (f := fun k => (papermillref02_times.f k a b).bind fun t => papermillref02_fit.f k t) (fun k => ?_) (Ev.bind (er_times a b oa.2.1 ob.2.1 (by omega) (by omega)) hf)
    simp only [papermillref02_Mul.j0]
    rw [if_neg (by simp)]
    congr 1
    funext t
    cases papermillref02_fit.f k t with
    | none => rfl
    | some p => rfl
  · refine Ev.step (f := fun _ => some _) (fun k => ?_) (Ev.now _)
    simp [papermillref02_Mul.j0]

/-! ### the greatest limb with which the divisor is not too great -/
theorem er_digit_l0 (r b : List Int) (hr : Nrm r) (hb : Nrm b) (hrl : r.length ≤ 200) (hbl : b.length ≤ 100) (hbp : 0 < val b) : ∀ (n : Nat) (lo hi : Int), hi - lo < n → 0 ≤ lo → lo ≤ hi → hi ≤ 999999999 → lo ≤ val r / val b → (val r / val b ≤ hi) →
    Ev (fun k => papermillref02_digit.l0 k r b lo hi) (val r / val b) := by
  intro n
  induction n with
  | zero => intro lo hi h; omega
  | succ n ih =>
    intro lo hi hn h0 h1 h2 hl hh
    by_cases c : lo < hi
    · obtain ⟨m, hm⟩ : ∃ m, (lo + hi + 1) / 2 = m := ⟨_, rfl⟩
      have hm1 : lo < m ∧ m ≤ hi := by omega
      have hDm : Dig [m] := Dig.cons (by omega) Dig.nil
      have hvm : val [m] = m := by simp [val]
      have ht := er_times b [m] hb.1 hDm (by omega) (by simp)
      rw [hvm] at ht
      have hb0 := val_nonneg hb.1
      have hbm : 0 ≤ val b * m := Int.mul_nonneg hb0 (by omega)
      have hw := (mul_le_pw hb.1 hDm).2
      rw [hvm] at hw
      have hl2 := (dg_len hbm).2 hw
      have hc := er_compare (dg (val b * m)) r (nrm_dg _) hr (by simp at hl2; omega)
      rw [val_dg hbm] at hc
      have hstep : ∀ k, papermillref02_digit.l0 (k + 1) r b lo hi = (papermillref02_times.f k b [m]).bind fun t => (papermillref02_compare.f k t r).bind fun s => if s ≤ 0 then papermillref02_digit.l0 k r b m hi else papermillref02_digit.l0 k r b lo (m - 1) := by
        intro k
        simp only [papermillref02_digit.l0]
        rw [if_pos c, w64 (x := lo + hi) (by omega) (by omega), w64 (x := lo + hi + 1) (by omega) (by omega), tdiv_e (by omega), hm, w64 (x := m) (by omega) (by omega), w64 (x := m - 1) (by omega) (by omega)]
      by_cases cm : val b * m ≤ val r
      · have hs : cmpS (val b * m) (val r) ≤ 0 := by unfold cmpS; split <;> (try split) <;> omega
        refine Ev.step hstep (Ev.bind ht (Ev.bind hc (Ev.congr (fun k => if_pos hs) (ih m hi (by omega) (by omega) hm1.2 h2 ?_ hh))))
        exact Int.le_ediv_of_mul_le hbp (by rw [Int.mul_comm]; exact cm)
      · have hs : ¬ cmpS (val b * m) (val r) ≤ 0 := by unfold cmpS; rw [if_neg (by omega), if_pos (by omega)]; omega
        refine Ev.step hstep (Ev.bind ht (Ev.bind hc (Ev.congr (fun k => if_neg hs) (ih lo (m - 1) (by omega) h0 (by omega) (by omega) hl ?_))))
        have : val r / val b < m := Int.ediv_lt_of_lt_mul hbp (by rw [Int.mul_comm]; omega)
        omega
    · have he : val r / val b = lo := by omega
      rw [he]
      refine Ev.step (f := fun _ => some _) (fun k => ?_) (Ev.now _)
      simp only [papermillref02_digit.l0]
      rw [if_neg c]
theorem er_digit (r b : List Int) (hr : Nrm r) (hb : Nrm b) (hrl : r.length ≤ 200) (hbl : b.length ≤ 100) (hbp : 0 < val b) (hlt : val r < 1000000000 * val b) : Ev (fun k => papermillref02_digit.f k r b) (val r / val b) := by
  have h1 : 0 ≤ val r / val b := Int.ediv_nonneg (val_nonneg hr.1) (by omega)
  have h2 : val r / val b < 1000000000 := Int.ediv_lt_of_lt_mul hbp hlt
  exact er_digit_l0 r b hr hb hrl hbl hbp 1000000000 0 999999999 (by omega) (by omega) (by omega) (by omega) h1 (by omega)

/-! ### DivMod -/
theorem nrm_cons {d : Int} {l : List Int} (hd : 0 ≤ d ∧ d < 1000000000) (hl : Nrm l) (hne : l ≠ []) : Nrm (d :: l) := by
  refine ⟨Dig.cons hd hl.1, fun h => ?_⟩
  rw [List.getLast_cons hne]
  exact hl.2 hne
theorem er_DivMod_l0 (a b : List Int) (ha : Dig a) (hb : Nrm b) (hal : a.length ≤ 100) (hbl : b.length ≤ 100) (hbp : 0 < val b) (haw : val a < pw 48) : ∀ (d : Nat) (q r : List Int), Dig q → q.length = a.length → Nrm r → val r < val b → d ≤ a.length →
    val (a.drop d) = val b * val (q.drop d) + val r → (∀ s : Nat, s < d → rd q s = 0) → Ev (fun k => papermillref02_DivMod.l0 k a b q r ((d : Int) - 1)) (dg (val a / val b), dg (val a % val b), 0) := by
  intro d
  induction d with
  | zero =>
    intro q r hq hql hr hlt hd hV hz
    simp only [List.drop_zero] at hV
    have hr0 := val_nonneg hr.1
    obtain ⟨h1, h2⟩ := divmod_unique (a := val a) (b := val b) (q := val q) (r := val r) (by omega) hr0 hlt
    rw [h1, h2, dg_val hr]
    have hf := er_fit q hq (by omega)
    have hq0 := val_nonneg hq
    have hqle : val q ≤ val a := by
      have := Int.mul_le_mul_of_nonneg_right (show 1 ≤ val b by omega) hq0
      omega
    unfold fitS at hf
    rw [if_pos (by omega)] at hf
    refine Ev.step (f := fun k => (papermillref02_fit.f k q).bind fun p => some (p.1, r, 0)) (fun k => ?_) (Ev.bind hf (Ev.now _))
    simp only [papermillref02_DivMod.l0]
    rw [if_neg (by omega)]
  | succ d ih =>
    intro q r hq hql hr hlt hd hV hz
    have e1 : (((d + 1 : Nat) : Int) - 1) = d := by omega
    have ed : ((d : Int)).toNat = d := by omega
    have hra := ha.rd d
    have hda := val_drop (l := a) (i := (d : Int)) (by omega) (by omega)
    rw [ed] at hda
    have hr0 := val_nonneg hr.1
    have hrl : r.length ≤ 100 := by
      have := (len_le hr (n := b.length)).2 (by have := val_lt hb.1; omega)
      omega
    -- the next remainder, before it is reduced
    have key : ∀ r2 : List Int, Nrm r2 → r2.length ≤ 101 → val r2 = rd a d + 1000000000 * val r → Ev (fun k => papermillref02_DivMod.j2 k a b q r2 d) (dg (val a / val b), dg (val a % val b), 0) := by
      intro r2 hr2 hl2 hv2
      have hlt2 : val r2 < 1000000000 * val b := by omega
      have hE1 := er_digit r2 b hr2 hb (by omega) hbl hbp hlt2
      have hdm := Int.emod_add_mul_ediv (val r2) (val b)
      have hm0 := Int.emod_nonneg (val r2) (show val b ≠ 0 by omega)
      have hm1 := Int.emod_lt_of_pos (val r2) hbp
      have hr20 := val_nonneg hr2.1
      have hqt0 : 0 ≤ val r2 / val b := Int.ediv_nonneg hr20 (by omega)
      have hqt1 : val r2 / val b < 1000000000 := Int.ediv_lt_of_lt_mul hbp hlt2
      obtain ⟨t, ht⟩ : ∃ t, val r2 / val b = t := ⟨_, rfl⟩
      obtain ⟨m, hm⟩ : ∃ m, val r2 % val b = m := ⟨_, rfl⟩
      rw [ht] at hE1 hdm hqt0 hqt1
      rw [hm] at hdm hm0 hm1
      have hdx := val_drop (l := q.set d t) (i := (d : Int)) (by omega) (by rw [List.length_set]; omega)
      rw [ed] at hdx
      have hrs := rd_set_eq (l := q) (i := (d : Int)) t (by omega)
      rw [ed] at hrs
      rw [hrs, List.drop_set_of_lt (show d < d + 1 by omega)] at hdx
      have fin : ∀ r3 : List Int, Nrm r3 → val r3 = m → Ev (fun k => papermillref02_DivMod.l0 k a b (q.set d t) r3 ((d : Int) - 1)) (dg (val a / val b), dg (val a % val b), 0) := by
        intro r3 hr3 hv3
        refine ih (q.set d t) r3 (hq.set _ ⟨hqt0, hqt1⟩) (by rw [List.length_set]; exact hql) hr3 (by omega) (by omega) ?_ (fun s hs => ?_)
        · rw [hda, hdx, hV, hv3]
          have : val r2 = m + val b * t := by omega
          grind
        · have := rd_set_ne (l := q) (i := (d : Int)) (j := (s : Int)) t (by omega)
          rw [ed] at this
          rw [this]; exact hz s (by omega)
      by_cases ct : t > 0
      · have hDt : Dig [t] := Dig.cons ⟨hqt0, hqt1⟩ Dig.nil
        have hvt : val [t] = t := by simp [val]
        have hE2 := er_times b [t] hb.1 hDt (by omega) (by simp)
        rw [hvt] at hE2
        have hbt0 : 0 ≤ val b * t := Int.mul_nonneg (by omega) hqt0
        have hE3 := er_minus r2 (dg (val b * t)) hr2 (nrm_dg _) (by omega) (by rw [val_dg hbt0]; omega) (by
          rw [val_dg hbt0]
          have h1 : val r2 - val b * t = m := by omega
          have h2 : m < val b := hm1
          have h3 : val a ≥ 0 := val_nonneg ha
          have h4 := val_lt hb.1
          have h5 : m ≤ val a := by
            -- the remainder is at most what is left of a
            have h6 := val_split a d (by omega)
            have h7 := val_nonneg (ha.take d)
            have h8 := val_nonneg (hq.drop (d + 1))
            have h9 : 0 ≤ val b * val (q.drop (d + 1)) := Int.mul_nonneg (by omega) h8
            have h10 : val r2 ≤ val (a.drop d) := by rw [hda, hv2, hV]; omega
            have h11 := pw_pos d
            have h12 := Int.mul_le_mul_of_nonneg_right (show 1 ≤ pw d by omega) (val_nonneg (ha.drop d))
            omega
          omega)
        rw [val_dg hbt0] at hE3
        have hmm : val r2 - val b * t = m := by omega
        rw [hmm] at hE3
        have hfin := fin (dg m) (nrm_dg _) (val_dg hm0)
        refine Ev.step (f := fun k => (papermillref02_digit.f k r2 b).bind fun t407 => (if 0 ≤ (d : Int) then (if (d : Int) < (q.length : Int) then ((some (q.set ((d : Int)).toNat t407 : List Int)).bind fun y408 => (if t407 > 0 then ((papermillref02_times.f k b (([t407] : List Int))).bind fun t412 => ((papermillref02_minus.f k r2 t412).bind fun t415 => (papermillref02_DivMod.l0 k a b y408 t415 (wrap64 ((d : Int) - 1))))) else (papermillref02_DivMod.l0 k a b y408 r2 (wrap64 ((d : Int) - 1))))) else (none)) else (none))) (fun k => by simp only [papermillref02_DivMod.j2]) (Ev.bind hE1 ?_)
        refine Ev.congr (f := fun k => (papermillref02_times.f k b [t]).bind fun t412 => (papermillref02_minus.f k r2 t412).bind fun t415 => papermillref02_DivMod.l0 k a b (q.set d t) t415 ((d : Int) - 1)) (fun k => ?_) (Ev.bind hE2 (Ev.bind hE3 hfin))
        rw [if_pos (by omega), if_pos (by omega), Option.bind_some, if_pos ct, ed, w64 (by omega) (by omega)]
      · have ht0 : t = 0 := by omega
        have hmm : val r2 = m := by rw [ht0] at hdm; omega
        have hfin := fin r2 hr2 hmm
        refine Ev.step (f := fun k => (papermillref02_digit.f k r2 b).bind fun t407 => (if 0 ≤ (d : Int) then (if (d : Int) < (q.length : Int) then ((some (q.set ((d : Int)).toNat t407 : List Int)).bind fun y408 => (if t407 > 0 then ((papermillref02_times.f k b (([t407] : List Int))).bind fun t412 => ((papermillref02_minus.f k r2 t412).bind fun t415 => (papermillref02_DivMod.l0 k a b y408 t415 (wrap64 ((d : Int) - 1))))) else (papermillref02_DivMod.l0 k a b y408 r2 (wrap64 ((d : Int) - 1))))) else (none)) else (none))) (fun k => by simp only [papermillref02_DivMod.j2]) (Ev.bind hE1 ?_)
        refine Ev.congr (fun k => ?_) hfin
        rw [if_pos (by omega), if_pos (by omega), Option.bind_some, if_neg ct, ed, w64 (by omega) (by omega)]
    -- the limb comes down
    have hlen1 : (([rd a d] ++ r : List Int).length : Int) - 1 = (r.length : Int) := by simp
    have hstep : ∀ k, papermillref02_DivMod.l0 (k + 1) a b q r (((d + 1 : Nat) : Int) - 1) = if rd ([rd a d] ++ r) r.length = 0 then papermillref02_DivMod.j2 k a b q [] d else papermillref02_DivMod.j2 k a b q ([rd a d] ++ r) d := by
      intro k
      simp only [papermillref02_DivMod.l0]
      rw [e1, if_pos (by omega), if_pos (by omega), if_pos (by omega), Option.bind_some, if_pos (by simp; omega), Option.bind_some, hlen1, w64 (by omega) (by omega), if_pos (by omega), if_pos (by simp; omega)]
    by_cases hrn : r = []
    · subst hrn
      have e0 : rd ([rd a d] ++ ([] : List Int)) (([] : List Int).length) = rd a d := by simp [rd]
      by_cases cz : rd a d = 0
      · refine Ev.step (fun k => ?_) (key [] nrm_nil (by simp) (by simp [val, cz]))
        rw [hstep, if_pos (by rw [e0]; exact cz)]
      · refine Ev.step (fun k => ?_) (key ([rd a d] ++ []) (nrm_one ⟨by omega, hra.2⟩) (by simp) (by simp [val]))
        rw [hstep, if_neg (by rw [e0]; exact cz)]
    · have hn := nrm_cons hra hr hrn
      have hl := nrm_last hn (i := (r.length : Int)) (by simp) (by omega)
      refine Ev.step (fun k => ?_) (key ([rd a d] ++ r) hn (by simp; omega) (by simp [val]))
      rw [hstep, if_neg (show ¬ rd ([rd a d] ++ r) r.length = 0 from hl)]
theorem er_DivMod (a b : List Int) (ha : Sml a) (hb : Sml b) : Ev (fun k => papermillref02_DivMod.f k a b) (divS a b) := by
  unfold papermillref02_DivMod.f divS
  refine two_checks (V := papermillref02_Valid.f) (fun l hl => er_Valid l (by rcases hl with rfl | rfl <;> assumption)) (J := fun k t => papermillref02_DivMod.j0 k a b t) (fun ca cb => ?_) ?_
  · have oa := okN_iff.1 ca
    have ob := okN_iff.1 cb
    have h1 := oa.1
    have h2 := ob.1
    by_cases c : b = []
    · subst c
      rw [if_pos rfl]
      refine Ev.step (f := fun _ => some _) (fun k => ?_) (Ev.now _)
      simp [papermillref02_DivMod.j0]
    · rw [if_neg c]
      have h0 : b.length ≠ 0 := fun e => c (List.eq_nil_of_length_eq_zero e)
      have hbp := val_pos ob.2 c
      have := er_DivMod_l0 a b oa.2.1 ob.2 (by omega) (by omega) hbp oa.lt a.length (List.replicate a.length 0) [] (Dig.rep _) (by simp) nrm_nil (by simpa [val] using hbp) (Nat.le_refl _) (by rw [List.drop_length, List.drop_eq_nil_of_le (by simp)]; simp [val]) (fun s _ => rd_rep _ _)
      refine Ev.step (fun k => ?_) this
      have e : ((a.length : Int)).toNat = a.length := by omega
      simp only [papermillref02_DivMod.j0]
      rw [if_neg (by simp), if_neg (by omega), if_pos (by omega), if_pos (by omega), e, w64 (by omega) (by omega)]
  · refine Ev.step (f := fun _ => some _) (fun k => ?_) (Ev.now _)
    simp [papermillref02_DivMod.j0]

/-! ### Gcd -/
theorem ok_sml {l : List Int} (h : Ok l) : Sml l := by have := h.1; unfold Sml; omega
theorem er_Gcd_l0 : ∀ (n : Nat) (a b : List Int), val b < n → Ok a → Ok b → Ev (fun k => papermillref02_Gcd.l0 k a b) (dg (gcdI (val a) (val b)), 0) := by
  intro n
  induction n with
  | zero => intro a b h ha hb; have := hb.nonneg; omega
  | succ n ih =>
    intro a b h ha hb
    have hbl1 := hb.1
    by_cases c : b = []
    · subst c
      have e : val ([] : List Int) = 0 := rfl
      rw [e, gcdI_zero ha.nonneg, dg_val ha.2]
      refine Ev.step (f := fun _ => some _) (fun k => ?_) (Ev.now _)
      simp only [papermillref02_Gcd.l0]
      rw [if_neg (by simp)]
    · have hbl : b.length ≠ 0 := fun e => c (List.eq_nil_of_length_eq_zero e)
      have hbp := val_pos hb.2 c
      have h1 := Int.emod_nonneg (val a) (show val b ≠ 0 by omega)
      have h2 := Int.emod_lt_of_pos (val a) hbp
      have hlt := hb.lt
      have hrec := ih b (dg (val a % val b)) (by rw [val_dg h1]; omega) hb (ok_dg h1 (by omega))
      rw [val_dg h1, ← gcdI_step ha.nonneg hbp] at hrec
      have hdv := er_DivMod a b (ok_sml ha) (ok_sml hb)
      unfold divS at hdv
      rw [if_pos ⟨okN_iff.2 ha, okN_iff.2 hb⟩, if_neg c] at hdv
      refine Ev.step (f := fun k => (papermillref02_DivMod.f k a b).bind fun p => papermillref02_Gcd.l0 k b p.2.1) (fun k => ?_) (Ev.bind hdv hrec)
      simp only [papermillref02_Gcd.l0]
      rw [if_pos (by omega)]
      congr 1
      funext p
      rw [Option.bind_some, if_pos (by simp; omega)]; rfl
theorem er_Gcd (a b : List Int) (ha : Sml a) (hb : Sml b) : Ev (fun k => papermillref02_Gcd.f k a b) (gcdS a b) := by
  unfold papermillref02_Gcd.f gcdS
  refine two_checks (V := papermillref02_Valid.f) (fun l hl => er_Valid l (by rcases hl with rfl | rfl <;> assumption)) (J := fun k t => papermillref02_Gcd.j0 k a b t) (fun ca cb => ?_) ?_
  · have oa := okN_iff.1 ca
    have ob := okN_iff.1 cb
    have h1 := oa.1
    refine Ev.step (fun k => ?_) (er_Gcd_l0 ((val b).toNat + 1) a b (by have := ob.nonneg; omega) oa ob)
    simp only [papermillref02_Gcd.j0]
    rw [if_neg (by simp), Option.bind_some, if_pos (by simp; omega)]; rfl
  · refine Ev.step (f := fun _ => some _) (fun k => ?_) (Ev.now _)
    simp [papermillref02_Gcd.j0]

/-! ### Of -/
theorem er_Of_l0 : ∀ (j : Nat) (n : Int) (x : List Int), n < pw j → 0 ≤ n → n ≤ 9223372036854775807 → x.length + j ≤ 1000 → Ev (fun k => papermillref02_Of.l0 k n x) (x ++ dg n, 0) := by
  intro j
  induction j with
  | zero =>
    intro n x h h0 h1 hx
    rw [pw_zero] at h
    have : n = 0 := by omega
    subst this
    refine Ev.step (f := fun _ => some _) (fun k => ?_) (Ev.now _)
    simp only [papermillref02_Of.l0]
    rw [if_neg (by omega), dg_zero, List.append_nil]
  | succ j ih =>
    intro n x h h0 h1 hx
    rw [pw_succ] at h
    by_cases c : 0 < n
    · have := ih (n / 1000000000) (x ++ [n % 1000000000]) (by omega) (by omega) (by omega) (by simp; omega)
      rw [List.append_assoc, List.singleton_append, ← dg_pos c] at this
      refine Ev.step (fun k => ?_) this
      simp only [papermillref02_Of.l0]
      rw [if_pos c, if_pos (by omega), tdiv_e h0, tmod_e h0, w64 (by omega) (by omega)]
    · have : n = 0 := by omega
      subst this
      refine Ev.step (f := fun _ => some _) (fun k => ?_) (Ev.now _)
      simp only [papermillref02_Of.l0]
      rw [if_neg (by omega), dg_zero, List.append_nil]
theorem er_Of (n : Int) (h : n ≤ 9223372036854775807) : Ev (fun k => papermillref02_Of.f k n) (ofS n) := by
  unfold ofS
  by_cases c : n < 0
  · rw [if_pos c]
    refine Ev.congr (f := fun _ => some _) (fun k => ?_) (Ev.now _)
    unfold papermillref02_Of.f; rw [if_pos c]
  · rw [if_neg c]
    have hp : pw 3 = 1000000000000000000000000000 := by rw [pw_succ, pw_two]; rfl
    have := er_Of_l0 3 n [] (by omega) (by omega) h (by simp)
    refine Ev.congr (fun k => ?_) this
    unfold papermillref02_Of.f; rw [if_neg c]
end Go.Proofs.Ytiondkijgpjgcaa.Px
namespace Go.Proofs.Ytiondkijgpjgcaa.Px
open Go.Proofs.Ytiondkijgpjgcaa.Wd Go.Proofs.Ytiondkijgpjgcaa.Mat
set_option linter.unusedVariables false
def ncmpS (a b : List Int) : Int × Int := if okN a = true ∧ okN b = true then (cmpS (val a) (val b), 0) else (0, 3)
theorem ev_Cmp (a b : List Int) : Ev (fun k => nat_Cmp.f k a b) (ncmpS a b) := by
  unfold ncmpS nat_Cmp.f
  refine Ev.bind (ev_Valid a) ?_
  by_cases ha : okN a = true
  · simp only [ha, if_true, true_and]
    refine Ev.bind (ev_Valid b) ?_
    by_cases hb : okN b = true
    · simp only [hb, if_true]
      have o1 := okN_iff.1 ha
      have o2 := okN_iff.1 hb
      exact Ev.bind (ev_compare a b o1.2 o2.2 (by have := o1.1; omega)) (Ev.now _)
    · simp only [hb, if_false, Bool.false_eq_true]
      exact Ev.now _
  · simp only [ha, if_false, Bool.false_eq_true, false_and]
    exact Ev.now _
theorem er_Cmp (a b : List Int) (ha' : Sml a) (hb' : Sml b) : Ev (fun k => papermillref02_Cmp.f k a b) (ncmpS a b) := by
  unfold ncmpS papermillref02_Cmp.f
  refine Ev.bind (er_Valid a ha') ?_
  by_cases ha : okN a = true
  · simp only [ha, if_true, true_and]
    refine Ev.bind (er_Valid b hb') ?_
    by_cases hb : okN b = true
    · simp only [hb, if_true]
      have o1 := okN_iff.1 ha
      have o2 := okN_iff.1 hb
      exact Ev.bind (er_compare a b o1.2 o2.2 (by have := o1.1; omega)) (Ev.now _)
    · simp only [hb, if_false, Bool.false_eq_true]
      exact Ev.now _
  · simp only [ha, if_false, Bool.false_eq_true, false_and]
    exact Ev.now _
theorem take_eq_step {a b : List Int} {i : Nat} (hl : a.length = b.length) (hi : i < a.length) (h : a.take i = b.take i) : a.take (i + 1) = b.take (i + 1) ↔ rd a i = rd b i := by
  rw [List.take_add_one (l := a), List.take_add_one (l := b), h, List.append_cancel_left_eq]
  have h2 : i < b.length := by omega
  simp [rd, hi, h2, List.getElem?_eq_getElem]
theorem er_Same_l0 (a b : List Int) (ha : Sml a) (hl : a.length = b.length) : ∀ (d : Nat) (i : Int), 0 ≤ i → i ≤ a.length → (a.length : Int) - i = d → a.take i.toNat = b.take i.toNat → Ev (fun k => papermillref02_Same.l0 k a b i) (decide (a = b)) := by
  intro d
  induction d with
  | zero =>
    intro i h0 h1 h2 h3
    refine Ev.step (f := fun _ => some true) (fun k => ?_) ?_
    · simp only [papermillref02_Same.l0]
      rw [if_neg (by omega)]
    · have : a = b := by
        have e : i.toNat = a.length := by omega
        rw [e, List.take_length] at h3
        rw [h3, hl, List.take_length]
      simp only [this, decide_true]
      exact Ev.now _
  | succ d ih =>
    intro i h0 h1 h2 h3
    have hi : i < a.length := by omega
    have hi2 : i < b.length := by omega
    unfold Sml at ha
    have w : wrap64 (i + 1) = i + 1 := w64 (by omega) (by omega)
    have st := take_eq_step (i := i.toNat) hl (by omega) h3
    rw [show ((i.toNat : Nat) : Int) = i by omega] at st
    by_cases he : rd a i = rd b i
    · refine Ev.step (f := fun k => papermillref02_Same.l0 k a b (i + 1)) (fun k => ?_) (ih (i + 1) (by omega) (by omega) (by omega) ?_)
      · simp only [papermillref02_Same.l0]
        rw [if_pos hi, if_pos h0, if_pos hi2, if_pos he, w]
      · rw [show (i + 1).toNat = i.toNat + 1 by omega]; exact st.2 he
    · refine Ev.step (f := fun _ => some false) (fun k => ?_) ?_
      · simp only [papermillref02_Same.l0]
        rw [if_pos hi, if_pos h0, if_pos hi2, if_neg he]
      · have : ¬ a = b := fun e => he (by rw [e])
        simp only [this, decide_false]
        exact Ev.now _
theorem er_Same (a b : List Int) (ha : Sml a) : Ev (fun k => papermillref02_Same.f k a b) (decide (a = b)) := by
  unfold papermillref02_Same.f
  by_cases hl : (a.length : Int) = b.length
  · simp only [if_pos hl]
    exact er_Same_l0 a b ha (by omega) a.length 0 (by omega) (by omega) (by omega) (by simp)
  · simp only [if_neg hl]
    have : ¬ a = b := fun e => hl (by rw [e])
    simp only [this, decide_false]
    exact Ev.now _
theorem limbs_eq : ∀ (k : Nat) (a b : List Int) (i : Int), papermillref03_limbs.l0 k a b i = papermillref02_Same.l0 k a b i
  | 0, _, _, _ => rfl
  | k + 1, a, b, i => by simp only [papermillref03_limbs.l0, papermillref02_Same.l0, limbs_eq k]
theorem er_limbs (a b : List Int) (ha : Sml a) : Ev (fun k => papermillref03_limbs.f k a b) (decide (a = b)) := by
  refine Ev.congr (fun k => ?_) (er_Same a b ha)
  simp only [papermillref03_limbs.f, papermillref02_Same.f, limbs_eq]
end Go.Proofs.Ytiondkijgpjgcaa.Px
namespace Go.Proofs.Ytiondkijgpjgcaa.Pw
open Go Wd Px Mat
set_option linter.unusedVariables false
/-- A list that comes in has no more cells than memory has. -/
theorem Sound.sml {P : Program} {f : Nat} {args : List PV} {res : PV} (hE : Entered P f) (j : Nat) (l : List Int) (hj : args[j]? = some (N l)) (h : Sml l → Sound P f args res) : Sound P f args res :=
  Sound.len hE j l.length (l.map I) hj fun hl => h (by unfold Sml; omega)
theorem nat_Valid.c (l : List Int) : Sound Try.prog 59 [N l] (B (okN l)) := (ev_Valid l).rounds.elim fun k h => nat_Valid.snd k l _ h
theorem nat_Cmp.c (a b : List Int) : Sound Try.prog 65 [N a, N b] (.tup [I (ncmpS a b).1, I (ncmpS a b).2]) := (ev_Cmp a b).rounds.elim fun k h => nat_Cmp.snd k a b _ _ h
theorem nat_Of.c (n : Int) (hn : n ≤ 9223372036854775807) : Sound Try.prog 87 [I n] (.tup [N (ofS n).1, I (ofS n).2]) := (ev_Of n hn).rounds.elim fun k h => nat_Of.snd k n _ _ h
theorem nat_Add.c (a b : List Int) : Sound Try.prog 71 [N a, N b] (.tup [N (addS a b).1, I (addS a b).2]) := (ev_Add a b).rounds.elim fun k h => nat_Add.snd k a b _ _ h
theorem nat_Sub.c (a b : List Int) : Sound Try.prog 72 [N a, N b] (.tup [N (subS a b).1, I (subS a b).2]) := (ev_Sub a b).rounds.elim fun k h => nat_Sub.snd k a b _ _ h
theorem nat_Mul.c (a b : List Int) : Sound Try.prog 89 [N a, N b] (.tup [N (mulS a b).1, I (mulS a b).2]) := (ev_Mul a b).rounds.elim fun k h => nat_Mul.snd k a b _ _ h
theorem nat_Gcd.c (a b : List Int) : Sound Try.prog 60 [N a, N b] (.tup [N (gcdS a b).1, I (gcdS a b).2]) := (ev_Gcd a b).rounds.elim fun k h => nat_Gcd.snd k a b _ _ h
theorem nat_DivMod.c (a b : List Int) : Sound Try.prog 94 [N a, N b] (.tup [N (divS a b).1, N (divS a b).2.1, I (divS a b).2.2]) := (ev_DivMod a b).rounds.elim fun k h => nat_DivMod.snd k a b _ _ _ h
theorem ref_Valid.c (l : List Int) : Sound Try.prog 48 [N l] (B (okN l)) := Sound.sml (Entered.of Try.func48 rfl rfl) 0 l rfl fun hl => (er_Valid l hl).rounds.elim fun k h => ref_Valid.snd k l _ h
theorem ref_Add.c (a b : List Int) : Sound Try.prog 99 [N a, N b] (.tup [N (addS a b).1, I (addS a b).2]) := Sound.sml (Entered.of Try.func99 rfl rfl) 0 a rfl fun ha => Sound.sml (Entered.of Try.func99 rfl rfl) 1 b rfl fun hb => (er_Add a b ha hb).rounds.elim fun k h => ref_Add.snd k a b _ _ h
theorem ref_Sub.c (a b : List Int) : Sound Try.prog 100 [N a, N b] (.tup [N (subS a b).1, I (subS a b).2]) := Sound.sml (Entered.of Try.func100 rfl rfl) 0 a rfl fun ha => Sound.sml (Entered.of Try.func100 rfl rfl) 1 b rfl fun hb => (er_Sub a b ha hb).rounds.elim fun k h => ref_Sub.snd k a b _ _ h
theorem ref_Mul.c (a b : List Int) : Sound Try.prog 52 [N a, N b] (.tup [N (mulS a b).1, I (mulS a b).2]) := Sound.sml (Entered.of Try.func52 rfl rfl) 0 a rfl fun ha => Sound.sml (Entered.of Try.func52 rfl rfl) 1 b rfl fun hb => (er_Mul a b ha hb).rounds.elim fun k h => ref_Mul.snd k a b _ _ h
theorem ref_Gcd.c (a b : List Int) : Sound Try.prog 49 [N a, N b] (.tup [N (gcdS a b).1, I (gcdS a b).2]) := Sound.sml (Entered.of Try.func49 rfl rfl) 0 a rfl fun ha => Sound.sml (Entered.of Try.func49 rfl rfl) 1 b rfl fun hb => (er_Gcd a b ha hb).rounds.elim fun k h => ref_Gcd.snd k a b _ _ h
theorem ref_DivMod.c (a b : List Int) : Sound Try.prog 76 [N a, N b] (.tup [N (divS a b).1, N (divS a b).2.1, I (divS a b).2.2]) := Sound.sml (Entered.of Try.func76 rfl rfl) 0 a rfl fun ha => Sound.sml (Entered.of Try.func76 rfl rfl) 1 b rfl fun hb => (er_DivMod a b ha hb).rounds.elim fun k h => ref_DivMod.snd k a b _ _ _ h
theorem ref_Cmp.c (a b : List Int) : Sound Try.prog 53 [N a, N b] (.tup [I (ncmpS a b).1, I (ncmpS a b).2]) := Sound.sml (Entered.of Try.func53 rfl rfl) 0 a rfl fun ha => Sound.sml (Entered.of Try.func53 rfl rfl) 1 b rfl fun hb => (er_Cmp a b ha hb).rounds.elim fun k h => ref_Cmp.snd k a b _ _ h
theorem ref_Of.c (n : Int) (hn : n ≤ 9223372036854775807) : Sound Try.prog 80 [I n] (.tup [N (ofS n).1, I (ofS n).2]) := (er_Of n hn).rounds.elim fun k h => ref_Of.snd k n _ _ h
theorem ref_Same.c (a b : List Int) : Sound Try.prog 55 [N a, N b] (B (decide (a = b))) := Sound.sml (Entered.of Try.func55 rfl rfl) 0 a rfl fun ha => (er_Same a b ha).rounds.elim fun k h => ref_Same.snd k a b _ h
theorem limbs.c (a b : List Int) : Sound Try.prog 50 [N a, N b] (B (decide (a = b))) := Sound.sml (Entered.of Try.func50 rfl rfl) 0 a rfl fun ha => (er_limbs a b ha).rounds.elim fun k h => limbs.snd k a b _ h
end Go.Proofs.Ytiondkijgpjgcaa.Pw
namespace Go.Proofs.Ytiondkijgpjgcaa.Pw
open Go Wd Px Mat
set_option linter.unusedVariables false
set_option linter.unusedSimpArgs false
set_option maxRecDepth 100000
set_option maxHeartbeats 8000000
attribute [local irreducible] Int.tmod Int.tdiv
def refInt_l0 : Nat → List Int → Int → Int → Option (Int × Int)
  | 0, _, _, _ => none
  | k + 1, a, n, i => if i ≥ 0 then (if n > 1125899 then some (0, 2) else (if 0 ≤ i then (if i < (a.length : Int) then refInt_l0 k a (wrap64 ((wrap64 (n * 1000000000)) + (rd a i))) (wrap64 (i - 1)) else none) else none)) else (if n > 1125899906842624 then some (0, 2) else some (n, 0))
def intS (a : List Int) : Int × Int := if okN a = true then (if 1125899906842624 < val a then (0, 2) else (val a, 0)) else (0, 3)
theorem ev_refInt (a : List Int) (ha : Ok a) : ∀ (d : Nat), d ≤ a.length → val (a.drop d) ≤ 1125899906842624 ∨ val (a.drop d) ≤ 1125900000000000000 → Ev (fun k => refInt_l0 k a (val (a.drop d)) ((d : Int) - 1)) (if 1125899906842624 < val a then (0, 2) else (val a, 0)) := by
  intro d
  induction d with
  | zero =>
    intro hd hb
    refine Ev.step (f := fun _ => some _) (fun k => ?_) (Ev.now _)
    simp only [refInt_l0]
    rw [if_neg (by omega), List.drop_zero]
    split <;> rfl
  | succ d ih =>
    intro hd hb
    have e1 : (((d + 1 : Nat) : Int) - 1) = d := by omega
    have hda := val_drop (l := a) (i := (d : Int)) (by omega) (by omega)
    have ed : ((d : Int)).toNat = d := by omega
    rw [ed] at hda
    have h1 := val_nonneg (ha.2.1.drop (d + 1))
    have hr := ha.2.1.rd d
    have hl := ha.1
    by_cases hn : val (a.drop (d + 1)) > 1125899
    · have hs := val_split a (d + 1) (by omega)
      have h0 := val_nonneg (ha.2.1.take (d + 1))
      have hp : (1000000000 : Int) ≤ pw (d + 1) := by have := pw_le (m := 1) (n := d + 1) (by omega); rwa [pw_one] at this
      have hm : 1000000000 * 1125900 ≤ pw (d + 1) * val (a.drop (d + 1)) := Int.mul_le_mul hp (by omega) (by omega) (by omega)
      refine Ev.step (f := fun _ => some _) (fun k => ?_) (Ev.now _)
      simp only [refInt_l0]
      rw [e1, if_pos (by omega), if_pos hn, if_pos (by omega)]
    · refine Ev.step (fun k => ?_) (ih (by omega) (.inr (by omega)))
      simp only [refInt_l0]
      rw [e1, if_pos (by omega), if_neg hn, if_pos (by omega), if_pos (by omega), w64 (x := val (a.drop (d + 1)) * 1000000000) (by omega) (by omega), w64 (by omega) (by omega), w64 (x := (d : Int) - 1) (by omega) (by omega), hda]
      congr 1; omega
end Go.Proofs.Ytiondkijgpjgcaa.Pw
namespace Go.Proofs.Ytiondkijgpjgcaa.Pw
open Go Wd Px Mat
set_option linter.unusedVariables false
set_option linter.unusedSimpArgs false
set_option maxRecDepth 100000
set_option maxHeartbeats 8000000
attribute [local irreducible] Int.tmod Int.tdiv
theorem nat_small.c (a : List Int) (ha : Dig a) (hl : a.length ≤ 2) : Sound Try.prog 86 [N a] (I (val a)) := (ev_small a ha hl).rounds.elim fun k h => nat_small.snd k a _ h
end Go.Proofs.Ytiondkijgpjgcaa.Pw
