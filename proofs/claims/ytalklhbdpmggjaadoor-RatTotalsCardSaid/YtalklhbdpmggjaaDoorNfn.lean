/- The functions of the program as functions of values, part 14: a proof's lemmas, with no condition of their own. -/
import Derived.Test.YtalklhbdpmggjaaDoorNfi
set_option linter.unusedVariables false
set_option linter.unusedSimpArgs false
namespace Go.Proofs.YtalklhbdpmggjaaDoor.Px
open Mat Wd
theorem whole_in {x : Rt} {c : Bool} {n : Int} (h : wholeS x c = (n, 0)) : rvB x = true ∧ -1125899906842624 ≤ n ∧ n ≤ 1125899906842624 := by
  unfold wholeS at h
  by_cases hx : rvB x = true
  · rw [if_pos hx] at h
    have hq := (rv_facts hx).1
    have h0 := Int.ediv_nonneg (rv_facts hx).2.1 (Int.le_of_lt hq)
    rw [show dd x = val x.q from rfl] at h0
    generalize val x.p / val x.q = q at *
    refine ⟨hx, ?_⟩
    split at h
    · injection h with _ h; cases h
    · split at h
      · split at h
        · injection h with _ h; cases h
        · injection h with h _; split at h <;> omega
      · injection h with h _; split at h <;> omega
  · rw [if_neg hx] at h; injection h with _ h; cases h
/-- The lower and the upper integer part. -/
theorem floor_val {x : Rt} {n : Int} (h : wholeS x x.neg = (n, 0)) : n * dd x ≤ nn x := by
  have hx := (whole_in h).1
  unfold wholeS at h
  rw [if_pos hx] at h
  have hq := (rv_facts hx).1
  have e := Int.mul_ediv_add_emod (val x.p) (val x.q)
  have r0 := Int.emod_nonneg (val x.p) (show val x.q ≠ 0 by unfold dd at hq; omega)
  have r1 := Int.emod_lt_of_pos (val x.p) hq
  unfold nn
  unfold dd at *
  generalize val x.p / val x.q = q at *
  generalize val x.p % val x.q = r at *
  generalize val x.q = d at *
  generalize val x.p = p at *
  rw [Int.mul_comm] at e
  split at h
  · injection h with _ h; cases h
  · cases hn : x.neg <;> rw [hn] at h <;> simp only [true_and, false_and, if_false, if_true, Bool.false_eq_true, reduceIte] at h ⊢
    · injection h with h _; subst h; omega
    · split at h
      · split at h
        · injection h with _ h; cases h
        · injection h with h _; subst h; rw [Int.neg_mul, Int.add_mul]; omega
      · injection h with h _; subst h; rw [Int.neg_mul]; omega
theorem ceil_val {x : Rt} {n : Int} (h : wholeS x (!x.neg) = (n, 0)) : nn x ≤ n * dd x := by
  have hx := (whole_in h).1
  unfold wholeS at h
  rw [if_pos hx] at h
  have hq := (rv_facts hx).1
  have e := Int.mul_ediv_add_emod (val x.p) (val x.q)
  have r0 := Int.emod_nonneg (val x.p) (show val x.q ≠ 0 by unfold dd at hq; omega)
  have r1 := Int.emod_lt_of_pos (val x.p) hq
  unfold nn
  unfold dd at *
  generalize val x.p / val x.q = q at *
  generalize val x.p % val x.q = r at *
  generalize val x.q = d at *
  generalize val x.p = p at *
  rw [Int.mul_comm] at e
  split at h
  · injection h with _ h; cases h
  · cases hn : x.neg <;> rw [hn] at h <;> simp only [Bool.not_false, Bool.not_true, true_and, false_and, if_false, if_true, Bool.false_eq_true, reduceIte] at h ⊢
    · split at h
      · split at h
        · injection h with _ h; cases h
        · injection h with h _; subst h; rw [Int.add_mul]; omega
      · injection h with h _; subst h; omega
    · injection h with h _; subst h; rw [Int.neg_mul]; omega
/-- They are the same at an integer, else one apart. -/
theorem floor_ceil {x : Rt} {m n : Int} (h1 : wholeS x x.neg = (m, 0)) (h2 : wholeS x (!x.neg) = (n, 0)) : (x.q = [1] → m = n) ∧ (x.q ≠ [1] → n - m = 1) := by
  have hx := (whole_in h1).1
  unfold wholeS at h1 h2
  rw [if_pos hx] at h1 h2
  obtain ⟨hq, hp, _, hg, _, hd⟩ := rv_facts hx
  have hr : x.q ≠ [1] → val x.p % val x.q ≠ 0 := fun hne h0 => by
    have e : gcdI (val x.p) (val x.q) = val x.q := by
      rw [gcdI_step hp (show 0 < val x.q from hq)]
      rw [h0]
      exact gcdI_zero (show 0 ≤ val x.q from Int.le_of_lt hq)
    rw [hg] at e
    exact hne (by rw [← hd, ← e]; exact (dg_one_iff (by decide)).2 rfl)
  have hr1 : x.q = [1] → val x.p % val x.q = 0 := fun h => by rw [h, show val [1] = 1 by decide, Int.emod_one]
  generalize val x.p / val x.q = q at *
  generalize val x.p % val x.q = r at *
  split at h1
  · injection h1 with _ h; cases h
  · rename_i hb
    rw [if_neg hb] at h2
    refine ⟨fun e => ?_, fun e => ?_⟩
    · have r0 := hr1 e
      rw [if_neg (fun h => h.2 r0)] at h1 h2
      injection h1 with h1 _; injection h2 with h2 _
      omega
    · have r0 := hr e
      cases hn : x.neg <;> rw [hn] at h1 h2 <;> simp only [Bool.not_false, Bool.not_true, true_and, false_and, if_false, if_true, Bool.false_eq_true, reduceIte, ne_eq, r0, not_false_eq_true] at h1 h2
      · split at h2
        · injection h2 with _ h; cases h
        · injection h1 with h1 _; injection h2 with h2 _; omega
      · split at h1
        · injection h1 with _ h; cases h
        · injection h1 with h1 _; injection h2 with h2 _; omega
theorem of_val {n : Int} (h : inR n = true) : ∃ z, makeS n 1 = (z, 0) ∧ rvB z = true ∧ nn z = n * dd z := by
  obtain ⟨z, e, hm⟩ : ∃ z e, makeS n 1 = (z, e) := ⟨_, _, rfl⟩
  obtain ⟨h1, h2, h3⟩ := makeS_ok h (by decide) (by decide) hm
  subst h1
  exact ⟨z, hm, h2, by rw [Int.mul_one] at h3; exact h3⟩
theorem floor_cmp {x z : Rt} {n p : Int} (h : wholeS x x.neg = (n, 0)) (hz : makeS n 1 = (z, 0)) (hc : cmpR z x = (p, 0)) : p ≤ 0 := by
  obtain ⟨_, n0, n1⟩ := whole_in h
  obtain ⟨y, hy, vy, ey⟩ := of_val (n := n) (by simp [inR]; omega)
  rw [hz] at hy; injection hy with hy _; subst hy
  obtain ⟨_, hx, e⟩ := cmp_val hc
  have hf := floor_val h
  have hd := (rv_facts vy).1
  have k := Int.mul_le_mul_of_nonneg_right hf (Int.le_of_lt hd)
  rw [e]
  unfold cmpS
  split
  · decide
  · rw [if_neg]
    · decide
    · rw [ey, show n * dd z * dd x = n * dd x * dd z by rw [Int.mul_assoc, Int.mul_comm (dd z), ← Int.mul_assoc]]; omega
theorem ceil_cmp {x z : Rt} {n p : Int} (h : wholeS x (!x.neg) = (n, 0)) (hz : makeS n 1 = (z, 0)) (hc : cmpR z x = (p, 0)) : 0 ≤ p := by
  obtain ⟨_, n0, n1⟩ := whole_in h
  obtain ⟨y, hy, vy, ey⟩ := of_val (n := n) (by simp [inR]; omega)
  rw [hz] at hy; injection hy with hy _; subst hy
  obtain ⟨_, hx, e⟩ := cmp_val hc
  have hf := ceil_val h
  have hd := (rv_facts vy).1
  have k := Int.mul_le_mul_of_nonneg_right hf (Int.le_of_lt hd)
  rw [e]
  unfold cmpS
  rw [if_neg]
  · split <;> decide
  · rw [ey, show n * dd z * dd x = n * dd x * dd z by rw [Int.mul_assoc, Int.mul_comm (dd z), ← Int.mul_assoc]]; omega
end Go.Proofs.YtalklhbdpmggjaaDoor.Px
