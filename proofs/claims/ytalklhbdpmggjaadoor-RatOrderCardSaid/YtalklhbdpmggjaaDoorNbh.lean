/- The functions of the program as functions of values, part 8: a proof's lemmas, with no condition of their own. -/
import Derived.Test.YtalklhbdpmggjaaDoorNba
import Derived.Test.YtalklhbdpmggjaaDoorNbb
import Derived.Test.YtalklhbdpmggjaaDoorNbc
import Derived.Test.YtalklhbdpmggjaaDoorNbd
import Derived.Test.YtalklhbdpmggjaaDoorNbe
import Derived.Test.YtalklhbdpmggjaaDoorNbf
set_option linter.unusedVariables false
set_option linter.unusedSimpArgs false
namespace Go.Proofs.YtalklhbdpmggjaaDoor.Pw
open Go Wd Px Mat
set_option linter.unusedVariables false
set_option linter.unusedSimpArgs false
set_option maxRecDepth 100000
set_option maxHeartbeats 8000000
attribute [local irreducible] Int.tmod Int.tdiv
theorem sign.c (d : Rt) : Sound Tryd.prog 67 [R d] (I (sgnR d)) := by
  obtain ⟨n, p, q⟩ := d
  unfold sgnR
  cases p with
  | nil => exact runO tok mixed [] 300 6 Obs.nil (by kernel_rfl)
  | cons x p =>
    rw [if_neg (by simp)]
    cases n <;> exact runO tok mixed [] 300 6 Obs.nil (by kernel_rfl)
theorem cmpR_cases (x y : Rt) : (cmpR x y).1 = -1 ∨ (cmpR x y).1 = 0 ∨ (cmpR x y).1 = 1 := by
  unfold cmpR scmp
  have := cmpS_cases (val x.p * val y.q) (val y.p * val x.q)
  generalize cmpS (val x.p * val y.q) (val y.p * val x.q) = c at *
  split
  · split
    · split
      · simp
      · split
        · simp
        · split <;> omega
    · simp
  · simp
theorem RatOrder_00 (a b : Rt) (ze : ¬ (cmpR a b).2 = 0) (zh : ¬ (wholeS a a.neg).2 = 0) : Sound Tryd.prog 15 [R a, R b] (B true) := by
  have c1 := rat_Cmp.c a b
  have c2 := rat_Cmp.c b a
  rw [cmp_swap a b] at c2
  have c3 := rat_Sub.c a b
  have m3 := cmpR_cases a b
  have c4 := rat_Floor.c a
  have c5 := rat_Ceil.c a
  have c6 := rat_Of.c (wholeS a a.neg).1
  have c7 := rat_Of.c (wholeS a (!a.neg)).1
  have c8 := rat_Cmp.c (makeS (wholeS a a.neg).1 1).1 a
  have c9 := rat_Cmp.c (makeS (wholeS a (!a.neg)).1 1).1 a
  have f1 := fun m d => cmp_sub (x := a) (y := b) (m := m) (d := d)
  have sg := sign.c (subR a b).1
  have f2 := fun n => whole_in (x := a) (c := a.neg) (n := n)
  have f3 := fun n => whole_in (x := a) (c := !a.neg) (n := n)
  have f4 := fun m n => floor_ceil (x := a) (m := m) (n := n)
  have f5 := fun z n p => floor_cmp (x := a) (z := z) (n := n) (p := p)
  have f6 := fun z n p => ceil_cmp (x := a) (z := z) (n := n) (p := p)
  generalize e1 : cmpR a b = C at *
  generalize e3 : subR a b = D at *
  generalize e4 : wholeS a a.neg = L at *
  generalize e5 : wholeS a (!a.neg) = H at *
  obtain ⟨m, e⟩ := C
  obtain ⟨d, g⟩ := D
  obtain ⟨lo, h⟩ := L
  obtain ⟨hi, i⟩ := H
  dsimp only at *
  generalize e6 : makeS lo 1 = X at *
  generalize e7 : makeS hi 1 = Y at *
  obtain ⟨x, ex⟩ := X
  obtain ⟨y, ey⟩ := Y
  dsimp only at *
  generalize e8 : cmpR x a = U at *
  generalize e9 : cmpR y a = V at *
  obtain ⟨p, j⟩ := U
  obtain ⟨q, k⟩ := V
  dsimp only at *
  have h1 := neF (rfl : e = e)
  have h2 := neF (show m = IntKind.i64.wrap (0 - -m) by rw [wI (by omega) (by omega)]; omega)
  have o6 : lo = lo → True := fun _ => trivial
  obtain ⟨an, ap, aq⟩ := a
  obtain ⟨bn, bp, bq⟩ := b
  obtain ⟨dn, dp, dq⟩ := d
  obtain ⟨xn, xp, xq⟩ := x
  obtain ⟨yn, yp, yq⟩ := y
  exact runO tok mixed [65, 63, 53, 55, 45, 67, 50] 300 6 (Obs.cons c1 (Obs.cons c2 (Obs.cons c3 (Obs.br 0 h1 (Obs.br 0 h2 (Obs.br 0 (eqF ze) (Obs.cons c4 (Obs.cons c5 (Obs.br 0 (neT zh) (Obs.cons awake03.c Obs.nil)))))))))) (by kernel_rfl)
theorem RatOrder_01 (a b : Rt) (ze : ¬ (cmpR a b).2 = 0) (zh : (wholeS a a.neg).2 = 0) (zi : ¬ (wholeS a (!a.neg)).2 = 0) : Sound Tryd.prog 15 [R a, R b] (B true) := by
  have c1 := rat_Cmp.c a b
  have c2 := rat_Cmp.c b a
  rw [cmp_swap a b] at c2
  have c3 := rat_Sub.c a b
  have m3 := cmpR_cases a b
  have c4 := rat_Floor.c a
  have c5 := rat_Ceil.c a
  have c6 := rat_Of.c (wholeS a a.neg).1
  have c7 := rat_Of.c (wholeS a (!a.neg)).1
  have c8 := rat_Cmp.c (makeS (wholeS a a.neg).1 1).1 a
  have c9 := rat_Cmp.c (makeS (wholeS a (!a.neg)).1 1).1 a
  have f1 := fun m d => cmp_sub (x := a) (y := b) (m := m) (d := d)
  have sg := sign.c (subR a b).1
  have f2 := fun n => whole_in (x := a) (c := a.neg) (n := n)
  have f3 := fun n => whole_in (x := a) (c := !a.neg) (n := n)
  have f4 := fun m n => floor_ceil (x := a) (m := m) (n := n)
  have f5 := fun z n p => floor_cmp (x := a) (z := z) (n := n) (p := p)
  have f6 := fun z n p => ceil_cmp (x := a) (z := z) (n := n) (p := p)
  generalize e1 : cmpR a b = C at *
  generalize e3 : subR a b = D at *
  generalize e4 : wholeS a a.neg = L at *
  generalize e5 : wholeS a (!a.neg) = H at *
  obtain ⟨m, e⟩ := C
  obtain ⟨d, g⟩ := D
  obtain ⟨lo, h⟩ := L
  obtain ⟨hi, i⟩ := H
  dsimp only at *
  generalize e6 : makeS lo 1 = X at *
  generalize e7 : makeS hi 1 = Y at *
  obtain ⟨x, ex⟩ := X
  obtain ⟨y, ey⟩ := Y
  dsimp only at *
  generalize e8 : cmpR x a = U at *
  generalize e9 : cmpR y a = V at *
  obtain ⟨p, j⟩ := U
  obtain ⟨q, k⟩ := V
  dsimp only at *
  have h1 := neF (rfl : e = e)
  have h2 := neF (show m = IntKind.i64.wrap (0 - -m) by rw [wI (by omega) (by omega)]; omega)
  have o6 : lo = lo → True := fun _ => trivial
  obtain ⟨an, ap, aq⟩ := a
  obtain ⟨bn, bp, bq⟩ := b
  obtain ⟨dn, dp, dq⟩ := d
  obtain ⟨xn, xp, xq⟩ := x
  obtain ⟨yn, yp, yq⟩ := y
  exact runO tok mixed [65, 63, 53, 55, 45, 67, 50] 300 6 (Obs.cons c1 (Obs.cons c2 (Obs.cons c3 (Obs.br 0 h1 (Obs.br 0 h2 (Obs.br 0 (eqF ze) (Obs.cons c4 (Obs.cons c5 (Obs.br 0 (neF zh) (Obs.br 0 (neT zi) (Obs.cons awake03.c Obs.nil))))))))))) (by kernel_rfl)
theorem RatOrder_02 (a b : Rt) (ze : ¬ (cmpR a b).2 = 0) (zh : (wholeS a a.neg).2 = 0) (zi : (wholeS a (!a.neg)).2 = 0) : Sound Tryd.prog 15 [R a, R b] (B true) := by
  have c1 := rat_Cmp.c a b
  have c2 := rat_Cmp.c b a
  rw [cmp_swap a b] at c2
  have c3 := rat_Sub.c a b
  have m3 := cmpR_cases a b
  have c4 := rat_Floor.c a
  have c5 := rat_Ceil.c a
  have c6 := rat_Of.c (wholeS a a.neg).1
  have c7 := rat_Of.c (wholeS a (!a.neg)).1
  have c8 := rat_Cmp.c (makeS (wholeS a a.neg).1 1).1 a
  have c9 := rat_Cmp.c (makeS (wholeS a (!a.neg)).1 1).1 a
  have f1 := fun m d => cmp_sub (x := a) (y := b) (m := m) (d := d)
  have sg := sign.c (subR a b).1
  have f2 := fun n => whole_in (x := a) (c := a.neg) (n := n)
  have f3 := fun n => whole_in (x := a) (c := !a.neg) (n := n)
  have f4 := fun m n => floor_ceil (x := a) (m := m) (n := n)
  have f5 := fun z n p => floor_cmp (x := a) (z := z) (n := n) (p := p)
  have f6 := fun z n p => ceil_cmp (x := a) (z := z) (n := n) (p := p)
  generalize e1 : cmpR a b = C at *
  generalize e3 : subR a b = D at *
  generalize e4 : wholeS a a.neg = L at *
  generalize e5 : wholeS a (!a.neg) = H at *
  obtain ⟨m, e⟩ := C
  obtain ⟨d, g⟩ := D
  obtain ⟨lo, h⟩ := L
  obtain ⟨hi, i⟩ := H
  dsimp only at *
  generalize e6 : makeS lo 1 = X at *
  generalize e7 : makeS hi 1 = Y at *
  obtain ⟨x, ex⟩ := X
  obtain ⟨y, ey⟩ := Y
  dsimp only at *
  generalize e8 : cmpR x a = U at *
  generalize e9 : cmpR y a = V at *
  obtain ⟨p, j⟩ := U
  obtain ⟨q, k⟩ := V
  dsimp only at *
  have h1 := neF (rfl : e = e)
  have h2 := neF (show m = IntKind.i64.wrap (0 - -m) by rw [wI (by omega) (by omega)]; omega)
  have o6 : lo = lo → True := fun _ => trivial
  obtain ⟨_, l0, l1⟩ := f2 lo (Prod.ext rfl zh)
  obtain ⟨_, k0, k1⟩ := f3 hi (Prod.ext rfl zi)
  obtain ⟨g1, g2⟩ := f4 lo hi (Prod.ext rfl zh) (Prod.ext rfl zi)
  have tx : ex = 0 := by obtain ⟨z, hz, _⟩ := of_val (n := lo) (by simp [inR]; omega); rw [e6] at hz; injection hz
  have ty : ey = 0 := by obtain ⟨z, hz, _⟩ := of_val (n := hi) (by simp [inR]; omega); rw [e7] at hz; injection hz
  have g5 := f5 x lo p (Prod.ext rfl zh) (e6.trans (Prod.ext rfl tx))
  have g6 := f6 y hi q (Prod.ext rfl zi) (e7.trans (Prod.ext rfl ty))
  have wd := wI (n := hi - lo) (by omega) (by omega)
  obtain ⟨an, ap, aq⟩ := a
  obtain ⟨bn, bp, bq⟩ := b
  obtain ⟨dn, dp, dq⟩ := d
  obtain ⟨xn, xp, xq⟩ := x
  obtain ⟨yn, yp, yq⟩ := y
  by_cases zj : j = 0
  rotate_left
  · skip
    by_cases zk : k = 0
    rotate_left
    · skip
      cases aq with
      | nil =>
        have w : IntKind.i64.wrap (hi - lo) = 1 := by rw [wd]; exact g2 (by simp)
        exact runO tok mixed [65, 63, 53, 55, 45, 67, 50] 300 6 (Obs.cons c1 (Obs.cons c2 (Obs.cons c3 (Obs.br 0 h1 (Obs.br 0 h2 (Obs.br 0 (eqF ze) (Obs.cons c4 (Obs.cons c5 (Obs.br 0 (neF zh) (Obs.br 0 (neF zi) (Obs.cons c6 (Obs.cons c7 (Obs.cons c8 (Obs.cons c9 (Obs.br 0 (eqF zj) (Obs.br 0 (eqF zk) (Obs.val 0 w (Obs.cons awake03.c Obs.nil)))))))))))))))))) (by kernel_rfl)
      | cons t aq =>
        cases aq with
        | nil =>
          by_cases ht : t = 1
          · subst ht
            have w := eqT (g1 rfl)
            exact runO tok mixed [65, 63, 53, 55, 45, 67, 50] 300 6 (Obs.cons c1 (Obs.cons c2 (Obs.cons c3 (Obs.br 0 h1 (Obs.br 0 h2 (Obs.br 0 (eqF ze) (Obs.cons c4 (Obs.cons c5 (Obs.br 0 (neF zh) (Obs.br 0 (neF zi) (Obs.cons c6 (Obs.cons c7 (Obs.cons c8 (Obs.cons c9 (Obs.br 0 (eqF zj) (Obs.br 0 (eqF zk) (Obs.br 2 w (Obs.cons awake03.c Obs.nil)))))))))))))))))) (by kernel_rfl)
          · have w : IntKind.i64.wrap (hi - lo) = 1 := by rw [wd]; exact g2 (by simpa using ht)
            exact runO tok mixed [65, 63, 53, 55, 45, 67, 50] 300 6 (Obs.cons c1 (Obs.cons c2 (Obs.cons c3 (Obs.br 0 h1 (Obs.br 0 h2 (Obs.br 0 (eqF ze) (Obs.cons c4 (Obs.cons c5 (Obs.br 0 (neF zh) (Obs.br 0 (neF zi) (Obs.cons c6 (Obs.cons c7 (Obs.cons c8 (Obs.cons c9 (Obs.br 0 (eqF zj) (Obs.br 0 (eqF zk) (Obs.br 1 (eqF ht) (Obs.val 0 w (Obs.cons awake03.c Obs.nil))))))))))))))))))) (by kernel_rfl)
        | cons t2 aq =>
          have w : IntKind.i64.wrap (hi - lo) = 1 := by rw [wd]; exact g2 (by simp)
          exact runO tok mixed [65, 63, 53, 55, 45, 67, 50] 300 6 (Obs.cons c1 (Obs.cons c2 (Obs.cons c3 (Obs.br 0 h1 (Obs.br 0 h2 (Obs.br 0 (eqF ze) (Obs.cons c4 (Obs.cons c5 (Obs.br 0 (neF zh) (Obs.br 0 (neF zi) (Obs.cons c6 (Obs.cons c7 (Obs.cons c8 (Obs.cons c9 (Obs.br 0 (eqF zj) (Obs.br 0 (eqF zk) (Obs.val 0 w (Obs.cons awake03.c Obs.nil)))))))))))))))))) (by kernel_rfl)
    · have q0 := ltF (show ¬ q < 0 by have := g6 (e9.trans (Prod.ext rfl zk)); omega)
      cases aq with
      | nil =>
        have w : IntKind.i64.wrap (hi - lo) = 1 := by rw [wd]; exact g2 (by simp)
        exact runO tok mixed [65, 63, 53, 55, 45, 67, 50] 300 6 (Obs.cons c1 (Obs.cons c2 (Obs.cons c3 (Obs.br 0 h1 (Obs.br 0 h2 (Obs.br 0 (eqF ze) (Obs.cons c4 (Obs.cons c5 (Obs.br 0 (neF zh) (Obs.br 0 (neF zi) (Obs.cons c6 (Obs.cons c7 (Obs.cons c8 (Obs.cons c9 (Obs.br 0 (eqF zj) (Obs.br 0 (eqT zk) (Obs.br 0 q0 (Obs.val 0 w (Obs.cons awake03.c Obs.nil))))))))))))))))))) (by kernel_rfl)
      | cons t aq =>
        cases aq with
        | nil =>
          by_cases ht : t = 1
          · subst ht
            have w := eqT (g1 rfl)
            exact runO tok mixed [65, 63, 53, 55, 45, 67, 50] 300 6 (Obs.cons c1 (Obs.cons c2 (Obs.cons c3 (Obs.br 0 h1 (Obs.br 0 h2 (Obs.br 0 (eqF ze) (Obs.cons c4 (Obs.cons c5 (Obs.br 0 (neF zh) (Obs.br 0 (neF zi) (Obs.cons c6 (Obs.cons c7 (Obs.cons c8 (Obs.cons c9 (Obs.br 0 (eqF zj) (Obs.br 0 (eqT zk) (Obs.br 0 q0 (Obs.br 2 w (Obs.cons awake03.c Obs.nil))))))))))))))))))) (by kernel_rfl)
          · have w : IntKind.i64.wrap (hi - lo) = 1 := by rw [wd]; exact g2 (by simpa using ht)
            exact runO tok mixed [65, 63, 53, 55, 45, 67, 50] 300 6 (Obs.cons c1 (Obs.cons c2 (Obs.cons c3 (Obs.br 0 h1 (Obs.br 0 h2 (Obs.br 0 (eqF ze) (Obs.cons c4 (Obs.cons c5 (Obs.br 0 (neF zh) (Obs.br 0 (neF zi) (Obs.cons c6 (Obs.cons c7 (Obs.cons c8 (Obs.cons c9 (Obs.br 0 (eqF zj) (Obs.br 0 (eqT zk) (Obs.br 0 q0 (Obs.br 1 (eqF ht) (Obs.val 0 w (Obs.cons awake03.c Obs.nil)))))))))))))))))))) (by kernel_rfl)
        | cons t2 aq =>
          have w : IntKind.i64.wrap (hi - lo) = 1 := by rw [wd]; exact g2 (by simp)
          exact runO tok mixed [65, 63, 53, 55, 45, 67, 50] 300 6 (Obs.cons c1 (Obs.cons c2 (Obs.cons c3 (Obs.br 0 h1 (Obs.br 0 h2 (Obs.br 0 (eqF ze) (Obs.cons c4 (Obs.cons c5 (Obs.br 0 (neF zh) (Obs.br 0 (neF zi) (Obs.cons c6 (Obs.cons c7 (Obs.cons c8 (Obs.cons c9 (Obs.br 0 (eqF zj) (Obs.br 0 (eqT zk) (Obs.br 0 q0 (Obs.val 0 w (Obs.cons awake03.c Obs.nil))))))))))))))))))) (by kernel_rfl)
  · have p0 := ltF (show ¬ (0 : Int) < p by have := g5 (e8.trans (Prod.ext rfl zj)); omega)
    by_cases zk : k = 0
    rotate_left
    · skip
      cases aq with
      | nil =>
        have w : IntKind.i64.wrap (hi - lo) = 1 := by rw [wd]; exact g2 (by simp)
        exact runO tok mixed [65, 63, 53, 55, 45, 67, 50] 300 6 (Obs.cons c1 (Obs.cons c2 (Obs.cons c3 (Obs.br 0 h1 (Obs.br 0 h2 (Obs.br 0 (eqF ze) (Obs.cons c4 (Obs.cons c5 (Obs.br 0 (neF zh) (Obs.br 0 (neF zi) (Obs.cons c6 (Obs.cons c7 (Obs.cons c8 (Obs.cons c9 (Obs.br 0 (eqT zj) (Obs.br 0 p0 (Obs.br 0 (eqF zk) (Obs.val 0 w (Obs.cons awake03.c Obs.nil))))))))))))))))))) (by kernel_rfl)
      | cons t aq =>
        cases aq with
        | nil =>
          by_cases ht : t = 1
          · subst ht
            have w := eqT (g1 rfl)
            exact runO tok mixed [65, 63, 53, 55, 45, 67, 50] 300 6 (Obs.cons c1 (Obs.cons c2 (Obs.cons c3 (Obs.br 0 h1 (Obs.br 0 h2 (Obs.br 0 (eqF ze) (Obs.cons c4 (Obs.cons c5 (Obs.br 0 (neF zh) (Obs.br 0 (neF zi) (Obs.cons c6 (Obs.cons c7 (Obs.cons c8 (Obs.cons c9 (Obs.br 0 (eqT zj) (Obs.br 0 p0 (Obs.br 0 (eqF zk) (Obs.br 2 w (Obs.cons awake03.c Obs.nil))))))))))))))))))) (by kernel_rfl)
          · have w : IntKind.i64.wrap (hi - lo) = 1 := by rw [wd]; exact g2 (by simpa using ht)
            exact runO tok mixed [65, 63, 53, 55, 45, 67, 50] 300 6 (Obs.cons c1 (Obs.cons c2 (Obs.cons c3 (Obs.br 0 h1 (Obs.br 0 h2 (Obs.br 0 (eqF ze) (Obs.cons c4 (Obs.cons c5 (Obs.br 0 (neF zh) (Obs.br 0 (neF zi) (Obs.cons c6 (Obs.cons c7 (Obs.cons c8 (Obs.cons c9 (Obs.br 0 (eqT zj) (Obs.br 0 p0 (Obs.br 0 (eqF zk) (Obs.br 1 (eqF ht) (Obs.val 0 w (Obs.cons awake03.c Obs.nil)))))))))))))))))))) (by kernel_rfl)
        | cons t2 aq =>
          have w : IntKind.i64.wrap (hi - lo) = 1 := by rw [wd]; exact g2 (by simp)
          exact runO tok mixed [65, 63, 53, 55, 45, 67, 50] 300 6 (Obs.cons c1 (Obs.cons c2 (Obs.cons c3 (Obs.br 0 h1 (Obs.br 0 h2 (Obs.br 0 (eqF ze) (Obs.cons c4 (Obs.cons c5 (Obs.br 0 (neF zh) (Obs.br 0 (neF zi) (Obs.cons c6 (Obs.cons c7 (Obs.cons c8 (Obs.cons c9 (Obs.br 0 (eqT zj) (Obs.br 0 p0 (Obs.br 0 (eqF zk) (Obs.val 0 w (Obs.cons awake03.c Obs.nil))))))))))))))))))) (by kernel_rfl)
    · have q0 := ltF (show ¬ q < 0 by have := g6 (e9.trans (Prod.ext rfl zk)); omega)
      cases aq with
      | nil =>
        have w : IntKind.i64.wrap (hi - lo) = 1 := by rw [wd]; exact g2 (by simp)
        exact runO tok mixed [65, 63, 53, 55, 45, 67, 50] 300 6 (Obs.cons c1 (Obs.cons c2 (Obs.cons c3 (Obs.br 0 h1 (Obs.br 0 h2 (Obs.br 0 (eqF ze) (Obs.cons c4 (Obs.cons c5 (Obs.br 0 (neF zh) (Obs.br 0 (neF zi) (Obs.cons c6 (Obs.cons c7 (Obs.cons c8 (Obs.cons c9 (Obs.br 0 (eqT zj) (Obs.br 0 p0 (Obs.br 0 (eqT zk) (Obs.br 0 q0 (Obs.val 0 w (Obs.cons awake03.c Obs.nil)))))))))))))))))))) (by kernel_rfl)
      | cons t aq =>
        cases aq with
        | nil =>
          by_cases ht : t = 1
          · subst ht
            have w := eqT (g1 rfl)
            exact runO tok mixed [65, 63, 53, 55, 45, 67, 50] 300 6 (Obs.cons c1 (Obs.cons c2 (Obs.cons c3 (Obs.br 0 h1 (Obs.br 0 h2 (Obs.br 0 (eqF ze) (Obs.cons c4 (Obs.cons c5 (Obs.br 0 (neF zh) (Obs.br 0 (neF zi) (Obs.cons c6 (Obs.cons c7 (Obs.cons c8 (Obs.cons c9 (Obs.br 0 (eqT zj) (Obs.br 0 p0 (Obs.br 0 (eqT zk) (Obs.br 0 q0 (Obs.br 2 w (Obs.cons awake03.c Obs.nil)))))))))))))))))))) (by kernel_rfl)
          · have w : IntKind.i64.wrap (hi - lo) = 1 := by rw [wd]; exact g2 (by simpa using ht)
            exact runO tok mixed [65, 63, 53, 55, 45, 67, 50] 300 6 (Obs.cons c1 (Obs.cons c2 (Obs.cons c3 (Obs.br 0 h1 (Obs.br 0 h2 (Obs.br 0 (eqF ze) (Obs.cons c4 (Obs.cons c5 (Obs.br 0 (neF zh) (Obs.br 0 (neF zi) (Obs.cons c6 (Obs.cons c7 (Obs.cons c8 (Obs.cons c9 (Obs.br 0 (eqT zj) (Obs.br 0 p0 (Obs.br 0 (eqT zk) (Obs.br 0 q0 (Obs.br 1 (eqF ht) (Obs.val 0 w (Obs.cons awake03.c Obs.nil))))))))))))))))))))) (by kernel_rfl)
        | cons t2 aq =>
          have w : IntKind.i64.wrap (hi - lo) = 1 := by rw [wd]; exact g2 (by simp)
          exact runO tok mixed [65, 63, 53, 55, 45, 67, 50] 300 6 (Obs.cons c1 (Obs.cons c2 (Obs.cons c3 (Obs.br 0 h1 (Obs.br 0 h2 (Obs.br 0 (eqF ze) (Obs.cons c4 (Obs.cons c5 (Obs.br 0 (neF zh) (Obs.br 0 (neF zi) (Obs.cons c6 (Obs.cons c7 (Obs.cons c8 (Obs.cons c9 (Obs.br 0 (eqT zj) (Obs.br 0 p0 (Obs.br 0 (eqT zk) (Obs.br 0 q0 (Obs.val 0 w (Obs.cons awake03.c Obs.nil)))))))))))))))))))) (by kernel_rfl)
theorem RatOrder_10 (a b : Rt) (ze : (cmpR a b).2 = 0) (zg : ¬ (subR a b).2 = 0) (zh : ¬ (wholeS a a.neg).2 = 0) : Sound Tryd.prog 15 [R a, R b] (B true) := by
  have c1 := rat_Cmp.c a b
  have c2 := rat_Cmp.c b a
  rw [cmp_swap a b] at c2
  have c3 := rat_Sub.c a b
  have m3 := cmpR_cases a b
  have c4 := rat_Floor.c a
  have c5 := rat_Ceil.c a
  have c6 := rat_Of.c (wholeS a a.neg).1
  have c7 := rat_Of.c (wholeS a (!a.neg)).1
  have c8 := rat_Cmp.c (makeS (wholeS a a.neg).1 1).1 a
  have c9 := rat_Cmp.c (makeS (wholeS a (!a.neg)).1 1).1 a
  have f1 := fun m d => cmp_sub (x := a) (y := b) (m := m) (d := d)
  have sg := sign.c (subR a b).1
  have f2 := fun n => whole_in (x := a) (c := a.neg) (n := n)
  have f3 := fun n => whole_in (x := a) (c := !a.neg) (n := n)
  have f4 := fun m n => floor_ceil (x := a) (m := m) (n := n)
  have f5 := fun z n p => floor_cmp (x := a) (z := z) (n := n) (p := p)
  have f6 := fun z n p => ceil_cmp (x := a) (z := z) (n := n) (p := p)
  generalize e1 : cmpR a b = C at *
  generalize e3 : subR a b = D at *
  generalize e4 : wholeS a a.neg = L at *
  generalize e5 : wholeS a (!a.neg) = H at *
  obtain ⟨m, e⟩ := C
  obtain ⟨d, g⟩ := D
  obtain ⟨lo, h⟩ := L
  obtain ⟨hi, i⟩ := H
  dsimp only at *
  generalize e6 : makeS lo 1 = X at *
  generalize e7 : makeS hi 1 = Y at *
  obtain ⟨x, ex⟩ := X
  obtain ⟨y, ey⟩ := Y
  dsimp only at *
  generalize e8 : cmpR x a = U at *
  generalize e9 : cmpR y a = V at *
  obtain ⟨p, j⟩ := U
  obtain ⟨q, k⟩ := V
  dsimp only at *
  have h1 := neF (rfl : e = e)
  have h2 := neF (show m = IntKind.i64.wrap (0 - -m) by rw [wI (by omega) (by omega)]; omega)
  have o6 : lo = lo → True := fun _ => trivial
  obtain ⟨an, ap, aq⟩ := a
  obtain ⟨bn, bp, bq⟩ := b
  obtain ⟨dn, dp, dq⟩ := d
  obtain ⟨xn, xp, xq⟩ := x
  obtain ⟨yn, yp, yq⟩ := y
  exact runO tok mixed [65, 63, 53, 55, 45, 67, 50] 300 6 (Obs.cons c1 (Obs.cons c2 (Obs.cons c3 (Obs.br 0 h1 (Obs.br 0 h2 (Obs.br 0 (eqT ze) (Obs.br 0 (eqF zg) (Obs.cons c4 (Obs.cons c5 (Obs.br 0 (neT zh) (Obs.cons awake03.c Obs.nil))))))))))) (by kernel_rfl)
theorem RatOrder_11 (a b : Rt) (ze : (cmpR a b).2 = 0) (zg : ¬ (subR a b).2 = 0) (zh : (wholeS a a.neg).2 = 0) (zi : ¬ (wholeS a (!a.neg)).2 = 0) : Sound Tryd.prog 15 [R a, R b] (B true) := by
  have c1 := rat_Cmp.c a b
  have c2 := rat_Cmp.c b a
  rw [cmp_swap a b] at c2
  have c3 := rat_Sub.c a b
  have m3 := cmpR_cases a b
  have c4 := rat_Floor.c a
  have c5 := rat_Ceil.c a
  have c6 := rat_Of.c (wholeS a a.neg).1
  have c7 := rat_Of.c (wholeS a (!a.neg)).1
  have c8 := rat_Cmp.c (makeS (wholeS a a.neg).1 1).1 a
  have c9 := rat_Cmp.c (makeS (wholeS a (!a.neg)).1 1).1 a
  have f1 := fun m d => cmp_sub (x := a) (y := b) (m := m) (d := d)
  have sg := sign.c (subR a b).1
  have f2 := fun n => whole_in (x := a) (c := a.neg) (n := n)
  have f3 := fun n => whole_in (x := a) (c := !a.neg) (n := n)
  have f4 := fun m n => floor_ceil (x := a) (m := m) (n := n)
  have f5 := fun z n p => floor_cmp (x := a) (z := z) (n := n) (p := p)
  have f6 := fun z n p => ceil_cmp (x := a) (z := z) (n := n) (p := p)
  generalize e1 : cmpR a b = C at *
  generalize e3 : subR a b = D at *
  generalize e4 : wholeS a a.neg = L at *
  generalize e5 : wholeS a (!a.neg) = H at *
  obtain ⟨m, e⟩ := C
  obtain ⟨d, g⟩ := D
  obtain ⟨lo, h⟩ := L
  obtain ⟨hi, i⟩ := H
  dsimp only at *
  generalize e6 : makeS lo 1 = X at *
  generalize e7 : makeS hi 1 = Y at *
  obtain ⟨x, ex⟩ := X
  obtain ⟨y, ey⟩ := Y
  dsimp only at *
  generalize e8 : cmpR x a = U at *
  generalize e9 : cmpR y a = V at *
  obtain ⟨p, j⟩ := U
  obtain ⟨q, k⟩ := V
  dsimp only at *
  have h1 := neF (rfl : e = e)
  have h2 := neF (show m = IntKind.i64.wrap (0 - -m) by rw [wI (by omega) (by omega)]; omega)
  have o6 : lo = lo → True := fun _ => trivial
  obtain ⟨an, ap, aq⟩ := a
  obtain ⟨bn, bp, bq⟩ := b
  obtain ⟨dn, dp, dq⟩ := d
  obtain ⟨xn, xp, xq⟩ := x
  obtain ⟨yn, yp, yq⟩ := y
  exact runO tok mixed [65, 63, 53, 55, 45, 67, 50] 300 6 (Obs.cons c1 (Obs.cons c2 (Obs.cons c3 (Obs.br 0 h1 (Obs.br 0 h2 (Obs.br 0 (eqT ze) (Obs.br 0 (eqF zg) (Obs.cons c4 (Obs.cons c5 (Obs.br 0 (neF zh) (Obs.br 0 (neT zi) (Obs.cons awake03.c Obs.nil)))))))))))) (by kernel_rfl)
theorem RatOrder_12 (a b : Rt) (ze : (cmpR a b).2 = 0) (zg : ¬ (subR a b).2 = 0) (zh : (wholeS a a.neg).2 = 0) (zi : (wholeS a (!a.neg)).2 = 0) : Sound Tryd.prog 15 [R a, R b] (B true) := by
  have c1 := rat_Cmp.c a b
  have c2 := rat_Cmp.c b a
  rw [cmp_swap a b] at c2
  have c3 := rat_Sub.c a b
  have m3 := cmpR_cases a b
  have c4 := rat_Floor.c a
  have c5 := rat_Ceil.c a
  have c6 := rat_Of.c (wholeS a a.neg).1
  have c7 := rat_Of.c (wholeS a (!a.neg)).1
  have c8 := rat_Cmp.c (makeS (wholeS a a.neg).1 1).1 a
  have c9 := rat_Cmp.c (makeS (wholeS a (!a.neg)).1 1).1 a
  have f1 := fun m d => cmp_sub (x := a) (y := b) (m := m) (d := d)
  have sg := sign.c (subR a b).1
  have f2 := fun n => whole_in (x := a) (c := a.neg) (n := n)
  have f3 := fun n => whole_in (x := a) (c := !a.neg) (n := n)
  have f4 := fun m n => floor_ceil (x := a) (m := m) (n := n)
  have f5 := fun z n p => floor_cmp (x := a) (z := z) (n := n) (p := p)
  have f6 := fun z n p => ceil_cmp (x := a) (z := z) (n := n) (p := p)
  generalize e1 : cmpR a b = C at *
  generalize e3 : subR a b = D at *
  generalize e4 : wholeS a a.neg = L at *
  generalize e5 : wholeS a (!a.neg) = H at *
  obtain ⟨m, e⟩ := C
  obtain ⟨d, g⟩ := D
  obtain ⟨lo, h⟩ := L
  obtain ⟨hi, i⟩ := H
  dsimp only at *
  generalize e6 : makeS lo 1 = X at *
  generalize e7 : makeS hi 1 = Y at *
  obtain ⟨x, ex⟩ := X
  obtain ⟨y, ey⟩ := Y
  dsimp only at *
  generalize e8 : cmpR x a = U at *
  generalize e9 : cmpR y a = V at *
  obtain ⟨p, j⟩ := U
  obtain ⟨q, k⟩ := V
  dsimp only at *
  have h1 := neF (rfl : e = e)
  have h2 := neF (show m = IntKind.i64.wrap (0 - -m) by rw [wI (by omega) (by omega)]; omega)
  have o6 : lo = lo → True := fun _ => trivial
  obtain ⟨_, l0, l1⟩ := f2 lo (Prod.ext rfl zh)
  obtain ⟨_, k0, k1⟩ := f3 hi (Prod.ext rfl zi)
  obtain ⟨g1, g2⟩ := f4 lo hi (Prod.ext rfl zh) (Prod.ext rfl zi)
  have tx : ex = 0 := by obtain ⟨z, hz, _⟩ := of_val (n := lo) (by simp [inR]; omega); rw [e6] at hz; injection hz
  have ty : ey = 0 := by obtain ⟨z, hz, _⟩ := of_val (n := hi) (by simp [inR]; omega); rw [e7] at hz; injection hz
  have g5 := f5 x lo p (Prod.ext rfl zh) (e6.trans (Prod.ext rfl tx))
  have g6 := f6 y hi q (Prod.ext rfl zi) (e7.trans (Prod.ext rfl ty))
  have wd := wI (n := hi - lo) (by omega) (by omega)
  obtain ⟨an, ap, aq⟩ := a
  obtain ⟨bn, bp, bq⟩ := b
  obtain ⟨dn, dp, dq⟩ := d
  obtain ⟨xn, xp, xq⟩ := x
  obtain ⟨yn, yp, yq⟩ := y
  by_cases zj : j = 0
  rotate_left
  · skip
    by_cases zk : k = 0
    rotate_left
    · skip
      cases aq with
      | nil =>
        have w : IntKind.i64.wrap (hi - lo) = 1 := by rw [wd]; exact g2 (by simp)
        exact runO tok mixed [65, 63, 53, 55, 45, 67, 50] 300 6 (Obs.cons c1 (Obs.cons c2 (Obs.cons c3 (Obs.br 0 h1 (Obs.br 0 h2 (Obs.br 0 (eqT ze) (Obs.br 0 (eqF zg) (Obs.cons c4 (Obs.cons c5 (Obs.br 0 (neF zh) (Obs.br 0 (neF zi) (Obs.cons c6 (Obs.cons c7 (Obs.cons c8 (Obs.cons c9 (Obs.br 0 (eqF zj) (Obs.br 0 (eqF zk) (Obs.val 0 w (Obs.cons awake03.c Obs.nil))))))))))))))))))) (by kernel_rfl)
      | cons t aq =>
        cases aq with
        | nil =>
          by_cases ht : t = 1
          · subst ht
            have w := eqT (g1 rfl)
            exact runO tok mixed [65, 63, 53, 55, 45, 67, 50] 300 6 (Obs.cons c1 (Obs.cons c2 (Obs.cons c3 (Obs.br 0 h1 (Obs.br 0 h2 (Obs.br 0 (eqT ze) (Obs.br 0 (eqF zg) (Obs.cons c4 (Obs.cons c5 (Obs.br 0 (neF zh) (Obs.br 0 (neF zi) (Obs.cons c6 (Obs.cons c7 (Obs.cons c8 (Obs.cons c9 (Obs.br 0 (eqF zj) (Obs.br 0 (eqF zk) (Obs.br 2 w (Obs.cons awake03.c Obs.nil))))))))))))))))))) (by kernel_rfl)
          · have w : IntKind.i64.wrap (hi - lo) = 1 := by rw [wd]; exact g2 (by simpa using ht)
            exact runO tok mixed [65, 63, 53, 55, 45, 67, 50] 300 6 (Obs.cons c1 (Obs.cons c2 (Obs.cons c3 (Obs.br 0 h1 (Obs.br 0 h2 (Obs.br 0 (eqT ze) (Obs.br 0 (eqF zg) (Obs.cons c4 (Obs.cons c5 (Obs.br 0 (neF zh) (Obs.br 0 (neF zi) (Obs.cons c6 (Obs.cons c7 (Obs.cons c8 (Obs.cons c9 (Obs.br 0 (eqF zj) (Obs.br 0 (eqF zk) (Obs.br 1 (eqF ht) (Obs.val 0 w (Obs.cons awake03.c Obs.nil)))))))))))))))))))) (by kernel_rfl)
        | cons t2 aq =>
          have w : IntKind.i64.wrap (hi - lo) = 1 := by rw [wd]; exact g2 (by simp)
          exact runO tok mixed [65, 63, 53, 55, 45, 67, 50] 300 6 (Obs.cons c1 (Obs.cons c2 (Obs.cons c3 (Obs.br 0 h1 (Obs.br 0 h2 (Obs.br 0 (eqT ze) (Obs.br 0 (eqF zg) (Obs.cons c4 (Obs.cons c5 (Obs.br 0 (neF zh) (Obs.br 0 (neF zi) (Obs.cons c6 (Obs.cons c7 (Obs.cons c8 (Obs.cons c9 (Obs.br 0 (eqF zj) (Obs.br 0 (eqF zk) (Obs.val 0 w (Obs.cons awake03.c Obs.nil))))))))))))))))))) (by kernel_rfl)
    · have q0 := ltF (show ¬ q < 0 by have := g6 (e9.trans (Prod.ext rfl zk)); omega)
      cases aq with
      | nil =>
        have w : IntKind.i64.wrap (hi - lo) = 1 := by rw [wd]; exact g2 (by simp)
        exact runO tok mixed [65, 63, 53, 55, 45, 67, 50] 300 6 (Obs.cons c1 (Obs.cons c2 (Obs.cons c3 (Obs.br 0 h1 (Obs.br 0 h2 (Obs.br 0 (eqT ze) (Obs.br 0 (eqF zg) (Obs.cons c4 (Obs.cons c5 (Obs.br 0 (neF zh) (Obs.br 0 (neF zi) (Obs.cons c6 (Obs.cons c7 (Obs.cons c8 (Obs.cons c9 (Obs.br 0 (eqF zj) (Obs.br 0 (eqT zk) (Obs.br 0 q0 (Obs.val 0 w (Obs.cons awake03.c Obs.nil)))))))))))))))))))) (by kernel_rfl)
      | cons t aq =>
        cases aq with
        | nil =>
          by_cases ht : t = 1
          · subst ht
            have w := eqT (g1 rfl)
            exact runO tok mixed [65, 63, 53, 55, 45, 67, 50] 300 6 (Obs.cons c1 (Obs.cons c2 (Obs.cons c3 (Obs.br 0 h1 (Obs.br 0 h2 (Obs.br 0 (eqT ze) (Obs.br 0 (eqF zg) (Obs.cons c4 (Obs.cons c5 (Obs.br 0 (neF zh) (Obs.br 0 (neF zi) (Obs.cons c6 (Obs.cons c7 (Obs.cons c8 (Obs.cons c9 (Obs.br 0 (eqF zj) (Obs.br 0 (eqT zk) (Obs.br 0 q0 (Obs.br 2 w (Obs.cons awake03.c Obs.nil)))))))))))))))))))) (by kernel_rfl)
          · have w : IntKind.i64.wrap (hi - lo) = 1 := by rw [wd]; exact g2 (by simpa using ht)
            exact runO tok mixed [65, 63, 53, 55, 45, 67, 50] 300 6 (Obs.cons c1 (Obs.cons c2 (Obs.cons c3 (Obs.br 0 h1 (Obs.br 0 h2 (Obs.br 0 (eqT ze) (Obs.br 0 (eqF zg) (Obs.cons c4 (Obs.cons c5 (Obs.br 0 (neF zh) (Obs.br 0 (neF zi) (Obs.cons c6 (Obs.cons c7 (Obs.cons c8 (Obs.cons c9 (Obs.br 0 (eqF zj) (Obs.br 0 (eqT zk) (Obs.br 0 q0 (Obs.br 1 (eqF ht) (Obs.val 0 w (Obs.cons awake03.c Obs.nil))))))))))))))))))))) (by kernel_rfl)
        | cons t2 aq =>
          have w : IntKind.i64.wrap (hi - lo) = 1 := by rw [wd]; exact g2 (by simp)
          exact runO tok mixed [65, 63, 53, 55, 45, 67, 50] 300 6 (Obs.cons c1 (Obs.cons c2 (Obs.cons c3 (Obs.br 0 h1 (Obs.br 0 h2 (Obs.br 0 (eqT ze) (Obs.br 0 (eqF zg) (Obs.cons c4 (Obs.cons c5 (Obs.br 0 (neF zh) (Obs.br 0 (neF zi) (Obs.cons c6 (Obs.cons c7 (Obs.cons c8 (Obs.cons c9 (Obs.br 0 (eqF zj) (Obs.br 0 (eqT zk) (Obs.br 0 q0 (Obs.val 0 w (Obs.cons awake03.c Obs.nil)))))))))))))))))))) (by kernel_rfl)
  · have p0 := ltF (show ¬ (0 : Int) < p by have := g5 (e8.trans (Prod.ext rfl zj)); omega)
    by_cases zk : k = 0
    rotate_left
    · skip
      cases aq with
      | nil =>
        have w : IntKind.i64.wrap (hi - lo) = 1 := by rw [wd]; exact g2 (by simp)
        exact runO tok mixed [65, 63, 53, 55, 45, 67, 50] 300 6 (Obs.cons c1 (Obs.cons c2 (Obs.cons c3 (Obs.br 0 h1 (Obs.br 0 h2 (Obs.br 0 (eqT ze) (Obs.br 0 (eqF zg) (Obs.cons c4 (Obs.cons c5 (Obs.br 0 (neF zh) (Obs.br 0 (neF zi) (Obs.cons c6 (Obs.cons c7 (Obs.cons c8 (Obs.cons c9 (Obs.br 0 (eqT zj) (Obs.br 0 p0 (Obs.br 0 (eqF zk) (Obs.val 0 w (Obs.cons awake03.c Obs.nil)))))))))))))))))))) (by kernel_rfl)
      | cons t aq =>
        cases aq with
        | nil =>
          by_cases ht : t = 1
          · subst ht
            have w := eqT (g1 rfl)
            exact runO tok mixed [65, 63, 53, 55, 45, 67, 50] 300 6 (Obs.cons c1 (Obs.cons c2 (Obs.cons c3 (Obs.br 0 h1 (Obs.br 0 h2 (Obs.br 0 (eqT ze) (Obs.br 0 (eqF zg) (Obs.cons c4 (Obs.cons c5 (Obs.br 0 (neF zh) (Obs.br 0 (neF zi) (Obs.cons c6 (Obs.cons c7 (Obs.cons c8 (Obs.cons c9 (Obs.br 0 (eqT zj) (Obs.br 0 p0 (Obs.br 0 (eqF zk) (Obs.br 2 w (Obs.cons awake03.c Obs.nil)))))))))))))))))))) (by kernel_rfl)
          · have w : IntKind.i64.wrap (hi - lo) = 1 := by rw [wd]; exact g2 (by simpa using ht)
            exact runO tok mixed [65, 63, 53, 55, 45, 67, 50] 300 6 (Obs.cons c1 (Obs.cons c2 (Obs.cons c3 (Obs.br 0 h1 (Obs.br 0 h2 (Obs.br 0 (eqT ze) (Obs.br 0 (eqF zg) (Obs.cons c4 (Obs.cons c5 (Obs.br 0 (neF zh) (Obs.br 0 (neF zi) (Obs.cons c6 (Obs.cons c7 (Obs.cons c8 (Obs.cons c9 (Obs.br 0 (eqT zj) (Obs.br 0 p0 (Obs.br 0 (eqF zk) (Obs.br 1 (eqF ht) (Obs.val 0 w (Obs.cons awake03.c Obs.nil))))))))))))))))))))) (by kernel_rfl)
        | cons t2 aq =>
          have w : IntKind.i64.wrap (hi - lo) = 1 := by rw [wd]; exact g2 (by simp)
          exact runO tok mixed [65, 63, 53, 55, 45, 67, 50] 300 6 (Obs.cons c1 (Obs.cons c2 (Obs.cons c3 (Obs.br 0 h1 (Obs.br 0 h2 (Obs.br 0 (eqT ze) (Obs.br 0 (eqF zg) (Obs.cons c4 (Obs.cons c5 (Obs.br 0 (neF zh) (Obs.br 0 (neF zi) (Obs.cons c6 (Obs.cons c7 (Obs.cons c8 (Obs.cons c9 (Obs.br 0 (eqT zj) (Obs.br 0 p0 (Obs.br 0 (eqF zk) (Obs.val 0 w (Obs.cons awake03.c Obs.nil)))))))))))))))))))) (by kernel_rfl)
    · have q0 := ltF (show ¬ q < 0 by have := g6 (e9.trans (Prod.ext rfl zk)); omega)
      cases aq with
      | nil =>
        have w : IntKind.i64.wrap (hi - lo) = 1 := by rw [wd]; exact g2 (by simp)
        exact runO tok mixed [65, 63, 53, 55, 45, 67, 50] 300 6 (Obs.cons c1 (Obs.cons c2 (Obs.cons c3 (Obs.br 0 h1 (Obs.br 0 h2 (Obs.br 0 (eqT ze) (Obs.br 0 (eqF zg) (Obs.cons c4 (Obs.cons c5 (Obs.br 0 (neF zh) (Obs.br 0 (neF zi) (Obs.cons c6 (Obs.cons c7 (Obs.cons c8 (Obs.cons c9 (Obs.br 0 (eqT zj) (Obs.br 0 p0 (Obs.br 0 (eqT zk) (Obs.br 0 q0 (Obs.val 0 w (Obs.cons awake03.c Obs.nil))))))))))))))))))))) (by kernel_rfl)
      | cons t aq =>
        cases aq with
        | nil =>
          by_cases ht : t = 1
          · subst ht
            have w := eqT (g1 rfl)
            exact runO tok mixed [65, 63, 53, 55, 45, 67, 50] 300 6 (Obs.cons c1 (Obs.cons c2 (Obs.cons c3 (Obs.br 0 h1 (Obs.br 0 h2 (Obs.br 0 (eqT ze) (Obs.br 0 (eqF zg) (Obs.cons c4 (Obs.cons c5 (Obs.br 0 (neF zh) (Obs.br 0 (neF zi) (Obs.cons c6 (Obs.cons c7 (Obs.cons c8 (Obs.cons c9 (Obs.br 0 (eqT zj) (Obs.br 0 p0 (Obs.br 0 (eqT zk) (Obs.br 0 q0 (Obs.br 2 w (Obs.cons awake03.c Obs.nil))))))))))))))))))))) (by kernel_rfl)
          · have w : IntKind.i64.wrap (hi - lo) = 1 := by rw [wd]; exact g2 (by simpa using ht)
            exact runO tok mixed [65, 63, 53, 55, 45, 67, 50] 300 6 (Obs.cons c1 (Obs.cons c2 (Obs.cons c3 (Obs.br 0 h1 (Obs.br 0 h2 (Obs.br 0 (eqT ze) (Obs.br 0 (eqF zg) (Obs.cons c4 (Obs.cons c5 (Obs.br 0 (neF zh) (Obs.br 0 (neF zi) (Obs.cons c6 (Obs.cons c7 (Obs.cons c8 (Obs.cons c9 (Obs.br 0 (eqT zj) (Obs.br 0 p0 (Obs.br 0 (eqT zk) (Obs.br 0 q0 (Obs.br 1 (eqF ht) (Obs.val 0 w (Obs.cons awake03.c Obs.nil)))))))))))))))))))))) (by kernel_rfl)
        | cons t2 aq =>
          have w : IntKind.i64.wrap (hi - lo) = 1 := by rw [wd]; exact g2 (by simp)
          exact runO tok mixed [65, 63, 53, 55, 45, 67, 50] 300 6 (Obs.cons c1 (Obs.cons c2 (Obs.cons c3 (Obs.br 0 h1 (Obs.br 0 h2 (Obs.br 0 (eqT ze) (Obs.br 0 (eqF zg) (Obs.cons c4 (Obs.cons c5 (Obs.br 0 (neF zh) (Obs.br 0 (neF zi) (Obs.cons c6 (Obs.cons c7 (Obs.cons c8 (Obs.cons c9 (Obs.br 0 (eqT zj) (Obs.br 0 p0 (Obs.br 0 (eqT zk) (Obs.br 0 q0 (Obs.val 0 w (Obs.cons awake03.c Obs.nil))))))))))))))))))))) (by kernel_rfl)
theorem RatOrder_20 (a b : Rt) (ze : (cmpR a b).2 = 0) (zg : (subR a b).2 = 0) (zh : ¬ (wholeS a a.neg).2 = 0) : Sound Tryd.prog 15 [R a, R b] (B true) := by
  have c1 := rat_Cmp.c a b
  have c2 := rat_Cmp.c b a
  rw [cmp_swap a b] at c2
  have c3 := rat_Sub.c a b
  have m3 := cmpR_cases a b
  have c4 := rat_Floor.c a
  have c5 := rat_Ceil.c a
  have c6 := rat_Of.c (wholeS a a.neg).1
  have c7 := rat_Of.c (wholeS a (!a.neg)).1
  have c8 := rat_Cmp.c (makeS (wholeS a a.neg).1 1).1 a
  have c9 := rat_Cmp.c (makeS (wholeS a (!a.neg)).1 1).1 a
  have f1 := fun m d => cmp_sub (x := a) (y := b) (m := m) (d := d)
  have sg := sign.c (subR a b).1
  have f2 := fun n => whole_in (x := a) (c := a.neg) (n := n)
  have f3 := fun n => whole_in (x := a) (c := !a.neg) (n := n)
  have f4 := fun m n => floor_ceil (x := a) (m := m) (n := n)
  have f5 := fun z n p => floor_cmp (x := a) (z := z) (n := n) (p := p)
  have f6 := fun z n p => ceil_cmp (x := a) (z := z) (n := n) (p := p)
  generalize e1 : cmpR a b = C at *
  generalize e3 : subR a b = D at *
  generalize e4 : wholeS a a.neg = L at *
  generalize e5 : wholeS a (!a.neg) = H at *
  obtain ⟨m, e⟩ := C
  obtain ⟨d, g⟩ := D
  obtain ⟨lo, h⟩ := L
  obtain ⟨hi, i⟩ := H
  dsimp only at *
  generalize e6 : makeS lo 1 = X at *
  generalize e7 : makeS hi 1 = Y at *
  obtain ⟨x, ex⟩ := X
  obtain ⟨y, ey⟩ := Y
  dsimp only at *
  generalize e8 : cmpR x a = U at *
  generalize e9 : cmpR y a = V at *
  obtain ⟨p, j⟩ := U
  obtain ⟨q, k⟩ := V
  dsimp only at *
  have h1 := neF (rfl : e = e)
  have h2 := neF (show m = IntKind.i64.wrap (0 - -m) by rw [wI (by omega) (by omega)]; omega)
  have o6 : lo = lo → True := fun _ => trivial
  have hm := neF (f1 m d (Prod.ext rfl ze) (Prod.ext rfl zg))
  obtain ⟨an, ap, aq⟩ := a
  obtain ⟨bn, bp, bq⟩ := b
  obtain ⟨dn, dp, dq⟩ := d
  obtain ⟨xn, xp, xq⟩ := x
  obtain ⟨yn, yp, yq⟩ := y
  exact runO tok mixed [65, 63, 53, 55, 45, 67, 50] 300 6 (Obs.cons c1 (Obs.cons c2 (Obs.cons c3 (Obs.br 0 h1 (Obs.br 0 h2 (Obs.br 0 (eqT ze) (Obs.br 0 (eqT zg) (Obs.cons sg (Obs.br 0 hm (Obs.cons c4 (Obs.cons c5 (Obs.br 0 (neT zh) (Obs.cons awake03.c Obs.nil))))))))))))) (by kernel_rfl)
theorem RatOrder_21 (a b : Rt) (ze : (cmpR a b).2 = 0) (zg : (subR a b).2 = 0) (zh : (wholeS a a.neg).2 = 0) (zi : ¬ (wholeS a (!a.neg)).2 = 0) : Sound Tryd.prog 15 [R a, R b] (B true) := by
  have c1 := rat_Cmp.c a b
  have c2 := rat_Cmp.c b a
  rw [cmp_swap a b] at c2
  have c3 := rat_Sub.c a b
  have m3 := cmpR_cases a b
  have c4 := rat_Floor.c a
  have c5 := rat_Ceil.c a
  have c6 := rat_Of.c (wholeS a a.neg).1
  have c7 := rat_Of.c (wholeS a (!a.neg)).1
  have c8 := rat_Cmp.c (makeS (wholeS a a.neg).1 1).1 a
  have c9 := rat_Cmp.c (makeS (wholeS a (!a.neg)).1 1).1 a
  have f1 := fun m d => cmp_sub (x := a) (y := b) (m := m) (d := d)
  have sg := sign.c (subR a b).1
  have f2 := fun n => whole_in (x := a) (c := a.neg) (n := n)
  have f3 := fun n => whole_in (x := a) (c := !a.neg) (n := n)
  have f4 := fun m n => floor_ceil (x := a) (m := m) (n := n)
  have f5 := fun z n p => floor_cmp (x := a) (z := z) (n := n) (p := p)
  have f6 := fun z n p => ceil_cmp (x := a) (z := z) (n := n) (p := p)
  generalize e1 : cmpR a b = C at *
  generalize e3 : subR a b = D at *
  generalize e4 : wholeS a a.neg = L at *
  generalize e5 : wholeS a (!a.neg) = H at *
  obtain ⟨m, e⟩ := C
  obtain ⟨d, g⟩ := D
  obtain ⟨lo, h⟩ := L
  obtain ⟨hi, i⟩ := H
  dsimp only at *
  generalize e6 : makeS lo 1 = X at *
  generalize e7 : makeS hi 1 = Y at *
  obtain ⟨x, ex⟩ := X
  obtain ⟨y, ey⟩ := Y
  dsimp only at *
  generalize e8 : cmpR x a = U at *
  generalize e9 : cmpR y a = V at *
  obtain ⟨p, j⟩ := U
  obtain ⟨q, k⟩ := V
  dsimp only at *
  have h1 := neF (rfl : e = e)
  have h2 := neF (show m = IntKind.i64.wrap (0 - -m) by rw [wI (by omega) (by omega)]; omega)
  have o6 : lo = lo → True := fun _ => trivial
  have hm := neF (f1 m d (Prod.ext rfl ze) (Prod.ext rfl zg))
  obtain ⟨an, ap, aq⟩ := a
  obtain ⟨bn, bp, bq⟩ := b
  obtain ⟨dn, dp, dq⟩ := d
  obtain ⟨xn, xp, xq⟩ := x
  obtain ⟨yn, yp, yq⟩ := y
  exact runO tok mixed [65, 63, 53, 55, 45, 67, 50] 300 6 (Obs.cons c1 (Obs.cons c2 (Obs.cons c3 (Obs.br 0 h1 (Obs.br 0 h2 (Obs.br 0 (eqT ze) (Obs.br 0 (eqT zg) (Obs.cons sg (Obs.br 0 hm (Obs.cons c4 (Obs.cons c5 (Obs.br 0 (neF zh) (Obs.br 0 (neT zi) (Obs.cons awake03.c Obs.nil)))))))))))))) (by kernel_rfl)
theorem RatOrder_22 (a b : Rt) (ze : (cmpR a b).2 = 0) (zg : (subR a b).2 = 0) (zh : (wholeS a a.neg).2 = 0) (zi : (wholeS a (!a.neg)).2 = 0) : Sound Tryd.prog 15 [R a, R b] (B true) := by
  have c1 := rat_Cmp.c a b
  have c2 := rat_Cmp.c b a
  rw [cmp_swap a b] at c2
  have c3 := rat_Sub.c a b
  have m3 := cmpR_cases a b
  have c4 := rat_Floor.c a
  have c5 := rat_Ceil.c a
  have c6 := rat_Of.c (wholeS a a.neg).1
  have c7 := rat_Of.c (wholeS a (!a.neg)).1
  have c8 := rat_Cmp.c (makeS (wholeS a a.neg).1 1).1 a
  have c9 := rat_Cmp.c (makeS (wholeS a (!a.neg)).1 1).1 a
  have f1 := fun m d => cmp_sub (x := a) (y := b) (m := m) (d := d)
  have sg := sign.c (subR a b).1
  have f2 := fun n => whole_in (x := a) (c := a.neg) (n := n)
  have f3 := fun n => whole_in (x := a) (c := !a.neg) (n := n)
  have f4 := fun m n => floor_ceil (x := a) (m := m) (n := n)
  have f5 := fun z n p => floor_cmp (x := a) (z := z) (n := n) (p := p)
  have f6 := fun z n p => ceil_cmp (x := a) (z := z) (n := n) (p := p)
  generalize e1 : cmpR a b = C at *
  generalize e3 : subR a b = D at *
  generalize e4 : wholeS a a.neg = L at *
  generalize e5 : wholeS a (!a.neg) = H at *
  obtain ⟨m, e⟩ := C
  obtain ⟨d, g⟩ := D
  obtain ⟨lo, h⟩ := L
  obtain ⟨hi, i⟩ := H
  dsimp only at *
  generalize e6 : makeS lo 1 = X at *
  generalize e7 : makeS hi 1 = Y at *
  obtain ⟨x, ex⟩ := X
  obtain ⟨y, ey⟩ := Y
  dsimp only at *
  generalize e8 : cmpR x a = U at *
  generalize e9 : cmpR y a = V at *
  obtain ⟨p, j⟩ := U
  obtain ⟨q, k⟩ := V
  dsimp only at *
  have h1 := neF (rfl : e = e)
  have h2 := neF (show m = IntKind.i64.wrap (0 - -m) by rw [wI (by omega) (by omega)]; omega)
  have o6 : lo = lo → True := fun _ => trivial
  have hm := neF (f1 m d (Prod.ext rfl ze) (Prod.ext rfl zg))
  obtain ⟨_, l0, l1⟩ := f2 lo (Prod.ext rfl zh)
  obtain ⟨_, k0, k1⟩ := f3 hi (Prod.ext rfl zi)
  obtain ⟨g1, g2⟩ := f4 lo hi (Prod.ext rfl zh) (Prod.ext rfl zi)
  have tx : ex = 0 := by obtain ⟨z, hz, _⟩ := of_val (n := lo) (by simp [inR]; omega); rw [e6] at hz; injection hz
  have ty : ey = 0 := by obtain ⟨z, hz, _⟩ := of_val (n := hi) (by simp [inR]; omega); rw [e7] at hz; injection hz
  have g5 := f5 x lo p (Prod.ext rfl zh) (e6.trans (Prod.ext rfl tx))
  have g6 := f6 y hi q (Prod.ext rfl zi) (e7.trans (Prod.ext rfl ty))
  have wd := wI (n := hi - lo) (by omega) (by omega)
  obtain ⟨an, ap, aq⟩ := a
  obtain ⟨bn, bp, bq⟩ := b
  obtain ⟨dn, dp, dq⟩ := d
  obtain ⟨xn, xp, xq⟩ := x
  obtain ⟨yn, yp, yq⟩ := y
  by_cases zj : j = 0
  rotate_left
  · skip
    by_cases zk : k = 0
    rotate_left
    · skip
      cases aq with
      | nil =>
        have w : IntKind.i64.wrap (hi - lo) = 1 := by rw [wd]; exact g2 (by simp)
        exact runO tok mixed [65, 63, 53, 55, 45, 67, 50] 300 6 (Obs.cons c1 (Obs.cons c2 (Obs.cons c3 (Obs.br 0 h1 (Obs.br 0 h2 (Obs.br 0 (eqT ze) (Obs.br 0 (eqT zg) (Obs.cons sg (Obs.br 0 hm (Obs.cons c4 (Obs.cons c5 (Obs.br 0 (neF zh) (Obs.br 0 (neF zi) (Obs.cons c6 (Obs.cons c7 (Obs.cons c8 (Obs.cons c9 (Obs.br 0 (eqF zj) (Obs.br 0 (eqF zk) (Obs.val 0 w (Obs.cons awake03.c Obs.nil))))))))))))))))))))) (by kernel_rfl)
      | cons t aq =>
        cases aq with
        | nil =>
          by_cases ht : t = 1
          · subst ht
            have w := eqT (g1 rfl)
            exact runO tok mixed [65, 63, 53, 55, 45, 67, 50] 300 6 (Obs.cons c1 (Obs.cons c2 (Obs.cons c3 (Obs.br 0 h1 (Obs.br 0 h2 (Obs.br 0 (eqT ze) (Obs.br 0 (eqT zg) (Obs.cons sg (Obs.br 0 hm (Obs.cons c4 (Obs.cons c5 (Obs.br 0 (neF zh) (Obs.br 0 (neF zi) (Obs.cons c6 (Obs.cons c7 (Obs.cons c8 (Obs.cons c9 (Obs.br 0 (eqF zj) (Obs.br 0 (eqF zk) (Obs.br 2 w (Obs.cons awake03.c Obs.nil))))))))))))))))))))) (by kernel_rfl)
          · have w : IntKind.i64.wrap (hi - lo) = 1 := by rw [wd]; exact g2 (by simpa using ht)
            exact runO tok mixed [65, 63, 53, 55, 45, 67, 50] 300 6 (Obs.cons c1 (Obs.cons c2 (Obs.cons c3 (Obs.br 0 h1 (Obs.br 0 h2 (Obs.br 0 (eqT ze) (Obs.br 0 (eqT zg) (Obs.cons sg (Obs.br 0 hm (Obs.cons c4 (Obs.cons c5 (Obs.br 0 (neF zh) (Obs.br 0 (neF zi) (Obs.cons c6 (Obs.cons c7 (Obs.cons c8 (Obs.cons c9 (Obs.br 0 (eqF zj) (Obs.br 0 (eqF zk) (Obs.br 1 (eqF ht) (Obs.val 0 w (Obs.cons awake03.c Obs.nil)))))))))))))))))))))) (by kernel_rfl)
        | cons t2 aq =>
          have w : IntKind.i64.wrap (hi - lo) = 1 := by rw [wd]; exact g2 (by simp)
          exact runO tok mixed [65, 63, 53, 55, 45, 67, 50] 300 6 (Obs.cons c1 (Obs.cons c2 (Obs.cons c3 (Obs.br 0 h1 (Obs.br 0 h2 (Obs.br 0 (eqT ze) (Obs.br 0 (eqT zg) (Obs.cons sg (Obs.br 0 hm (Obs.cons c4 (Obs.cons c5 (Obs.br 0 (neF zh) (Obs.br 0 (neF zi) (Obs.cons c6 (Obs.cons c7 (Obs.cons c8 (Obs.cons c9 (Obs.br 0 (eqF zj) (Obs.br 0 (eqF zk) (Obs.val 0 w (Obs.cons awake03.c Obs.nil))))))))))))))))))))) (by kernel_rfl)
    · have q0 := ltF (show ¬ q < 0 by have := g6 (e9.trans (Prod.ext rfl zk)); omega)
      cases aq with
      | nil =>
        have w : IntKind.i64.wrap (hi - lo) = 1 := by rw [wd]; exact g2 (by simp)
        exact runO tok mixed [65, 63, 53, 55, 45, 67, 50] 300 6 (Obs.cons c1 (Obs.cons c2 (Obs.cons c3 (Obs.br 0 h1 (Obs.br 0 h2 (Obs.br 0 (eqT ze) (Obs.br 0 (eqT zg) (Obs.cons sg (Obs.br 0 hm (Obs.cons c4 (Obs.cons c5 (Obs.br 0 (neF zh) (Obs.br 0 (neF zi) (Obs.cons c6 (Obs.cons c7 (Obs.cons c8 (Obs.cons c9 (Obs.br 0 (eqF zj) (Obs.br 0 (eqT zk) (Obs.br 0 q0 (Obs.val 0 w (Obs.cons awake03.c Obs.nil)))))))))))))))))))))) (by kernel_rfl)
      | cons t aq =>
        cases aq with
        | nil =>
          by_cases ht : t = 1
          · subst ht
            have w := eqT (g1 rfl)
            exact runO tok mixed [65, 63, 53, 55, 45, 67, 50] 300 6 (Obs.cons c1 (Obs.cons c2 (Obs.cons c3 (Obs.br 0 h1 (Obs.br 0 h2 (Obs.br 0 (eqT ze) (Obs.br 0 (eqT zg) (Obs.cons sg (Obs.br 0 hm (Obs.cons c4 (Obs.cons c5 (Obs.br 0 (neF zh) (Obs.br 0 (neF zi) (Obs.cons c6 (Obs.cons c7 (Obs.cons c8 (Obs.cons c9 (Obs.br 0 (eqF zj) (Obs.br 0 (eqT zk) (Obs.br 0 q0 (Obs.br 2 w (Obs.cons awake03.c Obs.nil)))))))))))))))))))))) (by kernel_rfl)
          · have w : IntKind.i64.wrap (hi - lo) = 1 := by rw [wd]; exact g2 (by simpa using ht)
            exact runO tok mixed [65, 63, 53, 55, 45, 67, 50] 300 6 (Obs.cons c1 (Obs.cons c2 (Obs.cons c3 (Obs.br 0 h1 (Obs.br 0 h2 (Obs.br 0 (eqT ze) (Obs.br 0 (eqT zg) (Obs.cons sg (Obs.br 0 hm (Obs.cons c4 (Obs.cons c5 (Obs.br 0 (neF zh) (Obs.br 0 (neF zi) (Obs.cons c6 (Obs.cons c7 (Obs.cons c8 (Obs.cons c9 (Obs.br 0 (eqF zj) (Obs.br 0 (eqT zk) (Obs.br 0 q0 (Obs.br 1 (eqF ht) (Obs.val 0 w (Obs.cons awake03.c Obs.nil))))))))))))))))))))))) (by kernel_rfl)
        | cons t2 aq =>
          have w : IntKind.i64.wrap (hi - lo) = 1 := by rw [wd]; exact g2 (by simp)
          exact runO tok mixed [65, 63, 53, 55, 45, 67, 50] 300 6 (Obs.cons c1 (Obs.cons c2 (Obs.cons c3 (Obs.br 0 h1 (Obs.br 0 h2 (Obs.br 0 (eqT ze) (Obs.br 0 (eqT zg) (Obs.cons sg (Obs.br 0 hm (Obs.cons c4 (Obs.cons c5 (Obs.br 0 (neF zh) (Obs.br 0 (neF zi) (Obs.cons c6 (Obs.cons c7 (Obs.cons c8 (Obs.cons c9 (Obs.br 0 (eqF zj) (Obs.br 0 (eqT zk) (Obs.br 0 q0 (Obs.val 0 w (Obs.cons awake03.c Obs.nil)))))))))))))))))))))) (by kernel_rfl)
  · have p0 := ltF (show ¬ (0 : Int) < p by have := g5 (e8.trans (Prod.ext rfl zj)); omega)
    by_cases zk : k = 0
    rotate_left
    · skip
      cases aq with
      | nil =>
        have w : IntKind.i64.wrap (hi - lo) = 1 := by rw [wd]; exact g2 (by simp)
        exact runO tok mixed [65, 63, 53, 55, 45, 67, 50] 300 6 (Obs.cons c1 (Obs.cons c2 (Obs.cons c3 (Obs.br 0 h1 (Obs.br 0 h2 (Obs.br 0 (eqT ze) (Obs.br 0 (eqT zg) (Obs.cons sg (Obs.br 0 hm (Obs.cons c4 (Obs.cons c5 (Obs.br 0 (neF zh) (Obs.br 0 (neF zi) (Obs.cons c6 (Obs.cons c7 (Obs.cons c8 (Obs.cons c9 (Obs.br 0 (eqT zj) (Obs.br 0 p0 (Obs.br 0 (eqF zk) (Obs.val 0 w (Obs.cons awake03.c Obs.nil)))))))))))))))))))))) (by kernel_rfl)
      | cons t aq =>
        cases aq with
        | nil =>
          by_cases ht : t = 1
          · subst ht
            have w := eqT (g1 rfl)
            exact runO tok mixed [65, 63, 53, 55, 45, 67, 50] 300 6 (Obs.cons c1 (Obs.cons c2 (Obs.cons c3 (Obs.br 0 h1 (Obs.br 0 h2 (Obs.br 0 (eqT ze) (Obs.br 0 (eqT zg) (Obs.cons sg (Obs.br 0 hm (Obs.cons c4 (Obs.cons c5 (Obs.br 0 (neF zh) (Obs.br 0 (neF zi) (Obs.cons c6 (Obs.cons c7 (Obs.cons c8 (Obs.cons c9 (Obs.br 0 (eqT zj) (Obs.br 0 p0 (Obs.br 0 (eqF zk) (Obs.br 2 w (Obs.cons awake03.c Obs.nil)))))))))))))))))))))) (by kernel_rfl)
          · have w : IntKind.i64.wrap (hi - lo) = 1 := by rw [wd]; exact g2 (by simpa using ht)
            exact runO tok mixed [65, 63, 53, 55, 45, 67, 50] 300 6 (Obs.cons c1 (Obs.cons c2 (Obs.cons c3 (Obs.br 0 h1 (Obs.br 0 h2 (Obs.br 0 (eqT ze) (Obs.br 0 (eqT zg) (Obs.cons sg (Obs.br 0 hm (Obs.cons c4 (Obs.cons c5 (Obs.br 0 (neF zh) (Obs.br 0 (neF zi) (Obs.cons c6 (Obs.cons c7 (Obs.cons c8 (Obs.cons c9 (Obs.br 0 (eqT zj) (Obs.br 0 p0 (Obs.br 0 (eqF zk) (Obs.br 1 (eqF ht) (Obs.val 0 w (Obs.cons awake03.c Obs.nil))))))))))))))))))))))) (by kernel_rfl)
        | cons t2 aq =>
          have w : IntKind.i64.wrap (hi - lo) = 1 := by rw [wd]; exact g2 (by simp)
          exact runO tok mixed [65, 63, 53, 55, 45, 67, 50] 300 6 (Obs.cons c1 (Obs.cons c2 (Obs.cons c3 (Obs.br 0 h1 (Obs.br 0 h2 (Obs.br 0 (eqT ze) (Obs.br 0 (eqT zg) (Obs.cons sg (Obs.br 0 hm (Obs.cons c4 (Obs.cons c5 (Obs.br 0 (neF zh) (Obs.br 0 (neF zi) (Obs.cons c6 (Obs.cons c7 (Obs.cons c8 (Obs.cons c9 (Obs.br 0 (eqT zj) (Obs.br 0 p0 (Obs.br 0 (eqF zk) (Obs.val 0 w (Obs.cons awake03.c Obs.nil)))))))))))))))))))))) (by kernel_rfl)
    · have q0 := ltF (show ¬ q < 0 by have := g6 (e9.trans (Prod.ext rfl zk)); omega)
      cases aq with
      | nil =>
        have w : IntKind.i64.wrap (hi - lo) = 1 := by rw [wd]; exact g2 (by simp)
        exact runO tok mixed [65, 63, 53, 55, 45, 67, 50] 300 6 (Obs.cons c1 (Obs.cons c2 (Obs.cons c3 (Obs.br 0 h1 (Obs.br 0 h2 (Obs.br 0 (eqT ze) (Obs.br 0 (eqT zg) (Obs.cons sg (Obs.br 0 hm (Obs.cons c4 (Obs.cons c5 (Obs.br 0 (neF zh) (Obs.br 0 (neF zi) (Obs.cons c6 (Obs.cons c7 (Obs.cons c8 (Obs.cons c9 (Obs.br 0 (eqT zj) (Obs.br 0 p0 (Obs.br 0 (eqT zk) (Obs.br 0 q0 (Obs.val 0 w (Obs.cons awake03.c Obs.nil))))))))))))))))))))))) (by kernel_rfl)
      | cons t aq =>
        cases aq with
        | nil =>
          by_cases ht : t = 1
          · subst ht
            have w := eqT (g1 rfl)
            exact runO tok mixed [65, 63, 53, 55, 45, 67, 50] 300 6 (Obs.cons c1 (Obs.cons c2 (Obs.cons c3 (Obs.br 0 h1 (Obs.br 0 h2 (Obs.br 0 (eqT ze) (Obs.br 0 (eqT zg) (Obs.cons sg (Obs.br 0 hm (Obs.cons c4 (Obs.cons c5 (Obs.br 0 (neF zh) (Obs.br 0 (neF zi) (Obs.cons c6 (Obs.cons c7 (Obs.cons c8 (Obs.cons c9 (Obs.br 0 (eqT zj) (Obs.br 0 p0 (Obs.br 0 (eqT zk) (Obs.br 0 q0 (Obs.br 2 w (Obs.cons awake03.c Obs.nil))))))))))))))))))))))) (by kernel_rfl)
          · have w : IntKind.i64.wrap (hi - lo) = 1 := by rw [wd]; exact g2 (by simpa using ht)
            exact runO tok mixed [65, 63, 53, 55, 45, 67, 50] 300 6 (Obs.cons c1 (Obs.cons c2 (Obs.cons c3 (Obs.br 0 h1 (Obs.br 0 h2 (Obs.br 0 (eqT ze) (Obs.br 0 (eqT zg) (Obs.cons sg (Obs.br 0 hm (Obs.cons c4 (Obs.cons c5 (Obs.br 0 (neF zh) (Obs.br 0 (neF zi) (Obs.cons c6 (Obs.cons c7 (Obs.cons c8 (Obs.cons c9 (Obs.br 0 (eqT zj) (Obs.br 0 p0 (Obs.br 0 (eqT zk) (Obs.br 0 q0 (Obs.br 1 (eqF ht) (Obs.val 0 w (Obs.cons awake03.c Obs.nil)))))))))))))))))))))))) (by kernel_rfl)
        | cons t2 aq =>
          have w : IntKind.i64.wrap (hi - lo) = 1 := by rw [wd]; exact g2 (by simp)
          exact runO tok mixed [65, 63, 53, 55, 45, 67, 50] 300 6 (Obs.cons c1 (Obs.cons c2 (Obs.cons c3 (Obs.br 0 h1 (Obs.br 0 h2 (Obs.br 0 (eqT ze) (Obs.br 0 (eqT zg) (Obs.cons sg (Obs.br 0 hm (Obs.cons c4 (Obs.cons c5 (Obs.br 0 (neF zh) (Obs.br 0 (neF zi) (Obs.cons c6 (Obs.cons c7 (Obs.cons c8 (Obs.cons c9 (Obs.br 0 (eqT zj) (Obs.br 0 p0 (Obs.br 0 (eqT zk) (Obs.br 0 q0 (Obs.val 0 w (Obs.cons awake03.c Obs.nil))))))))))))))))))))))) (by kernel_rfl)
theorem RatOrder.c (a b : Rt) : Sound Tryd.prog 15 [R a, R b] (B true) := by
  by_cases ze : (cmpR a b).2 = 0 <;> by_cases zg : (subR a b).2 = 0 <;> by_cases zh : (wholeS a a.neg).2 = 0 <;> by_cases zi : (wholeS a (!a.neg)).2 = 0
  all_goals first
  | exact RatOrder_00 a b ze zh
  | exact RatOrder_01 a b ze zh zi
  | exact RatOrder_02 a b ze zh zi
  | exact RatOrder_10 a b ze zg zh
  | exact RatOrder_11 a b ze zg zh zi
  | exact RatOrder_12 a b ze zg zh zi
  | exact RatOrder_20 a b ze zg zh
  | exact RatOrder_21 a b ze zg zh zi
  | exact RatOrder_22 a b ze zg zh zi
end Go.Proofs.YtalklhbdpmggjaaDoor.Pw
