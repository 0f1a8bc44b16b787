/- The functions of the program as functions of values, part 15: a proof's lemmas, with no condition of their own. -/
import Derived.Test.YtalklhbdpmggjaaDoorNfm
import Derived.Test.YtalklhbdpmggjaaDoorNfn
set_option linter.unusedVariables false
set_option linter.unusedSimpArgs false
namespace Go.Proofs.YtalklhbdpmggjaaDoor.Pw
open Go Wd Px Mat
set_option linter.unusedVariables false
set_option linter.unusedSimpArgs false
set_option maxRecDepth 100000
set_option maxHeartbeats 8000000
attribute [local irreducible] Int.tmod Int.tdiv
theorem same03 (x : Rt) : Sound Tryd.prog 49 [R x, R x] (B true) := by
  have := r3_Same.c x x
  rwa [sameS_self] at this
theorem RatMakes.c (p q : Int) (hp : -9223372036854775808 ≤ p ∧ p ≤ 9223372036854775807) (hq : -9223372036854775808 ≤ q ∧ q ≤ 9223372036854775807) : Sound Tryd.prog 12 [I p, I q] (B true) := by
  have c1 := rat_Of.c p
  have c2 := r3_Of.c p hp
  have c3 := rat_Make.c p q
  have c4 := r3_Make.c p q hp hq
  have s1 := same03 (makeS p 1).1
  have s2 := same03 (makeS p q).1
  generalize makeS p 1 = x at *
  generalize makeS p q = y at *
  obtain ⟨⟨xn, xp, xq⟩, e⟩ := x
  obtain ⟨⟨yn, yp, yq⟩, f⟩ := y
  have h1 := eqT (rfl : e = e)
  have h2 := eqT (rfl : f = f)
  exact runO tok mixed [45, 47, 46, 48, 49, 50] 300 6 (Obs.cons c1 (Obs.cons c2 (Obs.cons c3 (Obs.cons c4 (Obs.cons s1 (Obs.br 0 h1 (Obs.cons s2 (Obs.br 0 h2 (Obs.cons awake03.c Obs.nil))))))))) (by kernel_rfl)
theorem RatSums.c (x y : Rt) : Sound Tryd.prog 14 [R x, R y] (B true) := by
  have c1 := rat_Add.c x y
  have c2 := r3_Add.c x y
  have c3 := rat_Sub.c x y
  have c4 := r3_Sub.c x y
  have c5 := rat_Cmp.c x y
  have c6 := r3_Cmp.c x y
  have s1 := same03 (addR x y).1
  have s2 := same03 (subR x y).1
  generalize addR x y = s at *
  generalize subR x y = d at *
  generalize cmpR x y = c at *
  obtain ⟨xn, xp, xq⟩ := x
  obtain ⟨yn, yp, yq⟩ := y
  obtain ⟨⟨an, ap, aq⟩, e⟩ := s
  obtain ⟨⟨bn, bp, bq⟩, f⟩ := d
  obtain ⟨m, g⟩ := c
  have h1 := eqT (rfl : e = e)
  have h2 := eqT (rfl : f = f)
  have h3 := eqT (rfl : m = m)
  have h4 := eqT (rfl : g = g)
  exact runO tok mixed [61, 63, 65, 62, 64, 66, 49, 50] 300 6 (Obs.cons c1 (Obs.cons c2 (Obs.cons c3 (Obs.cons c4 (Obs.cons c5 (Obs.cons c6 (Obs.cons s1 (Obs.br 0 h1 (Obs.cons s2 (Obs.br 0 h2 (Obs.br 0 h3 (Obs.br 0 h4 (Obs.cons awake03.c Obs.nil))))))))))))) (by kernel_rfl)
theorem RatProducts.c (x y : Rt) : Sound Tryd.prog 17 [R x, R y] (B true) := by
  have c1 := rat_Mul.c x y
  have c2 := r3_Mul.c x y
  have c3 := rat_Div.c x y
  have c4 := r3_Div.c x y
  have s1 := same03 (mulR x y).1
  have s2 := same03 (divR x y).1
  generalize mulR x y = s at *
  generalize divR x y = d at *
  obtain ⟨xn, xp, xq⟩ := x
  obtain ⟨yn, yp, yq⟩ := y
  obtain ⟨⟨an, ap, aq⟩, e⟩ := s
  obtain ⟨⟨bn, bp, bq⟩, f⟩ := d
  have h1 := eqT (rfl : e = e)
  have h2 := eqT (rfl : f = f)
  exact runO tok mixed [70, 72, 71, 73, 49, 50] 300 6 (Obs.cons c1 (Obs.cons c2 (Obs.cons c3 (Obs.cons c4 (Obs.cons s1 (Obs.br 0 h1 (Obs.cons s2 (Obs.br 0 h2 (Obs.cons awake03.c Obs.nil))))))))) (by kernel_rfl)
theorem RatField_00 (a b c : Rt) (z1 : ¬ (addR a b).2 = 0) (z2 : ¬ (mulR a b).2 = 0) : Sound Tryd.prog 18 [R a, R b, R c] (B true) := by
  have c1 := rat_Add.c a b
  have c2 := rat_Add.c b a
  rw [addR_comm b a] at c2
  have c3 := rat_Mul.c a b
  have c4 := rat_Mul.c b a
  rw [mulR_comm b a] at c4
  have c5 := rat_Sub.c (addR a b).1 b
  have c6 := rat_Div.c (mulR a b).1 b
  have c7 := rat_Sub.c a a
  have c8 := rat_Add.c b c
  have c9 := rat_Mul.c a (addR b c).1
  have c10 := rat_Mul.c a c
  have c11 := rat_Add.c (mulR a b).1 (mulR a c).1
  have f1 := fun s x => add_sub (a := a) (b := b) (s := s) (x := x)
  have f2 := fun s x => mul_div (a := a) (b := b) (p := s) (x := x)
  have f3 := fun x => sub_self (a := a) (x := x)
  have f4 := fun u v w p y => distrib (a := a) (b := b) (c := c) (u := u) (v := v) (w := w) (p := p) (y := y)
  generalize e1 : addR a b = S at *
  generalize e3 : mulR a b = P at *
  generalize e8 : addR b c = U at *
  generalize e10 : mulR a c = W at *
  obtain ⟨s, e⟩ := S
  obtain ⟨p, g⟩ := P
  obtain ⟨u, i⟩ := U
  obtain ⟨w, k⟩ := W
  dsimp only at *
  generalize e5 : subR s b = X1 at *
  generalize e6 : divR p b = X2 at *
  generalize e7 : subR a a = X3 at *
  generalize e9 : mulR a u = V at *
  generalize e11 : addR p w = Y at *
  obtain ⟨x1, i1⟩ := X1
  obtain ⟨x2, i2⟩ := X2
  obtain ⟨x3, i3⟩ := X3
  obtain ⟨v, j⟩ := V
  obtain ⟨y, l⟩ := Y
  dsimp only at *
  have s1 := same03 s
  have s2 := same03 p
  have sa := same03 a
  have sy := same03 y
  have h1 := neF (rfl : e = e)
  have h2 := neF (rfl : g = g)
  obtain ⟨an, ap, aq⟩ := a
  obtain ⟨bn, bp, bq⟩ := b
  obtain ⟨cn, cp, cq⟩ := c
  obtain ⟨sn, sp, sq⟩ := s
  obtain ⟨pn, pp, pq⟩ := p
  obtain ⟨un, up, uq⟩ := u
  obtain ⟨vn, vp, vq⟩ := v
  obtain ⟨wn, wp, wq⟩ := w
  obtain ⟨yn, yp, yq⟩ := y
  obtain ⟨x1n, x1p, x1q⟩ := x1
  obtain ⟨x2n, x2p, x2q⟩ := x2
  by_cases z3 : i3 = 0
  rotate_left
  · obtain ⟨x3n, x3p, x3q⟩ := x3
    exact runO tok mixed [61, 63, 70, 72, 49, 50] 300 6 (Obs.cons c1 (Obs.cons c2 (Obs.cons c3 (Obs.cons c4 (Obs.cons s1 (Obs.br 0 h1 (Obs.cons s2 (Obs.br 0 h2 (Obs.cons c5 (Obs.br 0 (eqF z1) (Obs.cons c6 (Obs.br 0 (eqF z2) (Obs.cons c7 (Obs.br 0 (eqF z3) (Obs.cons c8 (Obs.cons c9 (Obs.cons c10 (Obs.cons c11 (Obs.br 0 (eqF z2) (Obs.cons awake03.c Obs.nil)))))))))))))))))))) (by kernel_rfl)
  · obtain rfl : x3 = ⟨false, [], [1]⟩ := f3 _ (by rw [z3])
    exact runO tok mixed [61, 63, 70, 72, 49, 50] 300 6 (Obs.cons c1 (Obs.cons c2 (Obs.cons c3 (Obs.cons c4 (Obs.cons s1 (Obs.br 0 h1 (Obs.cons s2 (Obs.br 0 h2 (Obs.cons c5 (Obs.br 0 (eqF z1) (Obs.cons c6 (Obs.br 0 (eqF z2) (Obs.cons c7 (Obs.br 0 (eqT z3) (Obs.cons c8 (Obs.cons c9 (Obs.cons c10 (Obs.cons c11 (Obs.br 0 (eqF z2) (Obs.cons awake03.c Obs.nil)))))))))))))))))))) (by kernel_rfl)
theorem RatField_01 (a b c : Rt) (z1 : ¬ (addR a b).2 = 0) (z2 : (mulR a b).2 = 0) (zz : ¬ (divR (mulR a b).1 b).2 = 0) : Sound Tryd.prog 18 [R a, R b, R c] (B true) := by
  have c1 := rat_Add.c a b
  have c2 := rat_Add.c b a
  rw [addR_comm b a] at c2
  have c3 := rat_Mul.c a b
  have c4 := rat_Mul.c b a
  rw [mulR_comm b a] at c4
  have c5 := rat_Sub.c (addR a b).1 b
  have c6 := rat_Div.c (mulR a b).1 b
  have c7 := rat_Sub.c a a
  have c8 := rat_Add.c b c
  have c9 := rat_Mul.c a (addR b c).1
  have c10 := rat_Mul.c a c
  have c11 := rat_Add.c (mulR a b).1 (mulR a c).1
  have f1 := fun s x => add_sub (a := a) (b := b) (s := s) (x := x)
  have f2 := fun s x => mul_div (a := a) (b := b) (p := s) (x := x)
  have f3 := fun x => sub_self (a := a) (x := x)
  have f4 := fun u v w p y => distrib (a := a) (b := b) (c := c) (u := u) (v := v) (w := w) (p := p) (y := y)
  generalize e1 : addR a b = S at *
  generalize e3 : mulR a b = P at *
  generalize e8 : addR b c = U at *
  generalize e10 : mulR a c = W at *
  obtain ⟨s, e⟩ := S
  obtain ⟨p, g⟩ := P
  obtain ⟨u, i⟩ := U
  obtain ⟨w, k⟩ := W
  dsimp only at *
  generalize e5 : subR s b = X1 at *
  generalize e6 : divR p b = X2 at *
  generalize e7 : subR a a = X3 at *
  generalize e9 : mulR a u = V at *
  generalize e11 : addR p w = Y at *
  obtain ⟨x1, i1⟩ := X1
  obtain ⟨x2, i2⟩ := X2
  obtain ⟨x3, i3⟩ := X3
  obtain ⟨v, j⟩ := V
  obtain ⟨y, l⟩ := Y
  dsimp only at *
  have s1 := same03 s
  have s2 := same03 p
  have sa := same03 a
  have sy := same03 y
  have h1 := neF (rfl : e = e)
  have h2 := neF (rfl : g = g)
  obtain ⟨an, ap, aq⟩ := a
  obtain ⟨bn, bp, bq⟩ := b
  obtain ⟨cn, cp, cq⟩ := c
  obtain ⟨sn, sp, sq⟩ := s
  obtain ⟨pn, pp, pq⟩ := p
  obtain ⟨un, up, uq⟩ := u
  obtain ⟨vn, vp, vq⟩ := v
  obtain ⟨wn, wp, wq⟩ := w
  obtain ⟨yn, yp, yq⟩ := y
  obtain ⟨x1n, x1p, x1q⟩ := x1
  obtain ⟨x2n, x2p, x2q⟩ := x2
  by_cases z3 : i3 = 0
  rotate_left
  · obtain ⟨x3n, x3p, x3q⟩ := x3
    by_cases zi : i = 0
    rotate_left
    · exact runO tok mixed [61, 63, 70, 72, 49, 50] 300 6 (Obs.cons c1 (Obs.cons c2 (Obs.cons c3 (Obs.cons c4 (Obs.cons s1 (Obs.br 0 h1 (Obs.cons s2 (Obs.br 0 h2 (Obs.cons c5 (Obs.br 0 (eqF z1) (Obs.cons c6 (Obs.br 0 (eqT z2) (Obs.br 0 (eqF zz) (Obs.cons c7 (Obs.br 0 (eqF z3) (Obs.cons c8 (Obs.cons c9 (Obs.cons c10 (Obs.cons c11 (Obs.br 0 (eqT z2) (Obs.br 0 (eqF zi) (Obs.cons awake03.c Obs.nil)))))))))))))))))))))) (by kernel_rfl)
    by_cases zj : j = 0
    rotate_left
    · exact runO tok mixed [61, 63, 70, 72, 49, 50] 300 6 (Obs.cons c1 (Obs.cons c2 (Obs.cons c3 (Obs.cons c4 (Obs.cons s1 (Obs.br 0 h1 (Obs.cons s2 (Obs.br 0 h2 (Obs.cons c5 (Obs.br 0 (eqF z1) (Obs.cons c6 (Obs.br 0 (eqT z2) (Obs.br 0 (eqF zz) (Obs.cons c7 (Obs.br 0 (eqF z3) (Obs.cons c8 (Obs.cons c9 (Obs.cons c10 (Obs.cons c11 (Obs.br 0 (eqT z2) (Obs.br 0 (eqT zi) (Obs.br 0 (eqF zj) (Obs.cons awake03.c Obs.nil))))))))))))))))))))))) (by kernel_rfl)
    by_cases zk : k = 0
    rotate_left
    · exact runO tok mixed [61, 63, 70, 72, 49, 50] 300 6 (Obs.cons c1 (Obs.cons c2 (Obs.cons c3 (Obs.cons c4 (Obs.cons s1 (Obs.br 0 h1 (Obs.cons s2 (Obs.br 0 h2 (Obs.cons c5 (Obs.br 0 (eqF z1) (Obs.cons c6 (Obs.br 0 (eqT z2) (Obs.br 0 (eqF zz) (Obs.cons c7 (Obs.br 0 (eqF z3) (Obs.cons c8 (Obs.cons c9 (Obs.cons c10 (Obs.cons c11 (Obs.br 0 (eqT z2) (Obs.br 0 (eqT zi) (Obs.br 0 (eqT zj) (Obs.br 0 (eqF zk) (Obs.cons awake03.c Obs.nil)))))))))))))))))))))))) (by kernel_rfl)
    by_cases zl : l = 0
    rotate_left
    · exact runO tok mixed [61, 63, 70, 72, 49, 50] 300 6 (Obs.cons c1 (Obs.cons c2 (Obs.cons c3 (Obs.cons c4 (Obs.cons s1 (Obs.br 0 h1 (Obs.cons s2 (Obs.br 0 h2 (Obs.cons c5 (Obs.br 0 (eqF z1) (Obs.cons c6 (Obs.br 0 (eqT z2) (Obs.br 0 (eqF zz) (Obs.cons c7 (Obs.br 0 (eqF z3) (Obs.cons c8 (Obs.cons c9 (Obs.cons c10 (Obs.cons c11 (Obs.br 0 (eqT z2) (Obs.br 0 (eqT zi) (Obs.br 0 (eqT zj) (Obs.br 0 (eqT zk) (Obs.br 0 (eqF zl) (Obs.cons awake03.c Obs.nil))))))))))))))))))))))))) (by kernel_rfl)
    obtain ⟨rfl, rfl, rfl⟩ : vn = yn ∧ vp = yp ∧ vq = yq := by simpa using f4 _ _ _ _ _ (Prod.ext rfl zi) (e9.trans (Prod.ext rfl zj)) (Prod.ext rfl zk) (Prod.ext rfl z2) (e11.trans (Prod.ext rfl zl))
    exact runO tok mixed [61, 63, 70, 72, 49, 50] 300 6 (Obs.cons c1 (Obs.cons c2 (Obs.cons c3 (Obs.cons c4 (Obs.cons s1 (Obs.br 0 h1 (Obs.cons s2 (Obs.br 0 h2 (Obs.cons c5 (Obs.br 0 (eqF z1) (Obs.cons c6 (Obs.br 0 (eqT z2) (Obs.br 0 (eqF zz) (Obs.cons c7 (Obs.br 0 (eqF z3) (Obs.cons c8 (Obs.cons c9 (Obs.cons c10 (Obs.cons c11 (Obs.br 0 (eqT z2) (Obs.br 0 (eqT zi) (Obs.br 0 (eqT zj) (Obs.br 0 (eqT zk) (Obs.br 0 (eqT zl) (Obs.cons sy (Obs.cons awake03.c Obs.nil)))))))))))))))))))))))))) (by kernel_rfl)
  · obtain rfl : x3 = ⟨false, [], [1]⟩ := f3 _ (by rw [z3])
    by_cases zi : i = 0
    rotate_left
    · exact runO tok mixed [61, 63, 70, 72, 49, 50] 300 6 (Obs.cons c1 (Obs.cons c2 (Obs.cons c3 (Obs.cons c4 (Obs.cons s1 (Obs.br 0 h1 (Obs.cons s2 (Obs.br 0 h2 (Obs.cons c5 (Obs.br 0 (eqF z1) (Obs.cons c6 (Obs.br 0 (eqT z2) (Obs.br 0 (eqF zz) (Obs.cons c7 (Obs.br 0 (eqT z3) (Obs.cons c8 (Obs.cons c9 (Obs.cons c10 (Obs.cons c11 (Obs.br 0 (eqT z2) (Obs.br 0 (eqF zi) (Obs.cons awake03.c Obs.nil)))))))))))))))))))))) (by kernel_rfl)
    by_cases zj : j = 0
    rotate_left
    · exact runO tok mixed [61, 63, 70, 72, 49, 50] 300 6 (Obs.cons c1 (Obs.cons c2 (Obs.cons c3 (Obs.cons c4 (Obs.cons s1 (Obs.br 0 h1 (Obs.cons s2 (Obs.br 0 h2 (Obs.cons c5 (Obs.br 0 (eqF z1) (Obs.cons c6 (Obs.br 0 (eqT z2) (Obs.br 0 (eqF zz) (Obs.cons c7 (Obs.br 0 (eqT z3) (Obs.cons c8 (Obs.cons c9 (Obs.cons c10 (Obs.cons c11 (Obs.br 0 (eqT z2) (Obs.br 0 (eqT zi) (Obs.br 0 (eqF zj) (Obs.cons awake03.c Obs.nil))))))))))))))))))))))) (by kernel_rfl)
    by_cases zk : k = 0
    rotate_left
    · exact runO tok mixed [61, 63, 70, 72, 49, 50] 300 6 (Obs.cons c1 (Obs.cons c2 (Obs.cons c3 (Obs.cons c4 (Obs.cons s1 (Obs.br 0 h1 (Obs.cons s2 (Obs.br 0 h2 (Obs.cons c5 (Obs.br 0 (eqF z1) (Obs.cons c6 (Obs.br 0 (eqT z2) (Obs.br 0 (eqF zz) (Obs.cons c7 (Obs.br 0 (eqT z3) (Obs.cons c8 (Obs.cons c9 (Obs.cons c10 (Obs.cons c11 (Obs.br 0 (eqT z2) (Obs.br 0 (eqT zi) (Obs.br 0 (eqT zj) (Obs.br 0 (eqF zk) (Obs.cons awake03.c Obs.nil)))))))))))))))))))))))) (by kernel_rfl)
    by_cases zl : l = 0
    rotate_left
    · exact runO tok mixed [61, 63, 70, 72, 49, 50] 300 6 (Obs.cons c1 (Obs.cons c2 (Obs.cons c3 (Obs.cons c4 (Obs.cons s1 (Obs.br 0 h1 (Obs.cons s2 (Obs.br 0 h2 (Obs.cons c5 (Obs.br 0 (eqF z1) (Obs.cons c6 (Obs.br 0 (eqT z2) (Obs.br 0 (eqF zz) (Obs.cons c7 (Obs.br 0 (eqT z3) (Obs.cons c8 (Obs.cons c9 (Obs.cons c10 (Obs.cons c11 (Obs.br 0 (eqT z2) (Obs.br 0 (eqT zi) (Obs.br 0 (eqT zj) (Obs.br 0 (eqT zk) (Obs.br 0 (eqF zl) (Obs.cons awake03.c Obs.nil))))))))))))))))))))))))) (by kernel_rfl)
    obtain ⟨rfl, rfl, rfl⟩ : vn = yn ∧ vp = yp ∧ vq = yq := by simpa using f4 _ _ _ _ _ (Prod.ext rfl zi) (e9.trans (Prod.ext rfl zj)) (Prod.ext rfl zk) (Prod.ext rfl z2) (e11.trans (Prod.ext rfl zl))
    exact runO tok mixed [61, 63, 70, 72, 49, 50] 300 6 (Obs.cons c1 (Obs.cons c2 (Obs.cons c3 (Obs.cons c4 (Obs.cons s1 (Obs.br 0 h1 (Obs.cons s2 (Obs.br 0 h2 (Obs.cons c5 (Obs.br 0 (eqF z1) (Obs.cons c6 (Obs.br 0 (eqT z2) (Obs.br 0 (eqF zz) (Obs.cons c7 (Obs.br 0 (eqT z3) (Obs.cons c8 (Obs.cons c9 (Obs.cons c10 (Obs.cons c11 (Obs.br 0 (eqT z2) (Obs.br 0 (eqT zi) (Obs.br 0 (eqT zj) (Obs.br 0 (eqT zk) (Obs.br 0 (eqT zl) (Obs.cons sy (Obs.cons awake03.c Obs.nil)))))))))))))))))))))))))) (by kernel_rfl)
theorem RatField_02 (a b c : Rt) (z1 : ¬ (addR a b).2 = 0) (z2 : (mulR a b).2 = 0) (zz : (divR (mulR a b).1 b).2 = 0) : Sound Tryd.prog 18 [R a, R b, R c] (B true) := by
  have c1 := rat_Add.c a b
  have c2 := rat_Add.c b a
  rw [addR_comm b a] at c2
  have c3 := rat_Mul.c a b
  have c4 := rat_Mul.c b a
  rw [mulR_comm b a] at c4
  have c5 := rat_Sub.c (addR a b).1 b
  have c6 := rat_Div.c (mulR a b).1 b
  have c7 := rat_Sub.c a a
  have c8 := rat_Add.c b c
  have c9 := rat_Mul.c a (addR b c).1
  have c10 := rat_Mul.c a c
  have c11 := rat_Add.c (mulR a b).1 (mulR a c).1
  have f1 := fun s x => add_sub (a := a) (b := b) (s := s) (x := x)
  have f2 := fun s x => mul_div (a := a) (b := b) (p := s) (x := x)
  have f3 := fun x => sub_self (a := a) (x := x)
  have f4 := fun u v w p y => distrib (a := a) (b := b) (c := c) (u := u) (v := v) (w := w) (p := p) (y := y)
  generalize e1 : addR a b = S at *
  generalize e3 : mulR a b = P at *
  generalize e8 : addR b c = U at *
  generalize e10 : mulR a c = W at *
  obtain ⟨s, e⟩ := S
  obtain ⟨p, g⟩ := P
  obtain ⟨u, i⟩ := U
  obtain ⟨w, k⟩ := W
  dsimp only at *
  generalize e5 : subR s b = X1 at *
  generalize e6 : divR p b = X2 at *
  generalize e7 : subR a a = X3 at *
  generalize e9 : mulR a u = V at *
  generalize e11 : addR p w = Y at *
  obtain ⟨x1, i1⟩ := X1
  obtain ⟨x2, i2⟩ := X2
  obtain ⟨x3, i3⟩ := X3
  obtain ⟨v, j⟩ := V
  obtain ⟨y, l⟩ := Y
  dsimp only at *
  have s1 := same03 s
  have s2 := same03 p
  have sa := same03 a
  have sy := same03 y
  have h1 := neF (rfl : e = e)
  have h2 := neF (rfl : g = g)
  obtain ⟨an, ap, aq⟩ := a
  obtain ⟨bn, bp, bq⟩ := b
  obtain ⟨cn, cp, cq⟩ := c
  obtain ⟨sn, sp, sq⟩ := s
  obtain ⟨pn, pp, pq⟩ := p
  obtain ⟨un, up, uq⟩ := u
  obtain ⟨vn, vp, vq⟩ := v
  obtain ⟨wn, wp, wq⟩ := w
  obtain ⟨yn, yp, yq⟩ := y
  obtain ⟨x1n, x1p, x1q⟩ := x1
  obtain rfl : x2 = ⟨an, ap, aq⟩ := f2 _ _ (Prod.ext rfl z2) (e6.trans (Prod.ext rfl zz))
  by_cases z3 : i3 = 0
  rotate_left
  · obtain ⟨x3n, x3p, x3q⟩ := x3
    by_cases zi : i = 0
    rotate_left
    · exact runO tok mixed [61, 63, 70, 72, 49, 50] 300 6 (Obs.cons c1 (Obs.cons c2 (Obs.cons c3 (Obs.cons c4 (Obs.cons s1 (Obs.br 0 h1 (Obs.cons s2 (Obs.br 0 h2 (Obs.cons c5 (Obs.br 0 (eqF z1) (Obs.cons c6 (Obs.br 0 (eqT z2) (Obs.br 0 (eqT zz) (Obs.cons sa (Obs.cons c7 (Obs.br 0 (eqF z3) (Obs.cons c8 (Obs.cons c9 (Obs.cons c10 (Obs.cons c11 (Obs.br 0 (eqT z2) (Obs.br 0 (eqF zi) (Obs.cons awake03.c Obs.nil))))))))))))))))))))))) (by kernel_rfl)
    by_cases zj : j = 0
    rotate_left
    · exact runO tok mixed [61, 63, 70, 72, 49, 50] 300 6 (Obs.cons c1 (Obs.cons c2 (Obs.cons c3 (Obs.cons c4 (Obs.cons s1 (Obs.br 0 h1 (Obs.cons s2 (Obs.br 0 h2 (Obs.cons c5 (Obs.br 0 (eqF z1) (Obs.cons c6 (Obs.br 0 (eqT z2) (Obs.br 0 (eqT zz) (Obs.cons sa (Obs.cons c7 (Obs.br 0 (eqF z3) (Obs.cons c8 (Obs.cons c9 (Obs.cons c10 (Obs.cons c11 (Obs.br 0 (eqT z2) (Obs.br 0 (eqT zi) (Obs.br 0 (eqF zj) (Obs.cons awake03.c Obs.nil)))))))))))))))))))))))) (by kernel_rfl)
    by_cases zk : k = 0
    rotate_left
    · exact runO tok mixed [61, 63, 70, 72, 49, 50] 300 6 (Obs.cons c1 (Obs.cons c2 (Obs.cons c3 (Obs.cons c4 (Obs.cons s1 (Obs.br 0 h1 (Obs.cons s2 (Obs.br 0 h2 (Obs.cons c5 (Obs.br 0 (eqF z1) (Obs.cons c6 (Obs.br 0 (eqT z2) (Obs.br 0 (eqT zz) (Obs.cons sa (Obs.cons c7 (Obs.br 0 (eqF z3) (Obs.cons c8 (Obs.cons c9 (Obs.cons c10 (Obs.cons c11 (Obs.br 0 (eqT z2) (Obs.br 0 (eqT zi) (Obs.br 0 (eqT zj) (Obs.br 0 (eqF zk) (Obs.cons awake03.c Obs.nil))))))))))))))))))))))))) (by kernel_rfl)
    by_cases zl : l = 0
    rotate_left
    · exact runO tok mixed [61, 63, 70, 72, 49, 50] 300 6 (Obs.cons c1 (Obs.cons c2 (Obs.cons c3 (Obs.cons c4 (Obs.cons s1 (Obs.br 0 h1 (Obs.cons s2 (Obs.br 0 h2 (Obs.cons c5 (Obs.br 0 (eqF z1) (Obs.cons c6 (Obs.br 0 (eqT z2) (Obs.br 0 (eqT zz) (Obs.cons sa (Obs.cons c7 (Obs.br 0 (eqF z3) (Obs.cons c8 (Obs.cons c9 (Obs.cons c10 (Obs.cons c11 (Obs.br 0 (eqT z2) (Obs.br 0 (eqT zi) (Obs.br 0 (eqT zj) (Obs.br 0 (eqT zk) (Obs.br 0 (eqF zl) (Obs.cons awake03.c Obs.nil)))))))))))))))))))))))))) (by kernel_rfl)
    obtain ⟨rfl, rfl, rfl⟩ : vn = yn ∧ vp = yp ∧ vq = yq := by simpa using f4 _ _ _ _ _ (Prod.ext rfl zi) (e9.trans (Prod.ext rfl zj)) (Prod.ext rfl zk) (Prod.ext rfl z2) (e11.trans (Prod.ext rfl zl))
    exact runO tok mixed [61, 63, 70, 72, 49, 50] 300 6 (Obs.cons c1 (Obs.cons c2 (Obs.cons c3 (Obs.cons c4 (Obs.cons s1 (Obs.br 0 h1 (Obs.cons s2 (Obs.br 0 h2 (Obs.cons c5 (Obs.br 0 (eqF z1) (Obs.cons c6 (Obs.br 0 (eqT z2) (Obs.br 0 (eqT zz) (Obs.cons sa (Obs.cons c7 (Obs.br 0 (eqF z3) (Obs.cons c8 (Obs.cons c9 (Obs.cons c10 (Obs.cons c11 (Obs.br 0 (eqT z2) (Obs.br 0 (eqT zi) (Obs.br 0 (eqT zj) (Obs.br 0 (eqT zk) (Obs.br 0 (eqT zl) (Obs.cons sy (Obs.cons awake03.c Obs.nil))))))))))))))))))))))))))) (by kernel_rfl)
  · obtain rfl : x3 = ⟨false, [], [1]⟩ := f3 _ (by rw [z3])
    by_cases zi : i = 0
    rotate_left
    · exact runO tok mixed [61, 63, 70, 72, 49, 50] 300 6 (Obs.cons c1 (Obs.cons c2 (Obs.cons c3 (Obs.cons c4 (Obs.cons s1 (Obs.br 0 h1 (Obs.cons s2 (Obs.br 0 h2 (Obs.cons c5 (Obs.br 0 (eqF z1) (Obs.cons c6 (Obs.br 0 (eqT z2) (Obs.br 0 (eqT zz) (Obs.cons sa (Obs.cons c7 (Obs.br 0 (eqT z3) (Obs.cons c8 (Obs.cons c9 (Obs.cons c10 (Obs.cons c11 (Obs.br 0 (eqT z2) (Obs.br 0 (eqF zi) (Obs.cons awake03.c Obs.nil))))))))))))))))))))))) (by kernel_rfl)
    by_cases zj : j = 0
    rotate_left
    · exact runO tok mixed [61, 63, 70, 72, 49, 50] 300 6 (Obs.cons c1 (Obs.cons c2 (Obs.cons c3 (Obs.cons c4 (Obs.cons s1 (Obs.br 0 h1 (Obs.cons s2 (Obs.br 0 h2 (Obs.cons c5 (Obs.br 0 (eqF z1) (Obs.cons c6 (Obs.br 0 (eqT z2) (Obs.br 0 (eqT zz) (Obs.cons sa (Obs.cons c7 (Obs.br 0 (eqT z3) (Obs.cons c8 (Obs.cons c9 (Obs.cons c10 (Obs.cons c11 (Obs.br 0 (eqT z2) (Obs.br 0 (eqT zi) (Obs.br 0 (eqF zj) (Obs.cons awake03.c Obs.nil)))))))))))))))))))))))) (by kernel_rfl)
    by_cases zk : k = 0
    rotate_left
    · exact runO tok mixed [61, 63, 70, 72, 49, 50] 300 6 (Obs.cons c1 (Obs.cons c2 (Obs.cons c3 (Obs.cons c4 (Obs.cons s1 (Obs.br 0 h1 (Obs.cons s2 (Obs.br 0 h2 (Obs.cons c5 (Obs.br 0 (eqF z1) (Obs.cons c6 (Obs.br 0 (eqT z2) (Obs.br 0 (eqT zz) (Obs.cons sa (Obs.cons c7 (Obs.br 0 (eqT z3) (Obs.cons c8 (Obs.cons c9 (Obs.cons c10 (Obs.cons c11 (Obs.br 0 (eqT z2) (Obs.br 0 (eqT zi) (Obs.br 0 (eqT zj) (Obs.br 0 (eqF zk) (Obs.cons awake03.c Obs.nil))))))))))))))))))))))))) (by kernel_rfl)
    by_cases zl : l = 0
    rotate_left
    · exact runO tok mixed [61, 63, 70, 72, 49, 50] 300 6 (Obs.cons c1 (Obs.cons c2 (Obs.cons c3 (Obs.cons c4 (Obs.cons s1 (Obs.br 0 h1 (Obs.cons s2 (Obs.br 0 h2 (Obs.cons c5 (Obs.br 0 (eqF z1) (Obs.cons c6 (Obs.br 0 (eqT z2) (Obs.br 0 (eqT zz) (Obs.cons sa (Obs.cons c7 (Obs.br 0 (eqT z3) (Obs.cons c8 (Obs.cons c9 (Obs.cons c10 (Obs.cons c11 (Obs.br 0 (eqT z2) (Obs.br 0 (eqT zi) (Obs.br 0 (eqT zj) (Obs.br 0 (eqT zk) (Obs.br 0 (eqF zl) (Obs.cons awake03.c Obs.nil)))))))))))))))))))))))))) (by kernel_rfl)
    obtain ⟨rfl, rfl, rfl⟩ : vn = yn ∧ vp = yp ∧ vq = yq := by simpa using f4 _ _ _ _ _ (Prod.ext rfl zi) (e9.trans (Prod.ext rfl zj)) (Prod.ext rfl zk) (Prod.ext rfl z2) (e11.trans (Prod.ext rfl zl))
    exact runO tok mixed [61, 63, 70, 72, 49, 50] 300 6 (Obs.cons c1 (Obs.cons c2 (Obs.cons c3 (Obs.cons c4 (Obs.cons s1 (Obs.br 0 h1 (Obs.cons s2 (Obs.br 0 h2 (Obs.cons c5 (Obs.br 0 (eqF z1) (Obs.cons c6 (Obs.br 0 (eqT z2) (Obs.br 0 (eqT zz) (Obs.cons sa (Obs.cons c7 (Obs.br 0 (eqT z3) (Obs.cons c8 (Obs.cons c9 (Obs.cons c10 (Obs.cons c11 (Obs.br 0 (eqT z2) (Obs.br 0 (eqT zi) (Obs.br 0 (eqT zj) (Obs.br 0 (eqT zk) (Obs.br 0 (eqT zl) (Obs.cons sy (Obs.cons awake03.c Obs.nil))))))))))))))))))))))))))) (by kernel_rfl)
theorem RatField_10 (a b c : Rt) (z1 : (addR a b).2 = 0) (y1 : ¬ (subR (addR a b).1 b).2 = 0) (z2 : ¬ (mulR a b).2 = 0) : Sound Tryd.prog 18 [R a, R b, R c] (B true) := by
  have c1 := rat_Add.c a b
  have c2 := rat_Add.c b a
  rw [addR_comm b a] at c2
  have c3 := rat_Mul.c a b
  have c4 := rat_Mul.c b a
  rw [mulR_comm b a] at c4
  have c5 := rat_Sub.c (addR a b).1 b
  have c6 := rat_Div.c (mulR a b).1 b
  have c7 := rat_Sub.c a a
  have c8 := rat_Add.c b c
  have c9 := rat_Mul.c a (addR b c).1
  have c10 := rat_Mul.c a c
  have c11 := rat_Add.c (mulR a b).1 (mulR a c).1
  have f1 := fun s x => add_sub (a := a) (b := b) (s := s) (x := x)
  have f2 := fun s x => mul_div (a := a) (b := b) (p := s) (x := x)
  have f3 := fun x => sub_self (a := a) (x := x)
  have f4 := fun u v w p y => distrib (a := a) (b := b) (c := c) (u := u) (v := v) (w := w) (p := p) (y := y)
  generalize e1 : addR a b = S at *
  generalize e3 : mulR a b = P at *
  generalize e8 : addR b c = U at *
  generalize e10 : mulR a c = W at *
  obtain ⟨s, e⟩ := S
  obtain ⟨p, g⟩ := P
  obtain ⟨u, i⟩ := U
  obtain ⟨w, k⟩ := W
  dsimp only at *
  generalize e5 : subR s b = X1 at *
  generalize e6 : divR p b = X2 at *
  generalize e7 : subR a a = X3 at *
  generalize e9 : mulR a u = V at *
  generalize e11 : addR p w = Y at *
  obtain ⟨x1, i1⟩ := X1
  obtain ⟨x2, i2⟩ := X2
  obtain ⟨x3, i3⟩ := X3
  obtain ⟨v, j⟩ := V
  obtain ⟨y, l⟩ := Y
  dsimp only at *
  have s1 := same03 s
  have s2 := same03 p
  have sa := same03 a
  have sy := same03 y
  have h1 := neF (rfl : e = e)
  have h2 := neF (rfl : g = g)
  obtain ⟨an, ap, aq⟩ := a
  obtain ⟨bn, bp, bq⟩ := b
  obtain ⟨cn, cp, cq⟩ := c
  obtain ⟨sn, sp, sq⟩ := s
  obtain ⟨pn, pp, pq⟩ := p
  obtain ⟨un, up, uq⟩ := u
  obtain ⟨vn, vp, vq⟩ := v
  obtain ⟨wn, wp, wq⟩ := w
  obtain ⟨yn, yp, yq⟩ := y
  obtain ⟨x1n, x1p, x1q⟩ := x1
  obtain ⟨x2n, x2p, x2q⟩ := x2
  by_cases z3 : i3 = 0
  rotate_left
  · obtain ⟨x3n, x3p, x3q⟩ := x3
    exact runO tok mixed [61, 63, 70, 72, 49, 50] 300 6 (Obs.cons c1 (Obs.cons c2 (Obs.cons c3 (Obs.cons c4 (Obs.cons s1 (Obs.br 0 h1 (Obs.cons s2 (Obs.br 0 h2 (Obs.cons c5 (Obs.br 0 (eqT z1) (Obs.br 0 (eqF y1) (Obs.cons c6 (Obs.br 0 (eqF z2) (Obs.cons c7 (Obs.br 0 (eqF z3) (Obs.cons c8 (Obs.cons c9 (Obs.cons c10 (Obs.cons c11 (Obs.br 0 (eqF z2) (Obs.cons awake03.c Obs.nil))))))))))))))))))))) (by kernel_rfl)
  · obtain rfl : x3 = ⟨false, [], [1]⟩ := f3 _ (by rw [z3])
    exact runO tok mixed [61, 63, 70, 72, 49, 50] 300 6 (Obs.cons c1 (Obs.cons c2 (Obs.cons c3 (Obs.cons c4 (Obs.cons s1 (Obs.br 0 h1 (Obs.cons s2 (Obs.br 0 h2 (Obs.cons c5 (Obs.br 0 (eqT z1) (Obs.br 0 (eqF y1) (Obs.cons c6 (Obs.br 0 (eqF z2) (Obs.cons c7 (Obs.br 0 (eqT z3) (Obs.cons c8 (Obs.cons c9 (Obs.cons c10 (Obs.cons c11 (Obs.br 0 (eqF z2) (Obs.cons awake03.c Obs.nil))))))))))))))))))))) (by kernel_rfl)
theorem RatField_11 (a b c : Rt) (z1 : (addR a b).2 = 0) (y1 : ¬ (subR (addR a b).1 b).2 = 0) (z2 : (mulR a b).2 = 0) (zz : ¬ (divR (mulR a b).1 b).2 = 0) : Sound Tryd.prog 18 [R a, R b, R c] (B true) := by
  have c1 := rat_Add.c a b
  have c2 := rat_Add.c b a
  rw [addR_comm b a] at c2
  have c3 := rat_Mul.c a b
  have c4 := rat_Mul.c b a
  rw [mulR_comm b a] at c4
  have c5 := rat_Sub.c (addR a b).1 b
  have c6 := rat_Div.c (mulR a b).1 b
  have c7 := rat_Sub.c a a
  have c8 := rat_Add.c b c
  have c9 := rat_Mul.c a (addR b c).1
  have c10 := rat_Mul.c a c
  have c11 := rat_Add.c (mulR a b).1 (mulR a c).1
  have f1 := fun s x => add_sub (a := a) (b := b) (s := s) (x := x)
  have f2 := fun s x => mul_div (a := a) (b := b) (p := s) (x := x)
  have f3 := fun x => sub_self (a := a) (x := x)
  have f4 := fun u v w p y => distrib (a := a) (b := b) (c := c) (u := u) (v := v) (w := w) (p := p) (y := y)
  generalize e1 : addR a b = S at *
  generalize e3 : mulR a b = P at *
  generalize e8 : addR b c = U at *
  generalize e10 : mulR a c = W at *
  obtain ⟨s, e⟩ := S
  obtain ⟨p, g⟩ := P
  obtain ⟨u, i⟩ := U
  obtain ⟨w, k⟩ := W
  dsimp only at *
  generalize e5 : subR s b = X1 at *
  generalize e6 : divR p b = X2 at *
  generalize e7 : subR a a = X3 at *
  generalize e9 : mulR a u = V at *
  generalize e11 : addR p w = Y at *
  obtain ⟨x1, i1⟩ := X1
  obtain ⟨x2, i2⟩ := X2
  obtain ⟨x3, i3⟩ := X3
  obtain ⟨v, j⟩ := V
  obtain ⟨y, l⟩ := Y
  dsimp only at *
  have s1 := same03 s
  have s2 := same03 p
  have sa := same03 a
  have sy := same03 y
  have h1 := neF (rfl : e = e)
  have h2 := neF (rfl : g = g)
  obtain ⟨an, ap, aq⟩ := a
  obtain ⟨bn, bp, bq⟩ := b
  obtain ⟨cn, cp, cq⟩ := c
  obtain ⟨sn, sp, sq⟩ := s
  obtain ⟨pn, pp, pq⟩ := p
  obtain ⟨un, up, uq⟩ := u
  obtain ⟨vn, vp, vq⟩ := v
  obtain ⟨wn, wp, wq⟩ := w
  obtain ⟨yn, yp, yq⟩ := y
  obtain ⟨x1n, x1p, x1q⟩ := x1
  obtain ⟨x2n, x2p, x2q⟩ := x2
  by_cases z3 : i3 = 0
  rotate_left
  · obtain ⟨x3n, x3p, x3q⟩ := x3
    by_cases zi : i = 0
    rotate_left
    · exact runO tok mixed [61, 63, 70, 72, 49, 50] 300 6 (Obs.cons c1 (Obs.cons c2 (Obs.cons c3 (Obs.cons c4 (Obs.cons s1 (Obs.br 0 h1 (Obs.cons s2 (Obs.br 0 h2 (Obs.cons c5 (Obs.br 0 (eqT z1) (Obs.br 0 (eqF y1) (Obs.cons c6 (Obs.br 0 (eqT z2) (Obs.br 0 (eqF zz) (Obs.cons c7 (Obs.br 0 (eqF z3) (Obs.cons c8 (Obs.cons c9 (Obs.cons c10 (Obs.cons c11 (Obs.br 0 (eqT z2) (Obs.br 0 (eqF zi) (Obs.cons awake03.c Obs.nil))))))))))))))))))))))) (by kernel_rfl)
    by_cases zj : j = 0
    rotate_left
    · exact runO tok mixed [61, 63, 70, 72, 49, 50] 300 6 (Obs.cons c1 (Obs.cons c2 (Obs.cons c3 (Obs.cons c4 (Obs.cons s1 (Obs.br 0 h1 (Obs.cons s2 (Obs.br 0 h2 (Obs.cons c5 (Obs.br 0 (eqT z1) (Obs.br 0 (eqF y1) (Obs.cons c6 (Obs.br 0 (eqT z2) (Obs.br 0 (eqF zz) (Obs.cons c7 (Obs.br 0 (eqF z3) (Obs.cons c8 (Obs.cons c9 (Obs.cons c10 (Obs.cons c11 (Obs.br 0 (eqT z2) (Obs.br 0 (eqT zi) (Obs.br 0 (eqF zj) (Obs.cons awake03.c Obs.nil)))))))))))))))))))))))) (by kernel_rfl)
    by_cases zk : k = 0
    rotate_left
    · exact runO tok mixed [61, 63, 70, 72, 49, 50] 300 6 (Obs.cons c1 (Obs.cons c2 (Obs.cons c3 (Obs.cons c4 (Obs.cons s1 (Obs.br 0 h1 (Obs.cons s2 (Obs.br 0 h2 (Obs.cons c5 (Obs.br 0 (eqT z1) (Obs.br 0 (eqF y1) (Obs.cons c6 (Obs.br 0 (eqT z2) (Obs.br 0 (eqF zz) (Obs.cons c7 (Obs.br 0 (eqF z3) (Obs.cons c8 (Obs.cons c9 (Obs.cons c10 (Obs.cons c11 (Obs.br 0 (eqT z2) (Obs.br 0 (eqT zi) (Obs.br 0 (eqT zj) (Obs.br 0 (eqF zk) (Obs.cons awake03.c Obs.nil))))))))))))))))))))))))) (by kernel_rfl)
    by_cases zl : l = 0
    rotate_left
    · exact runO tok mixed [61, 63, 70, 72, 49, 50] 300 6 (Obs.cons c1 (Obs.cons c2 (Obs.cons c3 (Obs.cons c4 (Obs.cons s1 (Obs.br 0 h1 (Obs.cons s2 (Obs.br 0 h2 (Obs.cons c5 (Obs.br 0 (eqT z1) (Obs.br 0 (eqF y1) (Obs.cons c6 (Obs.br 0 (eqT z2) (Obs.br 0 (eqF zz) (Obs.cons c7 (Obs.br 0 (eqF z3) (Obs.cons c8 (Obs.cons c9 (Obs.cons c10 (Obs.cons c11 (Obs.br 0 (eqT z2) (Obs.br 0 (eqT zi) (Obs.br 0 (eqT zj) (Obs.br 0 (eqT zk) (Obs.br 0 (eqF zl) (Obs.cons awake03.c Obs.nil)))))))))))))))))))))))))) (by kernel_rfl)
    obtain ⟨rfl, rfl, rfl⟩ : vn = yn ∧ vp = yp ∧ vq = yq := by simpa using f4 _ _ _ _ _ (Prod.ext rfl zi) (e9.trans (Prod.ext rfl zj)) (Prod.ext rfl zk) (Prod.ext rfl z2) (e11.trans (Prod.ext rfl zl))
    exact runO tok mixed [61, 63, 70, 72, 49, 50] 300 6 (Obs.cons c1 (Obs.cons c2 (Obs.cons c3 (Obs.cons c4 (Obs.cons s1 (Obs.br 0 h1 (Obs.cons s2 (Obs.br 0 h2 (Obs.cons c5 (Obs.br 0 (eqT z1) (Obs.br 0 (eqF y1) (Obs.cons c6 (Obs.br 0 (eqT z2) (Obs.br 0 (eqF zz) (Obs.cons c7 (Obs.br 0 (eqF z3) (Obs.cons c8 (Obs.cons c9 (Obs.cons c10 (Obs.cons c11 (Obs.br 0 (eqT z2) (Obs.br 0 (eqT zi) (Obs.br 0 (eqT zj) (Obs.br 0 (eqT zk) (Obs.br 0 (eqT zl) (Obs.cons sy (Obs.cons awake03.c Obs.nil))))))))))))))))))))))))))) (by kernel_rfl)
  · obtain rfl : x3 = ⟨false, [], [1]⟩ := f3 _ (by rw [z3])
    by_cases zi : i = 0
    rotate_left
    · exact runO tok mixed [61, 63, 70, 72, 49, 50] 300 6 (Obs.cons c1 (Obs.cons c2 (Obs.cons c3 (Obs.cons c4 (Obs.cons s1 (Obs.br 0 h1 (Obs.cons s2 (Obs.br 0 h2 (Obs.cons c5 (Obs.br 0 (eqT z1) (Obs.br 0 (eqF y1) (Obs.cons c6 (Obs.br 0 (eqT z2) (Obs.br 0 (eqF zz) (Obs.cons c7 (Obs.br 0 (eqT z3) (Obs.cons c8 (Obs.cons c9 (Obs.cons c10 (Obs.cons c11 (Obs.br 0 (eqT z2) (Obs.br 0 (eqF zi) (Obs.cons awake03.c Obs.nil))))))))))))))))))))))) (by kernel_rfl)
    by_cases zj : j = 0
    rotate_left
    · exact runO tok mixed [61, 63, 70, 72, 49, 50] 300 6 (Obs.cons c1 (Obs.cons c2 (Obs.cons c3 (Obs.cons c4 (Obs.cons s1 (Obs.br 0 h1 (Obs.cons s2 (Obs.br 0 h2 (Obs.cons c5 (Obs.br 0 (eqT z1) (Obs.br 0 (eqF y1) (Obs.cons c6 (Obs.br 0 (eqT z2) (Obs.br 0 (eqF zz) (Obs.cons c7 (Obs.br 0 (eqT z3) (Obs.cons c8 (Obs.cons c9 (Obs.cons c10 (Obs.cons c11 (Obs.br 0 (eqT z2) (Obs.br 0 (eqT zi) (Obs.br 0 (eqF zj) (Obs.cons awake03.c Obs.nil)))))))))))))))))))))))) (by kernel_rfl)
    by_cases zk : k = 0
    rotate_left
    · exact runO tok mixed [61, 63, 70, 72, 49, 50] 300 6 (Obs.cons c1 (Obs.cons c2 (Obs.cons c3 (Obs.cons c4 (Obs.cons s1 (Obs.br 0 h1 (Obs.cons s2 (Obs.br 0 h2 (Obs.cons c5 (Obs.br 0 (eqT z1) (Obs.br 0 (eqF y1) (Obs.cons c6 (Obs.br 0 (eqT z2) (Obs.br 0 (eqF zz) (Obs.cons c7 (Obs.br 0 (eqT z3) (Obs.cons c8 (Obs.cons c9 (Obs.cons c10 (Obs.cons c11 (Obs.br 0 (eqT z2) (Obs.br 0 (eqT zi) (Obs.br 0 (eqT zj) (Obs.br 0 (eqF zk) (Obs.cons awake03.c Obs.nil))))))))))))))))))))))))) (by kernel_rfl)
    by_cases zl : l = 0
    rotate_left
    · exact runO tok mixed [61, 63, 70, 72, 49, 50] 300 6 (Obs.cons c1 (Obs.cons c2 (Obs.cons c3 (Obs.cons c4 (Obs.cons s1 (Obs.br 0 h1 (Obs.cons s2 (Obs.br 0 h2 (Obs.cons c5 (Obs.br 0 (eqT z1) (Obs.br 0 (eqF y1) (Obs.cons c6 (Obs.br 0 (eqT z2) (Obs.br 0 (eqF zz) (Obs.cons c7 (Obs.br 0 (eqT z3) (Obs.cons c8 (Obs.cons c9 (Obs.cons c10 (Obs.cons c11 (Obs.br 0 (eqT z2) (Obs.br 0 (eqT zi) (Obs.br 0 (eqT zj) (Obs.br 0 (eqT zk) (Obs.br 0 (eqF zl) (Obs.cons awake03.c Obs.nil)))))))))))))))))))))))))) (by kernel_rfl)
    obtain ⟨rfl, rfl, rfl⟩ : vn = yn ∧ vp = yp ∧ vq = yq := by simpa using f4 _ _ _ _ _ (Prod.ext rfl zi) (e9.trans (Prod.ext rfl zj)) (Prod.ext rfl zk) (Prod.ext rfl z2) (e11.trans (Prod.ext rfl zl))
    exact runO tok mixed [61, 63, 70, 72, 49, 50] 300 6 (Obs.cons c1 (Obs.cons c2 (Obs.cons c3 (Obs.cons c4 (Obs.cons s1 (Obs.br 0 h1 (Obs.cons s2 (Obs.br 0 h2 (Obs.cons c5 (Obs.br 0 (eqT z1) (Obs.br 0 (eqF y1) (Obs.cons c6 (Obs.br 0 (eqT z2) (Obs.br 0 (eqF zz) (Obs.cons c7 (Obs.br 0 (eqT z3) (Obs.cons c8 (Obs.cons c9 (Obs.cons c10 (Obs.cons c11 (Obs.br 0 (eqT z2) (Obs.br 0 (eqT zi) (Obs.br 0 (eqT zj) (Obs.br 0 (eqT zk) (Obs.br 0 (eqT zl) (Obs.cons sy (Obs.cons awake03.c Obs.nil))))))))))))))))))))))))))) (by kernel_rfl)
theorem RatField_12 (a b c : Rt) (z1 : (addR a b).2 = 0) (y1 : ¬ (subR (addR a b).1 b).2 = 0) (z2 : (mulR a b).2 = 0) (zz : (divR (mulR a b).1 b).2 = 0) : Sound Tryd.prog 18 [R a, R b, R c] (B true) := by
  have c1 := rat_Add.c a b
  have c2 := rat_Add.c b a
  rw [addR_comm b a] at c2
  have c3 := rat_Mul.c a b
  have c4 := rat_Mul.c b a
  rw [mulR_comm b a] at c4
  have c5 := rat_Sub.c (addR a b).1 b
  have c6 := rat_Div.c (mulR a b).1 b
  have c7 := rat_Sub.c a a
  have c8 := rat_Add.c b c
  have c9 := rat_Mul.c a (addR b c).1
  have c10 := rat_Mul.c a c
  have c11 := rat_Add.c (mulR a b).1 (mulR a c).1
  have f1 := fun s x => add_sub (a := a) (b := b) (s := s) (x := x)
  have f2 := fun s x => mul_div (a := a) (b := b) (p := s) (x := x)
  have f3 := fun x => sub_self (a := a) (x := x)
  have f4 := fun u v w p y => distrib (a := a) (b := b) (c := c) (u := u) (v := v) (w := w) (p := p) (y := y)
  generalize e1 : addR a b = S at *
  generalize e3 : mulR a b = P at *
  generalize e8 : addR b c = U at *
  generalize e10 : mulR a c = W at *
  obtain ⟨s, e⟩ := S
  obtain ⟨p, g⟩ := P
  obtain ⟨u, i⟩ := U
  obtain ⟨w, k⟩ := W
  dsimp only at *
  generalize e5 : subR s b = X1 at *
  generalize e6 : divR p b = X2 at *
  generalize e7 : subR a a = X3 at *
  generalize e9 : mulR a u = V at *
  generalize e11 : addR p w = Y at *
  obtain ⟨x1, i1⟩ := X1
  obtain ⟨x2, i2⟩ := X2
  obtain ⟨x3, i3⟩ := X3
  obtain ⟨v, j⟩ := V
  obtain ⟨y, l⟩ := Y
  dsimp only at *
  have s1 := same03 s
  have s2 := same03 p
  have sa := same03 a
  have sy := same03 y
  have h1 := neF (rfl : e = e)
  have h2 := neF (rfl : g = g)
  obtain ⟨an, ap, aq⟩ := a
  obtain ⟨bn, bp, bq⟩ := b
  obtain ⟨cn, cp, cq⟩ := c
  obtain ⟨sn, sp, sq⟩ := s
  obtain ⟨pn, pp, pq⟩ := p
  obtain ⟨un, up, uq⟩ := u
  obtain ⟨vn, vp, vq⟩ := v
  obtain ⟨wn, wp, wq⟩ := w
  obtain ⟨yn, yp, yq⟩ := y
  obtain ⟨x1n, x1p, x1q⟩ := x1
  obtain rfl : x2 = ⟨an, ap, aq⟩ := f2 _ _ (Prod.ext rfl z2) (e6.trans (Prod.ext rfl zz))
  by_cases z3 : i3 = 0
  rotate_left
  · obtain ⟨x3n, x3p, x3q⟩ := x3
    by_cases zi : i = 0
    rotate_left
    · exact runO tok mixed [61, 63, 70, 72, 49, 50] 300 6 (Obs.cons c1 (Obs.cons c2 (Obs.cons c3 (Obs.cons c4 (Obs.cons s1 (Obs.br 0 h1 (Obs.cons s2 (Obs.br 0 h2 (Obs.cons c5 (Obs.br 0 (eqT z1) (Obs.br 0 (eqF y1) (Obs.cons c6 (Obs.br 0 (eqT z2) (Obs.br 0 (eqT zz) (Obs.cons sa (Obs.cons c7 (Obs.br 0 (eqF z3) (Obs.cons c8 (Obs.cons c9 (Obs.cons c10 (Obs.cons c11 (Obs.br 0 (eqT z2) (Obs.br 0 (eqF zi) (Obs.cons awake03.c Obs.nil)))))))))))))))))))))))) (by kernel_rfl)
    by_cases zj : j = 0
    rotate_left
    · exact runO tok mixed [61, 63, 70, 72, 49, 50] 300 6 (Obs.cons c1 (Obs.cons c2 (Obs.cons c3 (Obs.cons c4 (Obs.cons s1 (Obs.br 0 h1 (Obs.cons s2 (Obs.br 0 h2 (Obs.cons c5 (Obs.br 0 (eqT z1) (Obs.br 0 (eqF y1) (Obs.cons c6 (Obs.br 0 (eqT z2) (Obs.br 0 (eqT zz) (Obs.cons sa (Obs.cons c7 (Obs.br 0 (eqF z3) (Obs.cons c8 (Obs.cons c9 (Obs.cons c10 (Obs.cons c11 (Obs.br 0 (eqT z2) (Obs.br 0 (eqT zi) (Obs.br 0 (eqF zj) (Obs.cons awake03.c Obs.nil))))))))))))))))))))))))) (by kernel_rfl)
    by_cases zk : k = 0
    rotate_left
    · exact runO tok mixed [61, 63, 70, 72, 49, 50] 300 6 (Obs.cons c1 (Obs.cons c2 (Obs.cons c3 (Obs.cons c4 (Obs.cons s1 (Obs.br 0 h1 (Obs.cons s2 (Obs.br 0 h2 (Obs.cons c5 (Obs.br 0 (eqT z1) (Obs.br 0 (eqF y1) (Obs.cons c6 (Obs.br 0 (eqT z2) (Obs.br 0 (eqT zz) (Obs.cons sa (Obs.cons c7 (Obs.br 0 (eqF z3) (Obs.cons c8 (Obs.cons c9 (Obs.cons c10 (Obs.cons c11 (Obs.br 0 (eqT z2) (Obs.br 0 (eqT zi) (Obs.br 0 (eqT zj) (Obs.br 0 (eqF zk) (Obs.cons awake03.c Obs.nil)))))))))))))))))))))))))) (by kernel_rfl)
    by_cases zl : l = 0
    rotate_left
    · exact runO tok mixed [61, 63, 70, 72, 49, 50] 300 6 (Obs.cons c1 (Obs.cons c2 (Obs.cons c3 (Obs.cons c4 (Obs.cons s1 (Obs.br 0 h1 (Obs.cons s2 (Obs.br 0 h2 (Obs.cons c5 (Obs.br 0 (eqT z1) (Obs.br 0 (eqF y1) (Obs.cons c6 (Obs.br 0 (eqT z2) (Obs.br 0 (eqT zz) (Obs.cons sa (Obs.cons c7 (Obs.br 0 (eqF z3) (Obs.cons c8 (Obs.cons c9 (Obs.cons c10 (Obs.cons c11 (Obs.br 0 (eqT z2) (Obs.br 0 (eqT zi) (Obs.br 0 (eqT zj) (Obs.br 0 (eqT zk) (Obs.br 0 (eqF zl) (Obs.cons awake03.c Obs.nil))))))))))))))))))))))))))) (by kernel_rfl)
    obtain ⟨rfl, rfl, rfl⟩ : vn = yn ∧ vp = yp ∧ vq = yq := by simpa using f4 _ _ _ _ _ (Prod.ext rfl zi) (e9.trans (Prod.ext rfl zj)) (Prod.ext rfl zk) (Prod.ext rfl z2) (e11.trans (Prod.ext rfl zl))
    exact runO tok mixed [61, 63, 70, 72, 49, 50] 300 6 (Obs.cons c1 (Obs.cons c2 (Obs.cons c3 (Obs.cons c4 (Obs.cons s1 (Obs.br 0 h1 (Obs.cons s2 (Obs.br 0 h2 (Obs.cons c5 (Obs.br 0 (eqT z1) (Obs.br 0 (eqF y1) (Obs.cons c6 (Obs.br 0 (eqT z2) (Obs.br 0 (eqT zz) (Obs.cons sa (Obs.cons c7 (Obs.br 0 (eqF z3) (Obs.cons c8 (Obs.cons c9 (Obs.cons c10 (Obs.cons c11 (Obs.br 0 (eqT z2) (Obs.br 0 (eqT zi) (Obs.br 0 (eqT zj) (Obs.br 0 (eqT zk) (Obs.br 0 (eqT zl) (Obs.cons sy (Obs.cons awake03.c Obs.nil)))))))))))))))))))))))))))) (by kernel_rfl)
  · obtain rfl : x3 = ⟨false, [], [1]⟩ := f3 _ (by rw [z3])
    by_cases zi : i = 0
    rotate_left
    · exact runO tok mixed [61, 63, 70, 72, 49, 50] 300 6 (Obs.cons c1 (Obs.cons c2 (Obs.cons c3 (Obs.cons c4 (Obs.cons s1 (Obs.br 0 h1 (Obs.cons s2 (Obs.br 0 h2 (Obs.cons c5 (Obs.br 0 (eqT z1) (Obs.br 0 (eqF y1) (Obs.cons c6 (Obs.br 0 (eqT z2) (Obs.br 0 (eqT zz) (Obs.cons sa (Obs.cons c7 (Obs.br 0 (eqT z3) (Obs.cons c8 (Obs.cons c9 (Obs.cons c10 (Obs.cons c11 (Obs.br 0 (eqT z2) (Obs.br 0 (eqF zi) (Obs.cons awake03.c Obs.nil)))))))))))))))))))))))) (by kernel_rfl)
    by_cases zj : j = 0
    rotate_left
    · exact runO tok mixed [61, 63, 70, 72, 49, 50] 300 6 (Obs.cons c1 (Obs.cons c2 (Obs.cons c3 (Obs.cons c4 (Obs.cons s1 (Obs.br 0 h1 (Obs.cons s2 (Obs.br 0 h2 (Obs.cons c5 (Obs.br 0 (eqT z1) (Obs.br 0 (eqF y1) (Obs.cons c6 (Obs.br 0 (eqT z2) (Obs.br 0 (eqT zz) (Obs.cons sa (Obs.cons c7 (Obs.br 0 (eqT z3) (Obs.cons c8 (Obs.cons c9 (Obs.cons c10 (Obs.cons c11 (Obs.br 0 (eqT z2) (Obs.br 0 (eqT zi) (Obs.br 0 (eqF zj) (Obs.cons awake03.c Obs.nil))))))))))))))))))))))))) (by kernel_rfl)
    by_cases zk : k = 0
    rotate_left
    · exact runO tok mixed [61, 63, 70, 72, 49, 50] 300 6 (Obs.cons c1 (Obs.cons c2 (Obs.cons c3 (Obs.cons c4 (Obs.cons s1 (Obs.br 0 h1 (Obs.cons s2 (Obs.br 0 h2 (Obs.cons c5 (Obs.br 0 (eqT z1) (Obs.br 0 (eqF y1) (Obs.cons c6 (Obs.br 0 (eqT z2) (Obs.br 0 (eqT zz) (Obs.cons sa (Obs.cons c7 (Obs.br 0 (eqT z3) (Obs.cons c8 (Obs.cons c9 (Obs.cons c10 (Obs.cons c11 (Obs.br 0 (eqT z2) (Obs.br 0 (eqT zi) (Obs.br 0 (eqT zj) (Obs.br 0 (eqF zk) (Obs.cons awake03.c Obs.nil)))))))))))))))))))))))))) (by kernel_rfl)
    by_cases zl : l = 0
    rotate_left
    · exact runO tok mixed [61, 63, 70, 72, 49, 50] 300 6 (Obs.cons c1 (Obs.cons c2 (Obs.cons c3 (Obs.cons c4 (Obs.cons s1 (Obs.br 0 h1 (Obs.cons s2 (Obs.br 0 h2 (Obs.cons c5 (Obs.br 0 (eqT z1) (Obs.br 0 (eqF y1) (Obs.cons c6 (Obs.br 0 (eqT z2) (Obs.br 0 (eqT zz) (Obs.cons sa (Obs.cons c7 (Obs.br 0 (eqT z3) (Obs.cons c8 (Obs.cons c9 (Obs.cons c10 (Obs.cons c11 (Obs.br 0 (eqT z2) (Obs.br 0 (eqT zi) (Obs.br 0 (eqT zj) (Obs.br 0 (eqT zk) (Obs.br 0 (eqF zl) (Obs.cons awake03.c Obs.nil))))))))))))))))))))))))))) (by kernel_rfl)
    obtain ⟨rfl, rfl, rfl⟩ : vn = yn ∧ vp = yp ∧ vq = yq := by simpa using f4 _ _ _ _ _ (Prod.ext rfl zi) (e9.trans (Prod.ext rfl zj)) (Prod.ext rfl zk) (Prod.ext rfl z2) (e11.trans (Prod.ext rfl zl))
    exact runO tok mixed [61, 63, 70, 72, 49, 50] 300 6 (Obs.cons c1 (Obs.cons c2 (Obs.cons c3 (Obs.cons c4 (Obs.cons s1 (Obs.br 0 h1 (Obs.cons s2 (Obs.br 0 h2 (Obs.cons c5 (Obs.br 0 (eqT z1) (Obs.br 0 (eqF y1) (Obs.cons c6 (Obs.br 0 (eqT z2) (Obs.br 0 (eqT zz) (Obs.cons sa (Obs.cons c7 (Obs.br 0 (eqT z3) (Obs.cons c8 (Obs.cons c9 (Obs.cons c10 (Obs.cons c11 (Obs.br 0 (eqT z2) (Obs.br 0 (eqT zi) (Obs.br 0 (eqT zj) (Obs.br 0 (eqT zk) (Obs.br 0 (eqT zl) (Obs.cons sy (Obs.cons awake03.c Obs.nil)))))))))))))))))))))))))))) (by kernel_rfl)
theorem RatField_20 (a b c : Rt) (z1 : (addR a b).2 = 0) (y1 : (subR (addR a b).1 b).2 = 0) (z2 : ¬ (mulR a b).2 = 0) : Sound Tryd.prog 18 [R a, R b, R c] (B true) := by
  have c1 := rat_Add.c a b
  have c2 := rat_Add.c b a
  rw [addR_comm b a] at c2
  have c3 := rat_Mul.c a b
  have c4 := rat_Mul.c b a
  rw [mulR_comm b a] at c4
  have c5 := rat_Sub.c (addR a b).1 b
  have c6 := rat_Div.c (mulR a b).1 b
  have c7 := rat_Sub.c a a
  have c8 := rat_Add.c b c
  have c9 := rat_Mul.c a (addR b c).1
  have c10 := rat_Mul.c a c
  have c11 := rat_Add.c (mulR a b).1 (mulR a c).1
  have f1 := fun s x => add_sub (a := a) (b := b) (s := s) (x := x)
  have f2 := fun s x => mul_div (a := a) (b := b) (p := s) (x := x)
  have f3 := fun x => sub_self (a := a) (x := x)
  have f4 := fun u v w p y => distrib (a := a) (b := b) (c := c) (u := u) (v := v) (w := w) (p := p) (y := y)
  generalize e1 : addR a b = S at *
  generalize e3 : mulR a b = P at *
  generalize e8 : addR b c = U at *
  generalize e10 : mulR a c = W at *
  obtain ⟨s, e⟩ := S
  obtain ⟨p, g⟩ := P
  obtain ⟨u, i⟩ := U
  obtain ⟨w, k⟩ := W
  dsimp only at *
  generalize e5 : subR s b = X1 at *
  generalize e6 : divR p b = X2 at *
  generalize e7 : subR a a = X3 at *
  generalize e9 : mulR a u = V at *
  generalize e11 : addR p w = Y at *
  obtain ⟨x1, i1⟩ := X1
  obtain ⟨x2, i2⟩ := X2
  obtain ⟨x3, i3⟩ := X3
  obtain ⟨v, j⟩ := V
  obtain ⟨y, l⟩ := Y
  dsimp only at *
  have s1 := same03 s
  have s2 := same03 p
  have sa := same03 a
  have sy := same03 y
  have h1 := neF (rfl : e = e)
  have h2 := neF (rfl : g = g)
  obtain ⟨an, ap, aq⟩ := a
  obtain ⟨bn, bp, bq⟩ := b
  obtain ⟨cn, cp, cq⟩ := c
  obtain ⟨sn, sp, sq⟩ := s
  obtain ⟨pn, pp, pq⟩ := p
  obtain ⟨un, up, uq⟩ := u
  obtain ⟨vn, vp, vq⟩ := v
  obtain ⟨wn, wp, wq⟩ := w
  obtain ⟨yn, yp, yq⟩ := y
  obtain rfl : x1 = ⟨an, ap, aq⟩ := f1 _ _ (Prod.ext rfl z1) (e5.trans (Prod.ext rfl y1))
  obtain ⟨x2n, x2p, x2q⟩ := x2
  by_cases z3 : i3 = 0
  rotate_left
  · obtain ⟨x3n, x3p, x3q⟩ := x3
    exact runO tok mixed [61, 63, 70, 72, 49, 50] 300 6 (Obs.cons c1 (Obs.cons c2 (Obs.cons c3 (Obs.cons c4 (Obs.cons s1 (Obs.br 0 h1 (Obs.cons s2 (Obs.br 0 h2 (Obs.cons c5 (Obs.br 0 (eqT z1) (Obs.br 0 (eqT y1) (Obs.cons sa (Obs.cons c6 (Obs.br 0 (eqF z2) (Obs.cons c7 (Obs.br 0 (eqF z3) (Obs.cons c8 (Obs.cons c9 (Obs.cons c10 (Obs.cons c11 (Obs.br 0 (eqF z2) (Obs.cons awake03.c Obs.nil)))))))))))))))))))))) (by kernel_rfl)
  · obtain rfl : x3 = ⟨false, [], [1]⟩ := f3 _ (by rw [z3])
    exact runO tok mixed [61, 63, 70, 72, 49, 50] 300 6 (Obs.cons c1 (Obs.cons c2 (Obs.cons c3 (Obs.cons c4 (Obs.cons s1 (Obs.br 0 h1 (Obs.cons s2 (Obs.br 0 h2 (Obs.cons c5 (Obs.br 0 (eqT z1) (Obs.br 0 (eqT y1) (Obs.cons sa (Obs.cons c6 (Obs.br 0 (eqF z2) (Obs.cons c7 (Obs.br 0 (eqT z3) (Obs.cons c8 (Obs.cons c9 (Obs.cons c10 (Obs.cons c11 (Obs.br 0 (eqF z2) (Obs.cons awake03.c Obs.nil)))))))))))))))))))))) (by kernel_rfl)
theorem RatField_21 (a b c : Rt) (z1 : (addR a b).2 = 0) (y1 : (subR (addR a b).1 b).2 = 0) (z2 : (mulR a b).2 = 0) (zz : ¬ (divR (mulR a b).1 b).2 = 0) : Sound Tryd.prog 18 [R a, R b, R c] (B true) := by
  have c1 := rat_Add.c a b
  have c2 := rat_Add.c b a
  rw [addR_comm b a] at c2
  have c3 := rat_Mul.c a b
  have c4 := rat_Mul.c b a
  rw [mulR_comm b a] at c4
  have c5 := rat_Sub.c (addR a b).1 b
  have c6 := rat_Div.c (mulR a b).1 b
  have c7 := rat_Sub.c a a
  have c8 := rat_Add.c b c
  have c9 := rat_Mul.c a (addR b c).1
  have c10 := rat_Mul.c a c
  have c11 := rat_Add.c (mulR a b).1 (mulR a c).1
  have f1 := fun s x => add_sub (a := a) (b := b) (s := s) (x := x)
  have f2 := fun s x => mul_div (a := a) (b := b) (p := s) (x := x)
  have f3 := fun x => sub_self (a := a) (x := x)
  have f4 := fun u v w p y => distrib (a := a) (b := b) (c := c) (u := u) (v := v) (w := w) (p := p) (y := y)
  generalize e1 : addR a b = S at *
  generalize e3 : mulR a b = P at *
  generalize e8 : addR b c = U at *
  generalize e10 : mulR a c = W at *
  obtain ⟨s, e⟩ := S
  obtain ⟨p, g⟩ := P
  obtain ⟨u, i⟩ := U
  obtain ⟨w, k⟩ := W
  dsimp only at *
  generalize e5 : subR s b = X1 at *
  generalize e6 : divR p b = X2 at *
  generalize e7 : subR a a = X3 at *
  generalize e9 : mulR a u = V at *
  generalize e11 : addR p w = Y at *
  obtain ⟨x1, i1⟩ := X1
  obtain ⟨x2, i2⟩ := X2
  obtain ⟨x3, i3⟩ := X3
  obtain ⟨v, j⟩ := V
  obtain ⟨y, l⟩ := Y
  dsimp only at *
  have s1 := same03 s
  have s2 := same03 p
  have sa := same03 a
  have sy := same03 y
  have h1 := neF (rfl : e = e)
  have h2 := neF (rfl : g = g)
  obtain ⟨an, ap, aq⟩ := a
  obtain ⟨bn, bp, bq⟩ := b
  obtain ⟨cn, cp, cq⟩ := c
  obtain ⟨sn, sp, sq⟩ := s
  obtain ⟨pn, pp, pq⟩ := p
  obtain ⟨un, up, uq⟩ := u
  obtain ⟨vn, vp, vq⟩ := v
  obtain ⟨wn, wp, wq⟩ := w
  obtain ⟨yn, yp, yq⟩ := y
  obtain rfl : x1 = ⟨an, ap, aq⟩ := f1 _ _ (Prod.ext rfl z1) (e5.trans (Prod.ext rfl y1))
  obtain ⟨x2n, x2p, x2q⟩ := x2
  by_cases z3 : i3 = 0
  rotate_left
  · obtain ⟨x3n, x3p, x3q⟩ := x3
    by_cases zi : i = 0
    rotate_left
    · exact runO tok mixed [61, 63, 70, 72, 49, 50] 300 6 (Obs.cons c1 (Obs.cons c2 (Obs.cons c3 (Obs.cons c4 (Obs.cons s1 (Obs.br 0 h1 (Obs.cons s2 (Obs.br 0 h2 (Obs.cons c5 (Obs.br 0 (eqT z1) (Obs.br 0 (eqT y1) (Obs.cons sa (Obs.cons c6 (Obs.br 0 (eqT z2) (Obs.br 0 (eqF zz) (Obs.cons c7 (Obs.br 0 (eqF z3) (Obs.cons c8 (Obs.cons c9 (Obs.cons c10 (Obs.cons c11 (Obs.br 0 (eqT z2) (Obs.br 0 (eqF zi) (Obs.cons awake03.c Obs.nil)))))))))))))))))))))))) (by kernel_rfl)
    by_cases zj : j = 0
    rotate_left
    · exact runO tok mixed [61, 63, 70, 72, 49, 50] 300 6 (Obs.cons c1 (Obs.cons c2 (Obs.cons c3 (Obs.cons c4 (Obs.cons s1 (Obs.br 0 h1 (Obs.cons s2 (Obs.br 0 h2 (Obs.cons c5 (Obs.br 0 (eqT z1) (Obs.br 0 (eqT y1) (Obs.cons sa (Obs.cons c6 (Obs.br 0 (eqT z2) (Obs.br 0 (eqF zz) (Obs.cons c7 (Obs.br 0 (eqF z3) (Obs.cons c8 (Obs.cons c9 (Obs.cons c10 (Obs.cons c11 (Obs.br 0 (eqT z2) (Obs.br 0 (eqT zi) (Obs.br 0 (eqF zj) (Obs.cons awake03.c Obs.nil))))))))))))))))))))))))) (by kernel_rfl)
    by_cases zk : k = 0
    rotate_left
    · exact runO tok mixed [61, 63, 70, 72, 49, 50] 300 6 (Obs.cons c1 (Obs.cons c2 (Obs.cons c3 (Obs.cons c4 (Obs.cons s1 (Obs.br 0 h1 (Obs.cons s2 (Obs.br 0 h2 (Obs.cons c5 (Obs.br 0 (eqT z1) (Obs.br 0 (eqT y1) (Obs.cons sa (Obs.cons c6 (Obs.br 0 (eqT z2) (Obs.br 0 (eqF zz) (Obs.cons c7 (Obs.br 0 (eqF z3) (Obs.cons c8 (Obs.cons c9 (Obs.cons c10 (Obs.cons c11 (Obs.br 0 (eqT z2) (Obs.br 0 (eqT zi) (Obs.br 0 (eqT zj) (Obs.br 0 (eqF zk) (Obs.cons awake03.c Obs.nil)))))))))))))))))))))))))) (by kernel_rfl)
    by_cases zl : l = 0
    rotate_left
    · exact runO tok mixed [61, 63, 70, 72, 49, 50] 300 6 (Obs.cons c1 (Obs.cons c2 (Obs.cons c3 (Obs.cons c4 (Obs.cons s1 (Obs.br 0 h1 (Obs.cons s2 (Obs.br 0 h2 (Obs.cons c5 (Obs.br 0 (eqT z1) (Obs.br 0 (eqT y1) (Obs.cons sa (Obs.cons c6 (Obs.br 0 (eqT z2) (Obs.br 0 (eqF zz) (Obs.cons c7 (Obs.br 0 (eqF z3) (Obs.cons c8 (Obs.cons c9 (Obs.cons c10 (Obs.cons c11 (Obs.br 0 (eqT z2) (Obs.br 0 (eqT zi) (Obs.br 0 (eqT zj) (Obs.br 0 (eqT zk) (Obs.br 0 (eqF zl) (Obs.cons awake03.c Obs.nil))))))))))))))))))))))))))) (by kernel_rfl)
    obtain ⟨rfl, rfl, rfl⟩ : vn = yn ∧ vp = yp ∧ vq = yq := by simpa using f4 _ _ _ _ _ (Prod.ext rfl zi) (e9.trans (Prod.ext rfl zj)) (Prod.ext rfl zk) (Prod.ext rfl z2) (e11.trans (Prod.ext rfl zl))
    exact runO tok mixed [61, 63, 70, 72, 49, 50] 300 6 (Obs.cons c1 (Obs.cons c2 (Obs.cons c3 (Obs.cons c4 (Obs.cons s1 (Obs.br 0 h1 (Obs.cons s2 (Obs.br 0 h2 (Obs.cons c5 (Obs.br 0 (eqT z1) (Obs.br 0 (eqT y1) (Obs.cons sa (Obs.cons c6 (Obs.br 0 (eqT z2) (Obs.br 0 (eqF zz) (Obs.cons c7 (Obs.br 0 (eqF z3) (Obs.cons c8 (Obs.cons c9 (Obs.cons c10 (Obs.cons c11 (Obs.br 0 (eqT z2) (Obs.br 0 (eqT zi) (Obs.br 0 (eqT zj) (Obs.br 0 (eqT zk) (Obs.br 0 (eqT zl) (Obs.cons sy (Obs.cons awake03.c Obs.nil)))))))))))))))))))))))))))) (by kernel_rfl)
  · obtain rfl : x3 = ⟨false, [], [1]⟩ := f3 _ (by rw [z3])
    by_cases zi : i = 0
    rotate_left
    · exact runO tok mixed [61, 63, 70, 72, 49, 50] 300 6 (Obs.cons c1 (Obs.cons c2 (Obs.cons c3 (Obs.cons c4 (Obs.cons s1 (Obs.br 0 h1 (Obs.cons s2 (Obs.br 0 h2 (Obs.cons c5 (Obs.br 0 (eqT z1) (Obs.br 0 (eqT y1) (Obs.cons sa (Obs.cons c6 (Obs.br 0 (eqT z2) (Obs.br 0 (eqF zz) (Obs.cons c7 (Obs.br 0 (eqT z3) (Obs.cons c8 (Obs.cons c9 (Obs.cons c10 (Obs.cons c11 (Obs.br 0 (eqT z2) (Obs.br 0 (eqF zi) (Obs.cons awake03.c Obs.nil)))))))))))))))))))))))) (by kernel_rfl)
    by_cases zj : j = 0
    rotate_left
    · exact runO tok mixed [61, 63, 70, 72, 49, 50] 300 6 (Obs.cons c1 (Obs.cons c2 (Obs.cons c3 (Obs.cons c4 (Obs.cons s1 (Obs.br 0 h1 (Obs.cons s2 (Obs.br 0 h2 (Obs.cons c5 (Obs.br 0 (eqT z1) (Obs.br 0 (eqT y1) (Obs.cons sa (Obs.cons c6 (Obs.br 0 (eqT z2) (Obs.br 0 (eqF zz) (Obs.cons c7 (Obs.br 0 (eqT z3) (Obs.cons c8 (Obs.cons c9 (Obs.cons c10 (Obs.cons c11 (Obs.br 0 (eqT z2) (Obs.br 0 (eqT zi) (Obs.br 0 (eqF zj) (Obs.cons awake03.c Obs.nil))))))))))))))))))))))))) (by kernel_rfl)
    by_cases zk : k = 0
    rotate_left
    · exact runO tok mixed [61, 63, 70, 72, 49, 50] 300 6 (Obs.cons c1 (Obs.cons c2 (Obs.cons c3 (Obs.cons c4 (Obs.cons s1 (Obs.br 0 h1 (Obs.cons s2 (Obs.br 0 h2 (Obs.cons c5 (Obs.br 0 (eqT z1) (Obs.br 0 (eqT y1) (Obs.cons sa (Obs.cons c6 (Obs.br 0 (eqT z2) (Obs.br 0 (eqF zz) (Obs.cons c7 (Obs.br 0 (eqT z3) (Obs.cons c8 (Obs.cons c9 (Obs.cons c10 (Obs.cons c11 (Obs.br 0 (eqT z2) (Obs.br 0 (eqT zi) (Obs.br 0 (eqT zj) (Obs.br 0 (eqF zk) (Obs.cons awake03.c Obs.nil)))))))))))))))))))))))))) (by kernel_rfl)
    by_cases zl : l = 0
    rotate_left
    · exact runO tok mixed [61, 63, 70, 72, 49, 50] 300 6 (Obs.cons c1 (Obs.cons c2 (Obs.cons c3 (Obs.cons c4 (Obs.cons s1 (Obs.br 0 h1 (Obs.cons s2 (Obs.br 0 h2 (Obs.cons c5 (Obs.br 0 (eqT z1) (Obs.br 0 (eqT y1) (Obs.cons sa (Obs.cons c6 (Obs.br 0 (eqT z2) (Obs.br 0 (eqF zz) (Obs.cons c7 (Obs.br 0 (eqT z3) (Obs.cons c8 (Obs.cons c9 (Obs.cons c10 (Obs.cons c11 (Obs.br 0 (eqT z2) (Obs.br 0 (eqT zi) (Obs.br 0 (eqT zj) (Obs.br 0 (eqT zk) (Obs.br 0 (eqF zl) (Obs.cons awake03.c Obs.nil))))))))))))))))))))))))))) (by kernel_rfl)
    obtain ⟨rfl, rfl, rfl⟩ : vn = yn ∧ vp = yp ∧ vq = yq := by simpa using f4 _ _ _ _ _ (Prod.ext rfl zi) (e9.trans (Prod.ext rfl zj)) (Prod.ext rfl zk) (Prod.ext rfl z2) (e11.trans (Prod.ext rfl zl))
    exact runO tok mixed [61, 63, 70, 72, 49, 50] 300 6 (Obs.cons c1 (Obs.cons c2 (Obs.cons c3 (Obs.cons c4 (Obs.cons s1 (Obs.br 0 h1 (Obs.cons s2 (Obs.br 0 h2 (Obs.cons c5 (Obs.br 0 (eqT z1) (Obs.br 0 (eqT y1) (Obs.cons sa (Obs.cons c6 (Obs.br 0 (eqT z2) (Obs.br 0 (eqF zz) (Obs.cons c7 (Obs.br 0 (eqT z3) (Obs.cons c8 (Obs.cons c9 (Obs.cons c10 (Obs.cons c11 (Obs.br 0 (eqT z2) (Obs.br 0 (eqT zi) (Obs.br 0 (eqT zj) (Obs.br 0 (eqT zk) (Obs.br 0 (eqT zl) (Obs.cons sy (Obs.cons awake03.c Obs.nil)))))))))))))))))))))))))))) (by kernel_rfl)
theorem RatField_22 (a b c : Rt) (z1 : (addR a b).2 = 0) (y1 : (subR (addR a b).1 b).2 = 0) (z2 : (mulR a b).2 = 0) (zz : (divR (mulR a b).1 b).2 = 0) : Sound Tryd.prog 18 [R a, R b, R c] (B true) := by
  have c1 := rat_Add.c a b
  have c2 := rat_Add.c b a
  rw [addR_comm b a] at c2
  have c3 := rat_Mul.c a b
  have c4 := rat_Mul.c b a
  rw [mulR_comm b a] at c4
  have c5 := rat_Sub.c (addR a b).1 b
  have c6 := rat_Div.c (mulR a b).1 b
  have c7 := rat_Sub.c a a
  have c8 := rat_Add.c b c
  have c9 := rat_Mul.c a (addR b c).1
  have c10 := rat_Mul.c a c
  have c11 := rat_Add.c (mulR a b).1 (mulR a c).1
  have f1 := fun s x => add_sub (a := a) (b := b) (s := s) (x := x)
  have f2 := fun s x => mul_div (a := a) (b := b) (p := s) (x := x)
  have f3 := fun x => sub_self (a := a) (x := x)
  have f4 := fun u v w p y => distrib (a := a) (b := b) (c := c) (u := u) (v := v) (w := w) (p := p) (y := y)
  generalize e1 : addR a b = S at *
  generalize e3 : mulR a b = P at *
  generalize e8 : addR b c = U at *
  generalize e10 : mulR a c = W at *
  obtain ⟨s, e⟩ := S
  obtain ⟨p, g⟩ := P
  obtain ⟨u, i⟩ := U
  obtain ⟨w, k⟩ := W
  dsimp only at *
  generalize e5 : subR s b = X1 at *
  generalize e6 : divR p b = X2 at *
  generalize e7 : subR a a = X3 at *
  generalize e9 : mulR a u = V at *
  generalize e11 : addR p w = Y at *
  obtain ⟨x1, i1⟩ := X1
  obtain ⟨x2, i2⟩ := X2
  obtain ⟨x3, i3⟩ := X3
  obtain ⟨v, j⟩ := V
  obtain ⟨y, l⟩ := Y
  dsimp only at *
  have s1 := same03 s
  have s2 := same03 p
  have sa := same03 a
  have sy := same03 y
  have h1 := neF (rfl : e = e)
  have h2 := neF (rfl : g = g)
  obtain ⟨an, ap, aq⟩ := a
  obtain ⟨bn, bp, bq⟩ := b
  obtain ⟨cn, cp, cq⟩ := c
  obtain ⟨sn, sp, sq⟩ := s
  obtain ⟨pn, pp, pq⟩ := p
  obtain ⟨un, up, uq⟩ := u
  obtain ⟨vn, vp, vq⟩ := v
  obtain ⟨wn, wp, wq⟩ := w
  obtain ⟨yn, yp, yq⟩ := y
  obtain rfl : x1 = ⟨an, ap, aq⟩ := f1 _ _ (Prod.ext rfl z1) (e5.trans (Prod.ext rfl y1))
  obtain rfl : x2 = ⟨an, ap, aq⟩ := f2 _ _ (Prod.ext rfl z2) (e6.trans (Prod.ext rfl zz))
  by_cases z3 : i3 = 0
  rotate_left
  · obtain ⟨x3n, x3p, x3q⟩ := x3
    by_cases zi : i = 0
    rotate_left
    · exact runO tok mixed [61, 63, 70, 72, 49, 50] 300 6 (Obs.cons c1 (Obs.cons c2 (Obs.cons c3 (Obs.cons c4 (Obs.cons s1 (Obs.br 0 h1 (Obs.cons s2 (Obs.br 0 h2 (Obs.cons c5 (Obs.br 0 (eqT z1) (Obs.br 0 (eqT y1) (Obs.cons sa (Obs.cons c6 (Obs.br 0 (eqT z2) (Obs.br 0 (eqT zz) (Obs.cons sa (Obs.cons c7 (Obs.br 0 (eqF z3) (Obs.cons c8 (Obs.cons c9 (Obs.cons c10 (Obs.cons c11 (Obs.br 0 (eqT z2) (Obs.br 0 (eqF zi) (Obs.cons awake03.c Obs.nil))))))))))))))))))))))))) (by kernel_rfl)
    by_cases zj : j = 0
    rotate_left
    · exact runO tok mixed [61, 63, 70, 72, 49, 50] 300 6 (Obs.cons c1 (Obs.cons c2 (Obs.cons c3 (Obs.cons c4 (Obs.cons s1 (Obs.br 0 h1 (Obs.cons s2 (Obs.br 0 h2 (Obs.cons c5 (Obs.br 0 (eqT z1) (Obs.br 0 (eqT y1) (Obs.cons sa (Obs.cons c6 (Obs.br 0 (eqT z2) (Obs.br 0 (eqT zz) (Obs.cons sa (Obs.cons c7 (Obs.br 0 (eqF z3) (Obs.cons c8 (Obs.cons c9 (Obs.cons c10 (Obs.cons c11 (Obs.br 0 (eqT z2) (Obs.br 0 (eqT zi) (Obs.br 0 (eqF zj) (Obs.cons awake03.c Obs.nil)))))))))))))))))))))))))) (by kernel_rfl)
    by_cases zk : k = 0
    rotate_left
    · exact runO tok mixed [61, 63, 70, 72, 49, 50] 300 6 (Obs.cons c1 (Obs.cons c2 (Obs.cons c3 (Obs.cons c4 (Obs.cons s1 (Obs.br 0 h1 (Obs.cons s2 (Obs.br 0 h2 (Obs.cons c5 (Obs.br 0 (eqT z1) (Obs.br 0 (eqT y1) (Obs.cons sa (Obs.cons c6 (Obs.br 0 (eqT z2) (Obs.br 0 (eqT zz) (Obs.cons sa (Obs.cons c7 (Obs.br 0 (eqF z3) (Obs.cons c8 (Obs.cons c9 (Obs.cons c10 (Obs.cons c11 (Obs.br 0 (eqT z2) (Obs.br 0 (eqT zi) (Obs.br 0 (eqT zj) (Obs.br 0 (eqF zk) (Obs.cons awake03.c Obs.nil))))))))))))))))))))))))))) (by kernel_rfl)
    by_cases zl : l = 0
    rotate_left
    · exact runO tok mixed [61, 63, 70, 72, 49, 50] 300 6 (Obs.cons c1 (Obs.cons c2 (Obs.cons c3 (Obs.cons c4 (Obs.cons s1 (Obs.br 0 h1 (Obs.cons s2 (Obs.br 0 h2 (Obs.cons c5 (Obs.br 0 (eqT z1) (Obs.br 0 (eqT y1) (Obs.cons sa (Obs.cons c6 (Obs.br 0 (eqT z2) (Obs.br 0 (eqT zz) (Obs.cons sa (Obs.cons c7 (Obs.br 0 (eqF z3) (Obs.cons c8 (Obs.cons c9 (Obs.cons c10 (Obs.cons c11 (Obs.br 0 (eqT z2) (Obs.br 0 (eqT zi) (Obs.br 0 (eqT zj) (Obs.br 0 (eqT zk) (Obs.br 0 (eqF zl) (Obs.cons awake03.c Obs.nil)))))))))))))))))))))))))))) (by kernel_rfl)
    obtain ⟨rfl, rfl, rfl⟩ : vn = yn ∧ vp = yp ∧ vq = yq := by simpa using f4 _ _ _ _ _ (Prod.ext rfl zi) (e9.trans (Prod.ext rfl zj)) (Prod.ext rfl zk) (Prod.ext rfl z2) (e11.trans (Prod.ext rfl zl))
    exact runO tok mixed [61, 63, 70, 72, 49, 50] 300 6 (Obs.cons c1 (Obs.cons c2 (Obs.cons c3 (Obs.cons c4 (Obs.cons s1 (Obs.br 0 h1 (Obs.cons s2 (Obs.br 0 h2 (Obs.cons c5 (Obs.br 0 (eqT z1) (Obs.br 0 (eqT y1) (Obs.cons sa (Obs.cons c6 (Obs.br 0 (eqT z2) (Obs.br 0 (eqT zz) (Obs.cons sa (Obs.cons c7 (Obs.br 0 (eqF z3) (Obs.cons c8 (Obs.cons c9 (Obs.cons c10 (Obs.cons c11 (Obs.br 0 (eqT z2) (Obs.br 0 (eqT zi) (Obs.br 0 (eqT zj) (Obs.br 0 (eqT zk) (Obs.br 0 (eqT zl) (Obs.cons sy (Obs.cons awake03.c Obs.nil))))))))))))))))))))))))))))) (by kernel_rfl)
  · obtain rfl : x3 = ⟨false, [], [1]⟩ := f3 _ (by rw [z3])
    by_cases zi : i = 0
    rotate_left
    · exact runO tok mixed [61, 63, 70, 72, 49, 50] 300 6 (Obs.cons c1 (Obs.cons c2 (Obs.cons c3 (Obs.cons c4 (Obs.cons s1 (Obs.br 0 h1 (Obs.cons s2 (Obs.br 0 h2 (Obs.cons c5 (Obs.br 0 (eqT z1) (Obs.br 0 (eqT y1) (Obs.cons sa (Obs.cons c6 (Obs.br 0 (eqT z2) (Obs.br 0 (eqT zz) (Obs.cons sa (Obs.cons c7 (Obs.br 0 (eqT z3) (Obs.cons c8 (Obs.cons c9 (Obs.cons c10 (Obs.cons c11 (Obs.br 0 (eqT z2) (Obs.br 0 (eqF zi) (Obs.cons awake03.c Obs.nil))))))))))))))))))))))))) (by kernel_rfl)
    by_cases zj : j = 0
    rotate_left
    · exact runO tok mixed [61, 63, 70, 72, 49, 50] 300 6 (Obs.cons c1 (Obs.cons c2 (Obs.cons c3 (Obs.cons c4 (Obs.cons s1 (Obs.br 0 h1 (Obs.cons s2 (Obs.br 0 h2 (Obs.cons c5 (Obs.br 0 (eqT z1) (Obs.br 0 (eqT y1) (Obs.cons sa (Obs.cons c6 (Obs.br 0 (eqT z2) (Obs.br 0 (eqT zz) (Obs.cons sa (Obs.cons c7 (Obs.br 0 (eqT z3) (Obs.cons c8 (Obs.cons c9 (Obs.cons c10 (Obs.cons c11 (Obs.br 0 (eqT z2) (Obs.br 0 (eqT zi) (Obs.br 0 (eqF zj) (Obs.cons awake03.c Obs.nil)))))))))))))))))))))))))) (by kernel_rfl)
    by_cases zk : k = 0
    rotate_left
    · exact runO tok mixed [61, 63, 70, 72, 49, 50] 300 6 (Obs.cons c1 (Obs.cons c2 (Obs.cons c3 (Obs.cons c4 (Obs.cons s1 (Obs.br 0 h1 (Obs.cons s2 (Obs.br 0 h2 (Obs.cons c5 (Obs.br 0 (eqT z1) (Obs.br 0 (eqT y1) (Obs.cons sa (Obs.cons c6 (Obs.br 0 (eqT z2) (Obs.br 0 (eqT zz) (Obs.cons sa (Obs.cons c7 (Obs.br 0 (eqT z3) (Obs.cons c8 (Obs.cons c9 (Obs.cons c10 (Obs.cons c11 (Obs.br 0 (eqT z2) (Obs.br 0 (eqT zi) (Obs.br 0 (eqT zj) (Obs.br 0 (eqF zk) (Obs.cons awake03.c Obs.nil))))))))))))))))))))))))))) (by kernel_rfl)
    by_cases zl : l = 0
    rotate_left
    · exact runO tok mixed [61, 63, 70, 72, 49, 50] 300 6 (Obs.cons c1 (Obs.cons c2 (Obs.cons c3 (Obs.cons c4 (Obs.cons s1 (Obs.br 0 h1 (Obs.cons s2 (Obs.br 0 h2 (Obs.cons c5 (Obs.br 0 (eqT z1) (Obs.br 0 (eqT y1) (Obs.cons sa (Obs.cons c6 (Obs.br 0 (eqT z2) (Obs.br 0 (eqT zz) (Obs.cons sa (Obs.cons c7 (Obs.br 0 (eqT z3) (Obs.cons c8 (Obs.cons c9 (Obs.cons c10 (Obs.cons c11 (Obs.br 0 (eqT z2) (Obs.br 0 (eqT zi) (Obs.br 0 (eqT zj) (Obs.br 0 (eqT zk) (Obs.br 0 (eqF zl) (Obs.cons awake03.c Obs.nil)))))))))))))))))))))))))))) (by kernel_rfl)
    obtain ⟨rfl, rfl, rfl⟩ : vn = yn ∧ vp = yp ∧ vq = yq := by simpa using f4 _ _ _ _ _ (Prod.ext rfl zi) (e9.trans (Prod.ext rfl zj)) (Prod.ext rfl zk) (Prod.ext rfl z2) (e11.trans (Prod.ext rfl zl))
    exact runO tok mixed [61, 63, 70, 72, 49, 50] 300 6 (Obs.cons c1 (Obs.cons c2 (Obs.cons c3 (Obs.cons c4 (Obs.cons s1 (Obs.br 0 h1 (Obs.cons s2 (Obs.br 0 h2 (Obs.cons c5 (Obs.br 0 (eqT z1) (Obs.br 0 (eqT y1) (Obs.cons sa (Obs.cons c6 (Obs.br 0 (eqT z2) (Obs.br 0 (eqT zz) (Obs.cons sa (Obs.cons c7 (Obs.br 0 (eqT z3) (Obs.cons c8 (Obs.cons c9 (Obs.cons c10 (Obs.cons c11 (Obs.br 0 (eqT z2) (Obs.br 0 (eqT zi) (Obs.br 0 (eqT zj) (Obs.br 0 (eqT zk) (Obs.br 0 (eqT zl) (Obs.cons sy (Obs.cons awake03.c Obs.nil))))))))))))))))))))))))))))) (by kernel_rfl)
theorem RatField.c (a b c : Rt) : Sound Tryd.prog 18 [R a, R b, R c] (B true) := by
  by_cases z1 : (addR a b).2 = 0 <;> by_cases y1 : (subR (addR a b).1 b).2 = 0 <;> by_cases z2 : (mulR a b).2 = 0 <;> by_cases zz : (divR (mulR a b).1 b).2 = 0
  all_goals first
  | exact RatField_00 a b c z1 z2
  | exact RatField_01 a b c z1 z2 zz
  | exact RatField_02 a b c z1 z2 zz
  | exact RatField_10 a b c z1 y1 z2
  | exact RatField_11 a b c z1 y1 z2 zz
  | exact RatField_12 a b c z1 y1 z2 zz
  | exact RatField_20 a b c z1 y1 z2
  | exact RatField_21 a b c z1 y1 z2 zz
  | exact RatField_22 a b c z1 y1 z2 zz
end Go.Proofs.YtalklhbdpmggjaaDoor.Pw
