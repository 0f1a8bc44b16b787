/- The functions of the program as functions of values, part 11: a proof's lemmas, with no condition of their own. -/
import Derived.Test.YtiondkijgpjgcaaSai
set_option linter.unusedVariables false
set_option linter.unusedSimpArgs false
namespace Go.Proofs.Ytiondkijgpjgcaa.Pw
open Go Wd Px Mat
set_option linter.unusedVariables false
set_option linter.unusedSimpArgs false
set_option maxRecDepth 100000
set_option maxHeartbeats 8000000
attribute [local irreducible] Int.tmod Int.tdiv
theorem q0 : Sound Try.prog 12 [LPv ⟨[-1], [], []⟩] (I 0) := by
  have h := sx_Check.c ⟨[-1], [], []⟩
  rw [show chkS ⟨[-1], [], []⟩ = 0 by decide] at h
  exact h
theorem q1 : Sound Try.prog 46 [I 0] (R ⟨false, [], [1]⟩) := by
  have h := sx_number.c 0
  rw [show numR 0 = ⟨false, [], [1]⟩ from congrArg Prod.fst (make_lit (p := 0) (q := 1) (z := ⟨false, [], [1]⟩) (by decide) (by decide) (by decide) (by decide) (by decide))] at h
  exact h
theorem q2 : Sound Try.prog 46 [I (-1)] (R ⟨true, [1], [1]⟩) := by
  have h := sx_number.c (-1)
  rw [show numR (-1) = ⟨true, [1], [1]⟩ from congrArg Prod.fst (make_lit (p := (-1)) (q := 1) (z := ⟨true, [1], [1]⟩) (by decide) (by decide) (by decide) (by decide) (by decide))] at h
  exact h
theorem solve2.c : Sound Try.prog 19 [LPv ⟨[-1], [], []⟩] (.tup [.agg [B false, N [], N [], N [], N []], I 26]) := runO tok mixed [12, 46] 4000 12 (Obs.cons q0 (Obs.cons q1 (Obs.cons q1 (Obs.cons q1 (Obs.cons q1 (Obs.cons q2 Obs.nil)))))) (by kernel_rfl)
theorem q3 : Sound Try.prog 12 [LPv ⟨[1], [[0]], [1]⟩] (I 0) := by
  have h := sx_Check.c ⟨[1], [[0]], [1]⟩
  rw [show chkS ⟨[1], [[0]], [1]⟩ = 0 by decide] at h
  exact h
theorem q4 : Sound Try.prog 46 [I 1] (R ⟨false, [1], [1]⟩) := by
  have h := sx_number.c 1
  rw [show numR 1 = ⟨false, [1], [1]⟩ from congrArg Prod.fst (make_lit (p := 1) (q := 1) (z := ⟨false, [1], [1]⟩) (by decide) (by decide) (by decide) (by decide) (by decide))] at h
  exact h
theorem q5 : Sound Try.prog 61 [R ⟨false, [1], [1]⟩, R ⟨true, [1], [1]⟩] (.tup [R ⟨true, [1], [1]⟩, I 0]) := by
  have h := rat_Mul.c ⟨false, [1], [1]⟩ ⟨true, [1], [1]⟩
  rw [mul_lit (x := ⟨false, [1], [1]⟩) (y := ⟨true, [1], [1]⟩) (z := ⟨true, [1], [1]⟩) (by decide) (by decide) (by decide) (by decide)] at h
  exact h
theorem q6 : Sound Try.prog 91 [R ⟨false, [], [1]⟩, R ⟨true, [1], [1]⟩] (.tup [R ⟨false, [1], [1]⟩, I 0]) := by
  have h := rat_Sub.c ⟨false, [], [1]⟩ ⟨true, [1], [1]⟩
  rw [sub_lit (x := ⟨false, [], [1]⟩) (y := ⟨true, [1], [1]⟩) (z := ⟨false, [1], [1]⟩) (by decide) (by decide) (by decide) (by decide)] at h
  exact h
theorem q7 : Sound Try.prog 61 [R ⟨false, [1], [1]⟩, R ⟨false, [1], [1]⟩] (.tup [R ⟨false, [1], [1]⟩, I 0]) := by
  have h := rat_Mul.c ⟨false, [1], [1]⟩ ⟨false, [1], [1]⟩
  rw [mul_lit (x := ⟨false, [1], [1]⟩) (y := ⟨false, [1], [1]⟩) (z := ⟨false, [1], [1]⟩) (by decide) (by decide) (by decide) (by decide)] at h
  exact h
theorem q8 : Sound Try.prog 91 [R ⟨false, [], [1]⟩, R ⟨false, [1], [1]⟩] (.tup [R ⟨true, [1], [1]⟩, I 0]) := by
  have h := rat_Sub.c ⟨false, [], [1]⟩ ⟨false, [1], [1]⟩
  rw [sub_lit (x := ⟨false, [], [1]⟩) (y := ⟨false, [1], [1]⟩) (z := ⟨true, [1], [1]⟩) (by decide) (by decide) (by decide) (by decide)] at h
  exact h
theorem solve3.c : Sound Try.prog 19 [LPv ⟨[1], [[0]], [1]⟩] (.tup [.agg [B false, N [], N [], N [], N []], I 25]) := runO tok mixed [12, 46, 61, 91] 4000 12 (Obs.cons q3 (Obs.cons q1 (Obs.cons q1 (Obs.cons q1 (Obs.cons q1 (Obs.cons q1 (Obs.cons q1 (Obs.cons q1 (Obs.cons q1 (Obs.cons q1 (Obs.cons q2 (Obs.cons q4 (Obs.cons q4 (Obs.cons q5 (Obs.cons q6 (Obs.cons q7 (Obs.cons q8 (Obs.cons q4 Obs.nil)))))))))))))))))) (by kernel_rfl)
theorem q9 : Sound Try.prog 12 [LPv ⟨[1, 1], [[2, 1], [1, 3]], [3, 4]⟩] (I 0) := by
  have h := sx_Check.c ⟨[1, 1], [[2, 1], [1, 3]], [3, 4]⟩
  rw [show chkS ⟨[1, 1], [[2, 1], [1, 3]], [3, 4]⟩ = 0 by decide] at h
  exact h
theorem q10 : Sound Try.prog 46 [I 2] (R ⟨false, [2], [1]⟩) := by
  have h := sx_number.c 2
  rw [show numR 2 = ⟨false, [2], [1]⟩ from congrArg Prod.fst (make_lit (p := 2) (q := 1) (z := ⟨false, [2], [1]⟩) (by decide) (by decide) (by decide) (by decide) (by decide))] at h
  exact h
theorem q11 : Sound Try.prog 46 [I 3] (R ⟨false, [3], [1]⟩) := by
  have h := sx_number.c 3
  rw [show numR 3 = ⟨false, [3], [1]⟩ from congrArg Prod.fst (make_lit (p := 3) (q := 1) (z := ⟨false, [3], [1]⟩) (by decide) (by decide) (by decide) (by decide) (by decide))] at h
  exact h
theorem q12 : Sound Try.prog 61 [R ⟨false, [1], [1]⟩, R ⟨false, [2], [1]⟩] (.tup [R ⟨false, [2], [1]⟩, I 0]) := by
  have h := rat_Mul.c ⟨false, [1], [1]⟩ ⟨false, [2], [1]⟩
  rw [mul_lit (x := ⟨false, [1], [1]⟩) (y := ⟨false, [2], [1]⟩) (z := ⟨false, [2], [1]⟩) (by decide) (by decide) (by decide) (by decide)] at h
  exact h
theorem q13 : Sound Try.prog 91 [R ⟨false, [], [1]⟩, R ⟨false, [2], [1]⟩] (.tup [R ⟨true, [2], [1]⟩, I 0]) := by
  have h := rat_Sub.c ⟨false, [], [1]⟩ ⟨false, [2], [1]⟩
  rw [sub_lit (x := ⟨false, [], [1]⟩) (y := ⟨false, [2], [1]⟩) (z := ⟨true, [2], [1]⟩) (by decide) (by decide) (by decide) (by decide)] at h
  exact h
theorem q14 : Sound Try.prog 61 [R ⟨false, [1], [1]⟩, R ⟨false, [3], [1]⟩] (.tup [R ⟨false, [3], [1]⟩, I 0]) := by
  have h := rat_Mul.c ⟨false, [1], [1]⟩ ⟨false, [3], [1]⟩
  rw [mul_lit (x := ⟨false, [1], [1]⟩) (y := ⟨false, [3], [1]⟩) (z := ⟨false, [3], [1]⟩) (by decide) (by decide) (by decide) (by decide)] at h
  exact h
theorem q15 : Sound Try.prog 91 [R ⟨false, [], [1]⟩, R ⟨false, [3], [1]⟩] (.tup [R ⟨true, [3], [1]⟩, I 0]) := by
  have h := rat_Sub.c ⟨false, [], [1]⟩ ⟨false, [3], [1]⟩
  rw [sub_lit (x := ⟨false, [], [1]⟩) (y := ⟨false, [3], [1]⟩) (z := ⟨true, [3], [1]⟩) (by decide) (by decide) (by decide) (by decide)] at h
  exact h
theorem q16 : Sound Try.prog 46 [I 4] (R ⟨false, [4], [1]⟩) := by
  have h := sx_number.c 4
  rw [show numR 4 = ⟨false, [4], [1]⟩ from congrArg Prod.fst (make_lit (p := 4) (q := 1) (z := ⟨false, [4], [1]⟩) (by decide) (by decide) (by decide) (by decide) (by decide))] at h
  exact h
theorem q17 : Sound Try.prog 91 [R ⟨true, [2], [1]⟩, R ⟨false, [1], [1]⟩] (.tup [R ⟨true, [3], [1]⟩, I 0]) := by
  have h := rat_Sub.c ⟨true, [2], [1]⟩ ⟨false, [1], [1]⟩
  rw [sub_lit (x := ⟨true, [2], [1]⟩) (y := ⟨false, [1], [1]⟩) (z := ⟨true, [3], [1]⟩) (by decide) (by decide) (by decide) (by decide)] at h
  exact h
theorem q18 : Sound Try.prog 91 [R ⟨true, [1], [1]⟩, R ⟨false, [3], [1]⟩] (.tup [R ⟨true, [4], [1]⟩, I 0]) := by
  have h := rat_Sub.c ⟨true, [1], [1]⟩ ⟨false, [3], [1]⟩
  rw [sub_lit (x := ⟨true, [1], [1]⟩) (y := ⟨false, [3], [1]⟩) (z := ⟨true, [4], [1]⟩) (by decide) (by decide) (by decide) (by decide)] at h
  exact h
theorem q19 : Sound Try.prog 61 [R ⟨false, [1], [1]⟩, R ⟨false, [4], [1]⟩] (.tup [R ⟨false, [4], [1]⟩, I 0]) := by
  have h := rat_Mul.c ⟨false, [1], [1]⟩ ⟨false, [4], [1]⟩
  rw [mul_lit (x := ⟨false, [1], [1]⟩) (y := ⟨false, [4], [1]⟩) (z := ⟨false, [4], [1]⟩) (by decide) (by decide) (by decide) (by decide)] at h
  exact h
theorem q20 : Sound Try.prog 91 [R ⟨true, [3], [1]⟩, R ⟨false, [4], [1]⟩] (.tup [R ⟨true, [7], [1]⟩, I 0]) := by
  have h := rat_Sub.c ⟨true, [3], [1]⟩ ⟨false, [4], [1]⟩
  rw [sub_lit (x := ⟨true, [3], [1]⟩) (y := ⟨false, [4], [1]⟩) (z := ⟨true, [7], [1]⟩) (by decide) (by decide) (by decide) (by decide)] at h
  exact h
theorem q21 : Sound Try.prog 92 [R ⟨false, [3], [1]⟩, R ⟨false, [2], [1]⟩] (.tup [R ⟨false, [3], [2]⟩, I 0]) := by
  have h := rat_Div.c ⟨false, [3], [1]⟩ ⟨false, [2], [1]⟩
  rw [div_lit (x := ⟨false, [3], [1]⟩) (y := ⟨false, [2], [1]⟩) (z := ⟨false, [3], [2]⟩) (by decide) (by decide) (by decide) (by decide) (by decide) (by decide)] at h
  exact h
theorem q22 : Sound Try.prog 92 [R ⟨false, [4], [1]⟩, R ⟨false, [1], [1]⟩] (.tup [R ⟨false, [4], [1]⟩, I 0]) := by
  have h := rat_Div.c ⟨false, [4], [1]⟩ ⟨false, [1], [1]⟩
  rw [div_lit (x := ⟨false, [4], [1]⟩) (y := ⟨false, [1], [1]⟩) (z := ⟨false, [4], [1]⟩) (by decide) (by decide) (by decide) (by decide) (by decide) (by decide)] at h
  exact h
theorem q23 : Sound Try.prog 37 [R ⟨false, [4], [1]⟩, R ⟨false, [3], [2]⟩] (.tup [I 1, I 0]) := by
  have h := rat_Cmp.c ⟨false, [4], [1]⟩ ⟨false, [3], [2]⟩
  rw [cmp_lit (x := ⟨false, [4], [1]⟩) (y := ⟨false, [3], [2]⟩) (m := 1) (by decide) (by decide) (by decide)] at h
  exact h
theorem q24 : Sound Try.prog 92 [R ⟨false, [2], [1]⟩, R ⟨false, [2], [1]⟩] (.tup [R ⟨false, [1], [1]⟩, I 0]) := by
  have h := rat_Div.c ⟨false, [2], [1]⟩ ⟨false, [2], [1]⟩
  rw [div_lit (x := ⟨false, [2], [1]⟩) (y := ⟨false, [2], [1]⟩) (z := ⟨false, [1], [1]⟩) (by decide) (by decide) (by decide) (by decide) (by decide) (by decide)] at h
  exact h
theorem q25 : Sound Try.prog 92 [R ⟨false, [1], [1]⟩, R ⟨false, [2], [1]⟩] (.tup [R ⟨false, [1], [2]⟩, I 0]) := by
  have h := rat_Div.c ⟨false, [1], [1]⟩ ⟨false, [2], [1]⟩
  rw [div_lit (x := ⟨false, [1], [1]⟩) (y := ⟨false, [2], [1]⟩) (z := ⟨false, [1], [2]⟩) (by decide) (by decide) (by decide) (by decide) (by decide) (by decide)] at h
  exact h
theorem q26 : Sound Try.prog 92 [R ⟨true, [1], [1]⟩, R ⟨false, [2], [1]⟩] (.tup [R ⟨true, [1], [2]⟩, I 0]) := by
  have h := rat_Div.c ⟨true, [1], [1]⟩ ⟨false, [2], [1]⟩
  rw [div_lit (x := ⟨true, [1], [1]⟩) (y := ⟨false, [2], [1]⟩) (z := ⟨true, [1], [2]⟩) (by decide) (by decide) (by decide) (by decide) (by decide) (by decide)] at h
  exact h
theorem q27 : Sound Try.prog 91 [R ⟨false, [1], [1]⟩, R ⟨false, [1], [1]⟩] (.tup [R ⟨false, [], [1]⟩, I 0]) := by
  have h := rat_Sub.c ⟨false, [1], [1]⟩ ⟨false, [1], [1]⟩
  rw [sub_lit (x := ⟨false, [1], [1]⟩) (y := ⟨false, [1], [1]⟩) (z := ⟨false, [], [1]⟩) (by decide) (by decide) (by decide) (by decide)] at h
  exact h
theorem q28 : Sound Try.prog 61 [R ⟨false, [1], [1]⟩, R ⟨false, [1], [2]⟩] (.tup [R ⟨false, [1], [2]⟩, I 0]) := by
  have h := rat_Mul.c ⟨false, [1], [1]⟩ ⟨false, [1], [2]⟩
  rw [mul_lit (x := ⟨false, [1], [1]⟩) (y := ⟨false, [1], [2]⟩) (z := ⟨false, [1], [2]⟩) (by decide) (by decide) (by decide) (by decide)] at h
  exact h
theorem q29 : Sound Try.prog 91 [R ⟨false, [3], [1]⟩, R ⟨false, [1], [2]⟩] (.tup [R ⟨false, [5], [2]⟩, I 0]) := by
  have h := rat_Sub.c ⟨false, [3], [1]⟩ ⟨false, [1], [2]⟩
  rw [sub_lit (x := ⟨false, [3], [1]⟩) (y := ⟨false, [1], [2]⟩) (z := ⟨false, [5], [2]⟩) (by decide) (by decide) (by decide) (by decide)] at h
  exact h
theorem q30 : Sound Try.prog 61 [R ⟨false, [1], [1]⟩, R ⟨true, [1], [2]⟩] (.tup [R ⟨true, [1], [2]⟩, I 0]) := by
  have h := rat_Mul.c ⟨false, [1], [1]⟩ ⟨true, [1], [2]⟩
  rw [mul_lit (x := ⟨false, [1], [1]⟩) (y := ⟨true, [1], [2]⟩) (z := ⟨true, [1], [2]⟩) (by decide) (by decide) (by decide) (by decide)] at h
  exact h
theorem q31 : Sound Try.prog 91 [R ⟨false, [], [1]⟩, R ⟨true, [1], [2]⟩] (.tup [R ⟨false, [1], [2]⟩, I 0]) := by
  have h := rat_Sub.c ⟨false, [], [1]⟩ ⟨true, [1], [2]⟩
  rw [sub_lit (x := ⟨false, [], [1]⟩) (y := ⟨true, [1], [2]⟩) (z := ⟨false, [1], [2]⟩) (by decide) (by decide) (by decide) (by decide)] at h
  exact h
theorem q32 : Sound Try.prog 91 [R ⟨false, [], [1]⟩, R ⟨false, [1], [2]⟩] (.tup [R ⟨true, [1], [2]⟩, I 0]) := by
  have h := rat_Sub.c ⟨false, [], [1]⟩ ⟨false, [1], [2]⟩
  rw [sub_lit (x := ⟨false, [], [1]⟩) (y := ⟨false, [1], [2]⟩) (z := ⟨true, [1], [2]⟩) (by decide) (by decide) (by decide) (by decide)] at h
  exact h
theorem q33 : Sound Try.prog 61 [R ⟨false, [1], [1]⟩, R ⟨false, [3], [2]⟩] (.tup [R ⟨false, [3], [2]⟩, I 0]) := by
  have h := rat_Mul.c ⟨false, [1], [1]⟩ ⟨false, [3], [2]⟩
  rw [mul_lit (x := ⟨false, [1], [1]⟩) (y := ⟨false, [3], [2]⟩) (z := ⟨false, [3], [2]⟩) (by decide) (by decide) (by decide) (by decide)] at h
  exact h
theorem q34 : Sound Try.prog 91 [R ⟨false, [4], [1]⟩, R ⟨false, [3], [2]⟩] (.tup [R ⟨false, [5], [2]⟩, I 0]) := by
  have h := rat_Sub.c ⟨false, [4], [1]⟩ ⟨false, [3], [2]⟩
  rw [sub_lit (x := ⟨false, [4], [1]⟩) (y := ⟨false, [3], [2]⟩) (z := ⟨false, [5], [2]⟩) (by decide) (by decide) (by decide) (by decide)] at h
  exact h
theorem q35 : Sound Try.prog 61 [R ⟨true, [3], [1]⟩, R ⟨false, [1], [1]⟩] (.tup [R ⟨true, [3], [1]⟩, I 0]) := by
  have h := rat_Mul.c ⟨true, [3], [1]⟩ ⟨false, [1], [1]⟩
  rw [mul_lit (x := ⟨true, [3], [1]⟩) (y := ⟨false, [1], [1]⟩) (z := ⟨true, [3], [1]⟩) (by decide) (by decide) (by decide) (by decide)] at h
  exact h
theorem q36 : Sound Try.prog 91 [R ⟨true, [3], [1]⟩, R ⟨true, [3], [1]⟩] (.tup [R ⟨false, [], [1]⟩, I 0]) := by
  have h := rat_Sub.c ⟨true, [3], [1]⟩ ⟨true, [3], [1]⟩
  rw [sub_lit (x := ⟨true, [3], [1]⟩) (y := ⟨true, [3], [1]⟩) (z := ⟨false, [], [1]⟩) (by decide) (by decide) (by decide) (by decide)] at h
  exact h
theorem q37 : Sound Try.prog 61 [R ⟨true, [3], [1]⟩, R ⟨false, [1], [2]⟩] (.tup [R ⟨true, [3], [2]⟩, I 0]) := by
  have h := rat_Mul.c ⟨true, [3], [1]⟩ ⟨false, [1], [2]⟩
  rw [mul_lit (x := ⟨true, [3], [1]⟩) (y := ⟨false, [1], [2]⟩) (z := ⟨true, [3], [2]⟩) (by decide) (by decide) (by decide) (by decide)] at h
  exact h
theorem q38 : Sound Try.prog 91 [R ⟨true, [4], [1]⟩, R ⟨true, [3], [2]⟩] (.tup [R ⟨true, [5], [2]⟩, I 0]) := by
  have h := rat_Sub.c ⟨true, [4], [1]⟩ ⟨true, [3], [2]⟩
  rw [sub_lit (x := ⟨true, [4], [1]⟩) (y := ⟨true, [3], [2]⟩) (z := ⟨true, [5], [2]⟩) (by decide) (by decide) (by decide) (by decide)] at h
  exact h
theorem q39 : Sound Try.prog 61 [R ⟨true, [3], [1]⟩, R ⟨true, [1], [2]⟩] (.tup [R ⟨false, [3], [2]⟩, I 0]) := by
  have h := rat_Mul.c ⟨true, [3], [1]⟩ ⟨true, [1], [2]⟩
  rw [mul_lit (x := ⟨true, [3], [1]⟩) (y := ⟨true, [1], [2]⟩) (z := ⟨false, [3], [2]⟩) (by decide) (by decide) (by decide) (by decide)] at h
  exact h
theorem q40 : Sound Try.prog 91 [R ⟨false, [1], [1]⟩, R ⟨false, [3], [2]⟩] (.tup [R ⟨true, [1], [2]⟩, I 0]) := by
  have h := rat_Sub.c ⟨false, [1], [1]⟩ ⟨false, [3], [2]⟩
  rw [sub_lit (x := ⟨false, [1], [1]⟩) (y := ⟨false, [3], [2]⟩) (z := ⟨true, [1], [2]⟩) (by decide) (by decide) (by decide) (by decide)] at h
  exact h
theorem q41 : Sound Try.prog 91 [R ⟨false, [], [1]⟩, R ⟨true, [3], [2]⟩] (.tup [R ⟨false, [3], [2]⟩, I 0]) := by
  have h := rat_Sub.c ⟨false, [], [1]⟩ ⟨true, [3], [2]⟩
  rw [sub_lit (x := ⟨false, [], [1]⟩) (y := ⟨true, [3], [2]⟩) (z := ⟨false, [3], [2]⟩) (by decide) (by decide) (by decide) (by decide)] at h
  exact h
theorem q42 : Sound Try.prog 61 [R ⟨true, [3], [1]⟩, R ⟨false, [3], [2]⟩] (.tup [R ⟨true, [9], [2]⟩, I 0]) := by
  have h := rat_Mul.c ⟨true, [3], [1]⟩ ⟨false, [3], [2]⟩
  rw [mul_lit (x := ⟨true, [3], [1]⟩) (y := ⟨false, [3], [2]⟩) (z := ⟨true, [9], [2]⟩) (by decide) (by decide) (by decide) (by decide)] at h
  exact h
theorem q43 : Sound Try.prog 91 [R ⟨true, [7], [1]⟩, R ⟨true, [9], [2]⟩] (.tup [R ⟨true, [5], [2]⟩, I 0]) := by
  have h := rat_Sub.c ⟨true, [7], [1]⟩ ⟨true, [9], [2]⟩
  rw [sub_lit (x := ⟨true, [7], [1]⟩) (y := ⟨true, [9], [2]⟩) (z := ⟨true, [5], [2]⟩) (by decide) (by decide) (by decide) (by decide)] at h
  exact h
theorem q44 : Sound Try.prog 92 [R ⟨false, [3], [2]⟩, R ⟨false, [1], [2]⟩] (.tup [R ⟨false, [3], [1]⟩, I 0]) := by
  have h := rat_Div.c ⟨false, [3], [2]⟩ ⟨false, [1], [2]⟩
  rw [div_lit (x := ⟨false, [3], [2]⟩) (y := ⟨false, [1], [2]⟩) (z := ⟨false, [3], [1]⟩) (by decide) (by decide) (by decide) (by decide) (by decide) (by decide)] at h
  exact h
theorem q45 : Sound Try.prog 92 [R ⟨false, [5], [2]⟩, R ⟨false, [5], [2]⟩] (.tup [R ⟨false, [1], [1]⟩, I 0]) := by
  have h := rat_Div.c ⟨false, [5], [2]⟩ ⟨false, [5], [2]⟩
  rw [div_lit (x := ⟨false, [5], [2]⟩) (y := ⟨false, [5], [2]⟩) (z := ⟨false, [1], [1]⟩) (by decide) (by decide) (by decide) (by decide) (by decide) (by decide)] at h
  exact h
theorem q46 : Sound Try.prog 37 [R ⟨false, [1], [1]⟩, R ⟨false, [3], [1]⟩] (.tup [I (-1), I 0]) := by
  have h := rat_Cmp.c ⟨false, [1], [1]⟩ ⟨false, [3], [1]⟩
  rw [cmp_lit (x := ⟨false, [1], [1]⟩) (y := ⟨false, [3], [1]⟩) (m := (-1)) (by decide) (by decide) (by decide)] at h
  exact h
theorem q47 : Sound Try.prog 92 [R ⟨false, [1], [2]⟩, R ⟨false, [5], [2]⟩] (.tup [R ⟨false, [1], [5]⟩, I 0]) := by
  have h := rat_Div.c ⟨false, [1], [2]⟩ ⟨false, [5], [2]⟩
  rw [div_lit (x := ⟨false, [1], [2]⟩) (y := ⟨false, [5], [2]⟩) (z := ⟨false, [1], [5]⟩) (by decide) (by decide) (by decide) (by decide) (by decide) (by decide)] at h
  exact h
theorem q48 : Sound Try.prog 92 [R ⟨true, [1], [1]⟩, R ⟨false, [5], [2]⟩] (.tup [R ⟨true, [2], [5]⟩, I 0]) := by
  have h := rat_Div.c ⟨true, [1], [1]⟩ ⟨false, [5], [2]⟩
  rw [div_lit (x := ⟨true, [1], [1]⟩) (y := ⟨false, [5], [2]⟩) (z := ⟨true, [2], [5]⟩) (by decide) (by decide) (by decide) (by decide) (by decide) (by decide)] at h
  exact h
theorem q49 : Sound Try.prog 92 [R ⟨true, [1], [2]⟩, R ⟨false, [5], [2]⟩] (.tup [R ⟨true, [1], [5]⟩, I 0]) := by
  have h := rat_Div.c ⟨true, [1], [2]⟩ ⟨false, [5], [2]⟩
  rw [div_lit (x := ⟨true, [1], [2]⟩) (y := ⟨false, [5], [2]⟩) (z := ⟨true, [1], [5]⟩) (by decide) (by decide) (by decide) (by decide) (by decide) (by decide)] at h
  exact h
theorem q50 : Sound Try.prog 92 [R ⟨false, [1], [1]⟩, R ⟨false, [5], [2]⟩] (.tup [R ⟨false, [2], [5]⟩, I 0]) := by
  have h := rat_Div.c ⟨false, [1], [1]⟩ ⟨false, [5], [2]⟩
  rw [div_lit (x := ⟨false, [1], [1]⟩) (y := ⟨false, [5], [2]⟩) (z := ⟨false, [2], [5]⟩) (by decide) (by decide) (by decide) (by decide) (by decide) (by decide)] at h
  exact h
theorem q51 : Sound Try.prog 61 [R ⟨false, [1], [2]⟩, R ⟨false, [1], [1]⟩] (.tup [R ⟨false, [1], [2]⟩, I 0]) := by
  have h := rat_Mul.c ⟨false, [1], [2]⟩ ⟨false, [1], [1]⟩
  rw [mul_lit (x := ⟨false, [1], [2]⟩) (y := ⟨false, [1], [1]⟩) (z := ⟨false, [1], [2]⟩) (by decide) (by decide) (by decide) (by decide)] at h
  exact h
theorem q52 : Sound Try.prog 91 [R ⟨false, [1], [2]⟩, R ⟨false, [1], [2]⟩] (.tup [R ⟨false, [], [1]⟩, I 0]) := by
  have h := rat_Sub.c ⟨false, [1], [2]⟩ ⟨false, [1], [2]⟩
  rw [sub_lit (x := ⟨false, [1], [2]⟩) (y := ⟨false, [1], [2]⟩) (z := ⟨false, [], [1]⟩) (by decide) (by decide) (by decide) (by decide)] at h
  exact h
theorem q53 : Sound Try.prog 61 [R ⟨false, [1], [2]⟩, R ⟨false, [1], [5]⟩] (.tup [R ⟨false, [1], [10]⟩, I 0]) := by
  have h := rat_Mul.c ⟨false, [1], [2]⟩ ⟨false, [1], [5]⟩
  rw [mul_lit (x := ⟨false, [1], [2]⟩) (y := ⟨false, [1], [5]⟩) (z := ⟨false, [1], [10]⟩) (by decide) (by decide) (by decide) (by decide)] at h
  exact h
theorem q54 : Sound Try.prog 91 [R ⟨true, [1], [2]⟩, R ⟨false, [1], [10]⟩] (.tup [R ⟨true, [3], [5]⟩, I 0]) := by
  have h := rat_Sub.c ⟨true, [1], [2]⟩ ⟨false, [1], [10]⟩
  rw [sub_lit (x := ⟨true, [1], [2]⟩) (y := ⟨false, [1], [10]⟩) (z := ⟨true, [3], [5]⟩) (by decide) (by decide) (by decide) (by decide)] at h
  exact h
theorem q55 : Sound Try.prog 61 [R ⟨false, [1], [2]⟩, R ⟨true, [2], [5]⟩] (.tup [R ⟨true, [1], [5]⟩, I 0]) := by
  have h := rat_Mul.c ⟨false, [1], [2]⟩ ⟨true, [2], [5]⟩
  rw [mul_lit (x := ⟨false, [1], [2]⟩) (y := ⟨true, [2], [5]⟩) (z := ⟨true, [1], [5]⟩) (by decide) (by decide) (by decide) (by decide)] at h
  exact h
theorem q56 : Sound Try.prog 91 [R ⟨false, [], [1]⟩, R ⟨true, [1], [5]⟩] (.tup [R ⟨false, [1], [5]⟩, I 0]) := by
  have h := rat_Sub.c ⟨false, [], [1]⟩ ⟨true, [1], [5]⟩
  rw [sub_lit (x := ⟨false, [], [1]⟩) (y := ⟨true, [1], [5]⟩) (z := ⟨false, [1], [5]⟩) (by decide) (by decide) (by decide) (by decide)] at h
  exact h
theorem q57 : Sound Try.prog 61 [R ⟨false, [1], [2]⟩, R ⟨true, [1], [5]⟩] (.tup [R ⟨true, [1], [10]⟩, I 0]) := by
  have h := rat_Mul.c ⟨false, [1], [2]⟩ ⟨true, [1], [5]⟩
  rw [mul_lit (x := ⟨false, [1], [2]⟩) (y := ⟨true, [1], [5]⟩) (z := ⟨true, [1], [10]⟩) (by decide) (by decide) (by decide) (by decide)] at h
  exact h
theorem q58 : Sound Try.prog 91 [R ⟨false, [1], [2]⟩, R ⟨true, [1], [10]⟩] (.tup [R ⟨false, [3], [5]⟩, I 0]) := by
  have h := rat_Sub.c ⟨false, [1], [2]⟩ ⟨true, [1], [10]⟩
  rw [sub_lit (x := ⟨false, [1], [2]⟩) (y := ⟨true, [1], [10]⟩) (z := ⟨false, [3], [5]⟩) (by decide) (by decide) (by decide) (by decide)] at h
  exact h
theorem q59 : Sound Try.prog 61 [R ⟨false, [1], [2]⟩, R ⟨false, [2], [5]⟩] (.tup [R ⟨false, [1], [5]⟩, I 0]) := by
  have h := rat_Mul.c ⟨false, [1], [2]⟩ ⟨false, [2], [5]⟩
  rw [mul_lit (x := ⟨false, [1], [2]⟩) (y := ⟨false, [2], [5]⟩) (z := ⟨false, [1], [5]⟩) (by decide) (by decide) (by decide) (by decide)] at h
  exact h
theorem q60 : Sound Try.prog 91 [R ⟨false, [], [1]⟩, R ⟨false, [1], [5]⟩] (.tup [R ⟨true, [1], [5]⟩, I 0]) := by
  have h := rat_Sub.c ⟨false, [], [1]⟩ ⟨false, [1], [5]⟩
  rw [sub_lit (x := ⟨false, [], [1]⟩) (y := ⟨false, [1], [5]⟩) (z := ⟨true, [1], [5]⟩) (by decide) (by decide) (by decide) (by decide)] at h
  exact h
theorem q61 : Sound Try.prog 91 [R ⟨false, [3], [2]⟩, R ⟨false, [1], [2]⟩] (.tup [R ⟨false, [1], [1]⟩, I 0]) := by
  have h := rat_Sub.c ⟨false, [3], [2]⟩ ⟨false, [1], [2]⟩
  rw [sub_lit (x := ⟨false, [3], [2]⟩) (y := ⟨false, [1], [2]⟩) (z := ⟨false, [1], [1]⟩) (by decide) (by decide) (by decide) (by decide)] at h
  exact h
theorem q62 : Sound Try.prog 61 [R ⟨true, [5], [2]⟩, R ⟨false, [1], [1]⟩] (.tup [R ⟨true, [5], [2]⟩, I 0]) := by
  have h := rat_Mul.c ⟨true, [5], [2]⟩ ⟨false, [1], [1]⟩
  rw [mul_lit (x := ⟨true, [5], [2]⟩) (y := ⟨false, [1], [1]⟩) (z := ⟨true, [5], [2]⟩) (by decide) (by decide) (by decide) (by decide)] at h
  exact h
theorem q63 : Sound Try.prog 91 [R ⟨true, [5], [2]⟩, R ⟨true, [5], [2]⟩] (.tup [R ⟨false, [], [1]⟩, I 0]) := by
  have h := rat_Sub.c ⟨true, [5], [2]⟩ ⟨true, [5], [2]⟩
  rw [sub_lit (x := ⟨true, [5], [2]⟩) (y := ⟨true, [5], [2]⟩) (z := ⟨false, [], [1]⟩) (by decide) (by decide) (by decide) (by decide)] at h
  exact h
theorem q64 : Sound Try.prog 61 [R ⟨true, [5], [2]⟩, R ⟨false, [1], [5]⟩] (.tup [R ⟨true, [1], [2]⟩, I 0]) := by
  have h := rat_Mul.c ⟨true, [5], [2]⟩ ⟨false, [1], [5]⟩
  rw [mul_lit (x := ⟨true, [5], [2]⟩) (y := ⟨false, [1], [5]⟩) (z := ⟨true, [1], [2]⟩) (by decide) (by decide) (by decide) (by decide)] at h
  exact h
theorem q65 : Sound Try.prog 91 [R ⟨true, [1], [2]⟩, R ⟨true, [1], [2]⟩] (.tup [R ⟨false, [], [1]⟩, I 0]) := by
  have h := rat_Sub.c ⟨true, [1], [2]⟩ ⟨true, [1], [2]⟩
  rw [sub_lit (x := ⟨true, [1], [2]⟩) (y := ⟨true, [1], [2]⟩) (z := ⟨false, [], [1]⟩) (by decide) (by decide) (by decide) (by decide)] at h
  exact h
theorem q66 : Sound Try.prog 61 [R ⟨true, [5], [2]⟩, R ⟨true, [2], [5]⟩] (.tup [R ⟨false, [1], [1]⟩, I 0]) := by
  have h := rat_Mul.c ⟨true, [5], [2]⟩ ⟨true, [2], [5]⟩
  rw [mul_lit (x := ⟨true, [5], [2]⟩) (y := ⟨true, [2], [5]⟩) (z := ⟨false, [1], [1]⟩) (by decide) (by decide) (by decide) (by decide)] at h
  exact h
theorem q67 : Sound Try.prog 61 [R ⟨true, [5], [2]⟩, R ⟨true, [1], [5]⟩] (.tup [R ⟨false, [1], [2]⟩, I 0]) := by
  have h := rat_Mul.c ⟨true, [5], [2]⟩ ⟨true, [1], [5]⟩
  rw [mul_lit (x := ⟨true, [5], [2]⟩) (y := ⟨true, [1], [5]⟩) (z := ⟨false, [1], [2]⟩) (by decide) (by decide) (by decide) (by decide)] at h
  exact h
theorem q68 : Sound Try.prog 61 [R ⟨true, [5], [2]⟩, R ⟨false, [2], [5]⟩] (.tup [R ⟨true, [1], [1]⟩, I 0]) := by
  have h := rat_Mul.c ⟨true, [5], [2]⟩ ⟨false, [2], [5]⟩
  rw [mul_lit (x := ⟨true, [5], [2]⟩) (y := ⟨false, [2], [5]⟩) (z := ⟨true, [1], [1]⟩) (by decide) (by decide) (by decide) (by decide)] at h
  exact h
theorem q69 : Sound Try.prog 61 [R ⟨false, [1], [1]⟩, R ⟨true, [3], [5]⟩] (.tup [R ⟨true, [3], [5]⟩, I 0]) := by
  have h := rat_Mul.c ⟨false, [1], [1]⟩ ⟨true, [3], [5]⟩
  rw [mul_lit (x := ⟨false, [1], [1]⟩) (y := ⟨true, [3], [5]⟩) (z := ⟨true, [3], [5]⟩) (by decide) (by decide) (by decide) (by decide)] at h
  exact h
theorem q70 : Sound Try.prog 91 [R ⟨false, [], [1]⟩, R ⟨true, [3], [5]⟩] (.tup [R ⟨false, [3], [5]⟩, I 0]) := by
  have h := rat_Sub.c ⟨false, [], [1]⟩ ⟨true, [3], [5]⟩
  rw [sub_lit (x := ⟨false, [], [1]⟩) (y := ⟨true, [3], [5]⟩) (z := ⟨false, [3], [5]⟩) (by decide) (by decide) (by decide) (by decide)] at h
  exact h
theorem q71 : Sound Try.prog 61 [R ⟨false, [1], [1]⟩, R ⟨false, [1], [5]⟩] (.tup [R ⟨false, [1], [5]⟩, I 0]) := by
  have h := rat_Mul.c ⟨false, [1], [1]⟩ ⟨false, [1], [5]⟩
  rw [mul_lit (x := ⟨false, [1], [1]⟩) (y := ⟨false, [1], [5]⟩) (z := ⟨false, [1], [5]⟩) (by decide) (by decide) (by decide) (by decide)] at h
  exact h
theorem q72 : Sound Try.prog 91 [R ⟨false, [3], [5]⟩, R ⟨false, [1], [5]⟩] (.tup [R ⟨false, [2], [5]⟩, I 0]) := by
  have h := rat_Sub.c ⟨false, [3], [5]⟩ ⟨false, [1], [5]⟩
  rw [sub_lit (x := ⟨false, [3], [5]⟩) (y := ⟨false, [1], [5]⟩) (z := ⟨false, [2], [5]⟩) (by decide) (by decide) (by decide) (by decide)] at h
  exact h
theorem q73 : Sound Try.prog 61 [R ⟨false, [1], [1]⟩, R ⟨true, [2], [5]⟩] (.tup [R ⟨true, [2], [5]⟩, I 0]) := by
  have h := rat_Mul.c ⟨false, [1], [1]⟩ ⟨true, [2], [5]⟩
  rw [mul_lit (x := ⟨false, [1], [1]⟩) (y := ⟨true, [2], [5]⟩) (z := ⟨true, [2], [5]⟩) (by decide) (by decide) (by decide) (by decide)] at h
  exact h
theorem q74 : Sound Try.prog 91 [R ⟨true, [1], [5]⟩, R ⟨true, [2], [5]⟩] (.tup [R ⟨false, [1], [5]⟩, I 0]) := by
  have h := rat_Sub.c ⟨true, [1], [5]⟩ ⟨true, [2], [5]⟩
  rw [sub_lit (x := ⟨true, [1], [5]⟩) (y := ⟨true, [2], [5]⟩) (z := ⟨false, [1], [5]⟩) (by decide) (by decide) (by decide) (by decide)] at h
  exact h
theorem q75 : Sound Try.prog 91 [R ⟨true, [1], [1]⟩, R ⟨false, [1], [1]⟩] (.tup [R ⟨true, [2], [1]⟩, I 0]) := by
  have h := rat_Sub.c ⟨true, [1], [1]⟩ ⟨false, [1], [1]⟩
  rw [sub_lit (x := ⟨true, [1], [1]⟩) (y := ⟨false, [1], [1]⟩) (z := ⟨true, [2], [1]⟩) (by decide) (by decide) (by decide) (by decide)] at h
  exact h
theorem q76 : Sound Try.prog 45 [R ⟨false, [2], [5]⟩, R ⟨false, [], [1]⟩] (.tup [R ⟨false, [2], [5]⟩, I 0]) := by
  have h := rat_Add.c ⟨false, [2], [5]⟩ ⟨false, [], [1]⟩
  rw [add_lit (x := ⟨false, [2], [5]⟩) (y := ⟨false, [], [1]⟩) (z := ⟨false, [2], [5]⟩) (by decide) (by decide) (by decide) (by decide)] at h
  exact h
theorem q77 : Sound Try.prog 45 [R ⟨false, [1], [5]⟩, R ⟨false, [], [1]⟩] (.tup [R ⟨false, [1], [5]⟩, I 0]) := by
  have h := rat_Add.c ⟨false, [1], [5]⟩ ⟨false, [], [1]⟩
  rw [add_lit (x := ⟨false, [1], [5]⟩) (y := ⟨false, [], [1]⟩) (z := ⟨false, [1], [5]⟩) (by decide) (by decide) (by decide) (by decide)] at h
  exact h
theorem q78 : Sound Try.prog 47 [R ⟨true, [2], [1]⟩] (.tup [R ⟨false, [2], [1]⟩, I 0]) := by
  have h := rat_Neg.c ⟨true, [2], [1]⟩
  rw [show (if rvB ⟨true, [2], [1]⟩ = true then negR ⟨true, [2], [1]⟩ else zR) = ⟨false, [2], [1]⟩ from rfl, show (if rvB ⟨true, [2], [1]⟩ = true then (0 : Int) else 3) = 0 by decide] at h
  exact h
theorem solve1.c : Sound Try.prog 19 [LPv ⟨[1, 1], [[2, 1], [1, 3]], [3, 4]⟩] (.tup [.agg [B false, N [2], N [1], RL [⟨false, [1], [1]⟩, ⟨false, [1], [1]⟩], RL [⟨false, [2], [5]⟩, ⟨false, [1], [5]⟩]], I 0]) := runO tok mixed [12, 46, 61, 91, 92, 37, 45, 47] 4000 12 (Obs.cons q9 (Obs.cons q1 (Obs.cons q1 (Obs.cons q1 (Obs.cons q1 (Obs.cons q1 (Obs.cons q1 (Obs.cons q1 (Obs.cons q1 (Obs.cons q1 (Obs.cons q1 (Obs.cons q1 (Obs.cons q1 (Obs.cons q1 (Obs.cons q1 (Obs.cons q10 (Obs.cons q4 (Obs.cons q2 (Obs.cons q11 (Obs.cons q4 (Obs.cons q12 (Obs.cons q13 (Obs.cons q7 (Obs.cons q8 (Obs.cons q5 (Obs.cons q6 (Obs.cons q14 (Obs.cons q15 (Obs.cons q4 (Obs.cons q1 (Obs.cons q1 (Obs.cons q1 (Obs.cons q1 (Obs.cons q1 (Obs.cons q1 (Obs.cons q1 (Obs.cons q4 (Obs.cons q11 (Obs.cons q2 (Obs.cons q16 (Obs.cons q4 (Obs.cons q7 (Obs.cons q17 (Obs.cons q14 (Obs.cons q18 (Obs.cons q5 (Obs.cons q6 (Obs.cons q19 (Obs.cons q20 (Obs.cons q4 (Obs.cons q21 (Obs.cons q22 (Obs.cons q23 (Obs.cons q24 (Obs.cons q25 (Obs.cons q26 (Obs.cons q25 (Obs.cons q21 (Obs.cons q7 (Obs.cons q27 (Obs.cons q28 (Obs.cons q29 (Obs.cons q30 (Obs.cons q31 (Obs.cons q28 (Obs.cons q32 (Obs.cons q33 (Obs.cons q34 (Obs.cons q35 (Obs.cons q36 (Obs.cons q37 (Obs.cons q38 (Obs.cons q39 (Obs.cons q40 (Obs.cons q37 (Obs.cons q41 (Obs.cons q42 (Obs.cons q43 (Obs.cons q44 (Obs.cons q45 (Obs.cons q46 (Obs.cons q45 (Obs.cons q47 (Obs.cons q48 (Obs.cons q49 (Obs.cons q50 (Obs.cons q45 (Obs.cons q51 (Obs.cons q52 (Obs.cons q53 (Obs.cons q54 (Obs.cons q55 (Obs.cons q56 (Obs.cons q57 (Obs.cons q58 (Obs.cons q59 (Obs.cons q60 (Obs.cons q51 (Obs.cons q61 (Obs.cons q62 (Obs.cons q63 (Obs.cons q64 (Obs.cons q65 (Obs.cons q66 (Obs.cons q27 (Obs.cons q67 (Obs.cons q61 (Obs.cons q68 (Obs.cons q6 (Obs.cons q62 (Obs.cons q63 (Obs.cons q1 (Obs.cons q1 (Obs.cons q1 (Obs.cons q1 (Obs.cons q1 (Obs.cons q4 (Obs.cons q4 (Obs.cons q4 (Obs.cons q7 (Obs.cons q27 (Obs.cons q69 (Obs.cons q70 (Obs.cons q71 (Obs.cons q60 (Obs.cons q7 (Obs.cons q8 (Obs.cons q4 (Obs.cons q7 (Obs.cons q27 (Obs.cons q71 (Obs.cons q72 (Obs.cons q73 (Obs.cons q74 (Obs.cons q7 (Obs.cons q75 (Obs.cons q1 (Obs.cons q1 (Obs.cons q1 (Obs.cons q1 (Obs.cons q1 (Obs.cons q76 (Obs.cons q1 (Obs.cons q77 (Obs.cons q78 Obs.nil))))))))))))))))))))))))))))))))))))))))))))))))))))))))))))))))))))))))))))))))))))))))))))))))))))))))))))))))))))))))))))))))))))))))))))))))) (by kernel_rfl)
end Go.Proofs.Ytiondkijgpjgcaa.Pw
