/- The functions of the program as functions of values, part 13: a proof's lemmas, with no condition of their own. -/
import Derived.Test.YtalklhbdpmggjaaDoorNfi
import Derived.Test.YtalklhbdpmggjaaDoorNfl
set_option linter.unusedVariables false
set_option linter.unusedSimpArgs false
namespace Go.Proofs.YtalklhbdpmggjaaDoor.Pw
open Go Wd Px Mat
set_option linter.unusedVariables false
set_option linter.unusedSimpArgs false
set_option maxRecDepth 100000
set_option maxHeartbeats 8000000
attribute [local irreducible] Int.tmod Int.tdiv
theorem mk_lit {p q : Int} {z : Rt} (hp : inR p = true) (hq : inR q = true) (h0 : 0 < q) (hz : rvB z = true) (h : nn z * q = p * dd z) : makeS p q = (z, 0) := by
  obtain ⟨y, e, hm⟩ : ∃ y e, makeS p q = (y, e) := ⟨_, _, rfl⟩
  rw [hm]
  obtain ⟨h1, h2, h3⟩ := makeS_ok hp hq h0 hm
  subst h1
  have hd := (rv_facts hz).1
  rw [canon h2 hz (Int.eq_of_mul_eq_mul_right (show q ≠ 0 by omega) (by rw [Int.mul_assoc, Int.mul_comm (dd z) q, ← Int.mul_assoc, h3, Int.mul_assoc, Int.mul_comm (dd y) (dd z), ← Int.mul_assoc, ← h, Int.mul_assoc, Int.mul_comm q, ← Int.mul_assoc]))]
theorem m_16 : makeS 1 6 = (⟨false, [1], [6]⟩, 0) := mk_lit (by decide) (by decide) (by decide) (by decide) (by decide)
theorem m_110 : makeS 1 10 = (⟨false, [1], [10]⟩, 0) := mk_lit (by decide) (by decide) (by decide) (by decide) (by decide)
theorem m_32 : makeS (-3) 2 = (⟨true, [3], [2]⟩, 0) := mk_lit (by decide) (by decide) (by decide) (by decide) (by decide)
theorem m_43 : makeS (-4) 3 = (⟨true, [4], [3]⟩, 0) := mk_lit (by decide) (by decide) (by decide) (by decide) (by decide)
theorem m_64 : makeS 6 (-4) = (⟨true, [3], [2]⟩, 0) := by
  have e : makeS 6 (-4) = makeS (-6) 4 := by unfold makeS; rfl
  rw [e]; exact mk_lit (by decide) (by decide) (by decide) (by decide) (by decide)
theorem m_07 : makeS 0 (-7) = (⟨false, [], [1]⟩, 0) := by
  have e : makeS 0 (-7) = (redS true (dg 0) (dg 7), 0) := by unfold makeS; rfl
  rw [e, dg_zero, dg_small (n := 7) ⟨by decide, by decide⟩]
  unfold redS
  rw [show val [] / gcdI (val []) (val [7]) = 0 by decide, show val [7] / gcdI (val []) (val [7]) = 1 by decide, dg_zero, dg_small (n := 1) ⟨by decide, by decide⟩]
  rfl
theorem a_415 : addR ⟨false, [1], [6]⟩ ⟨false, [1], [10]⟩ = (⟨false, [4], [15]⟩, 0) :=
  add_Q (a := 1) (b := 6) (c := 1) (d := 10) (n := 4) (m := 15) ⟨by decide, by decide⟩ ⟨by decide, by decide⟩ ⟨by decide, by decide⟩ ⟨by decide, by decide⟩ (by decide) (by decide) ⟨by decide, by decide⟩ ⟨by decide, by decide⟩ ⟨by decide, by decide⟩ ⟨by decide, by decide⟩ ⟨by decide, by decide⟩ ⟨by decide, by decide⟩ (by decide) (by decide)
theorem c_m1 : cmpR ⟨true, [3], [2]⟩ ⟨true, [4], [3]⟩ = (-1, 0) := by
  unfold cmpR
  rw [if_pos (by decide)]
  have e1 : mulS [3] [3] = ([9], 0) := mul_small (a := 3) (c := 3) ⟨by decide, by decide⟩ ⟨by decide, by decide⟩ ⟨by decide, by decide⟩
  have e2 : mulS [4] [2] = ([8], 0) := mul_small (a := 4) (c := 2) ⟨by decide, by decide⟩ ⟨by decide, by decide⟩ ⟨by decide, by decide⟩
  simp only [e1, e2]
  decide
theorem text_zero : Sound Tryd.prog 30 [N []] (.tup [bytes [48], I 0]) := by
  have v := nat_Valid.c []
  rw [show okN [] = true by decide] at v
  exact runO tok mixed [29] 300 6 (Obs.cons v Obs.nil) (by kernel_rfl)
theorem dec1 (n : Nat) (h : n < 10) : Lib.decDigits n = [UInt8.ofNat (48 + n)] := by rw [Lib.decDigits, dif_pos h]
theorem dec15 : Lib.decDigits 15 = [49, 53] := by rw [Lib.decDigits]; simp; rw [Lib.decDigits]; rfl
theorem t_415 : Sound Tryd.prog 57 [R ⟨false, [4], [15]⟩] (.tup [bytes [52, 47, 49, 53], I 0]) := by
  have v := rat_Valid.c ⟨false, [4], [15]⟩
  rw [show rvB ⟨false, [4], [15]⟩ = true by decide] at v
  have t1 := text_one 4 (by decide) (by decide)
  have t2 := text_one 15 (by decide) (by decide)
  rw [dec1 4 (by decide)] at t1; rw [dec15] at t2
  exact runO tok mixed [59, 30] 300 6 (Obs.cons v (Obs.cons t1 (Obs.cons t2 Obs.nil))) (by kernel_rfl)
theorem t_32 : Sound Tryd.prog 57 [R ⟨true, [3], [2]⟩] (.tup [bytes [45, 51, 47, 50], I 0]) := by
  have v := rat_Valid.c ⟨true, [3], [2]⟩
  rw [show rvB ⟨true, [3], [2]⟩ = true by decide] at v
  have t1 := text_one 3 (by decide) (by decide)
  have t2 := text_one 2 (by decide) (by decide)
  rw [dec1 3 (by decide)] at t1; rw [dec1 2 (by decide)] at t2
  exact runO tok mixed [59, 30] 300 6 (Obs.cons v (Obs.cons t1 (Obs.cons t2 Obs.nil))) (by kernel_rfl)
theorem t_0 : Sound Tryd.prog 57 [R ⟨false, [], [1]⟩] (.tup [bytes [48], I 0]) := by
  have v := rat_Valid.c ⟨false, [], [1]⟩
  rw [show rvB ⟨false, [], [1]⟩ = true by decide] at v
  exact runO tok mixed [59, 30] 300 6 (Obs.cons v (Obs.cons text_zero Obs.nil)) (by kernel_rfl)
theorem awake03.c : Sound Tryd.prog 50 [] (B true) := by
  have c1 := rat_Make.c 1 6
  have c2 := rat_Make.c 1 10
  have c3 := rat_Add.c ⟨false, [1], [6]⟩ ⟨false, [1], [10]⟩
  have c4 := rat_Make.c (-3) 2
  have c5 := rat_Make.c (-4) 3
  have c6 := rat_Cmp.c ⟨true, [3], [2]⟩ ⟨true, [4], [3]⟩
  have c7 := rat_Floor.c ⟨true, [3], [2]⟩
  have c8 := rat_Ceil.c ⟨true, [3], [2]⟩
  have c9 := rat_Make.c 6 (-4)
  have c10 := rat_Make.c 0 (-7)
  rw [m_16] at c1; rw [m_110] at c2; rw [a_415] at c3; rw [m_32] at c4; rw [m_43] at c5; rw [c_m1] at c6
  rw [show wholeS ⟨true, [3], [2]⟩ (Rt.neg ⟨true, [3], [2]⟩) = (-2, 0) by decide] at c7
  rw [show wholeS ⟨true, [3], [2]⟩ (!(Rt.neg ⟨true, [3], [2]⟩)) = (-1, 0) by decide] at c8
  rw [m_64] at c9; rw [m_07] at c10
  exact runO tok mixed [47, 61, 57, 65, 53, 55] 300 6 (Obs.cons c1 (Obs.cons c2 (Obs.cons c3 (Obs.cons t_415 (Obs.cons c4 (Obs.cons c5 (Obs.cons c6 (Obs.cons c7 (Obs.cons c8 (Obs.cons c9 (Obs.cons t_32 (Obs.cons c10 (Obs.cons t_0 Obs.nil))))))))))))) (by kernel_rfl)
end Go.Proofs.YtalklhbdpmggjaaDoor.Pw
