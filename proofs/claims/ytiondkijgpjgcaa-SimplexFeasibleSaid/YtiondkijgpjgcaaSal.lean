/- The functions of the program as functions of values, part 12: a proof's lemmas, with no condition of their own. -/
import Derived.Deep.Slices
import Derived.Lib.SmallJoins
import Derived.SevenTiedAt
import Derived.ChangeSame
import Derived.WalkKit
import Derived.ProofKit
import Derived.ChangeVars
import Derived.ChangeMaps5
import Derived.RowKit
import Derived.Test.YtiondkijgpjgcaaSai
import Derived.Test.YtiondkijgpjgcaaSaj
import Derived.Test.YtiondkijgpjgcaaSak
set_option linter.unusedVariables false
set_option linter.unusedSimpArgs false
namespace Go.Proofs.Ytiondkijgpjgcaa.Pw
open Go Wd Px Mat
set_option linter.unusedVariables false
set_option linter.unusedSimpArgs false
set_option maxRecDepth 100000
set_option maxHeartbeats 8000000
attribute [local irreducible] Int.tmod Int.tdiv
def P1 : LP := ⟨[1, 1], [[2, 1], [1, 3]], [3, 4]⟩
def O1 : OP := ⟨⟨false, [2], [1]⟩, [⟨false, [1], [1]⟩, ⟨false, [1], [1]⟩], [⟨false, [2], [5]⟩, ⟨false, [1], [5]⟩]⟩
theorem num_lit {n : Int} {z : Rt} (hp : inR n = true) (hz : rvB z = true) (h : nn z * 1 = n * dd z) : numR n = z := congrArg Prod.fst (make_lit hp (by decide) (by decide) hz h)
theorem dot_step (l : List Int) (x : List Rt) (d i : Nat) (s a b c : Rt) (hn : numR (rdI l i) = a) (hm : mulR a (rdR x i) = (b, 0)) (ha : addR s b = (c, 0)) : dotG l x (d + 1) i s = dotG l x d (i + 1) c := by
  simp only [dotG, hn, hm, ha, if_true]
theorem dot_two {l : List Int} {x : List Rt} {z0 a b c d e f : Rt} (hl : l.length = 2) (h0 : numR 0 = z0) (n0 : numR (rdI l 0) = a) (m0 : mulR a (rdR x 0) = (b, 0)) (a0 : addR z0 b = (c, 0)) (n1 : numR (rdI l 1) = d) (m1 : mulR d (rdR x 1) = (e, 0)) (a1 : addR c e = (f, 0)) : dotS l x = (f, 0) := by
  unfold dotS
  rw [hl, h0, dot_step l x 1 0 z0 a b c n0 m0 a0, dot_step l x 0 1 c d e f n1 m1 a1]; rfl
theorem bnd_lit {l : List Int} {x : List Rt} {b sg m : Int} {s n : Rt} (h1 : dotS l x = (s, 0)) (h2 : numR b = n) (h3 : cmpR s n = (m, 0)) : bndS l x b sg = !decide (m * sg < 0) := by
  unfold bndS
  rw [h1, h2, h3]; simp
def z0 : Rt := ⟨false, [], [1]⟩
theorem n0 : numR 0 = z0 := num_lit (by decide) (by decide) (by decide)
def qw (n : Int) : Rt := ⟨false, [n], [1]⟩
theorem n1 : numR 1 = qw 1 := num_lit (by decide) (by decide) (by decide)
theorem n2 : numR 2 = qw 2 := num_lit (by decide) (by decide) (by decide)
theorem n3 : numR 3 = qw 3 := num_lit (by decide) (by decide) (by decide)
theorem n4 : numR 4 = qw 4 := num_lit (by decide) (by decide) (by decide)
theorem row1 : dotS [2, 1] O1.x = (qw 3, 0) := dot_two (b := qw 2) (c := qw 2) (e := qw 1) rfl n0 n2 (mul_lit (by decide) (by decide) (by decide) (by decide)) (add_lit (by decide) (by decide) (by decide) (by decide)) n1 (mul_lit (by decide) (by decide) (by decide) (by decide)) (add_lit (by decide) (by decide) (by decide) (by decide))
theorem row2 : dotS [1, 3] O1.x = (qw 4, 0) := dot_two (b := qw 1) (c := qw 1) (e := qw 3) rfl n0 n1 (mul_lit (by decide) (by decide) (by decide) (by decide)) (add_lit (by decide) (by decide) (by decide) (by decide)) n3 (mul_lit (by decide) (by decide) (by decide) (by decide)) (add_lit (by decide) (by decide) (by decide) (by decide))
theorem cost1 : dotS [1, 1] O1.x = (qw 2, 0) := dot_two (b := qw 1) (c := qw 1) (e := qw 1) rfl n0 n1 (mul_lit (by decide) (by decide) (by decide) (by decide)) (add_lit (by decide) (by decide) (by decide) (by decide)) n1 (mul_lit (by decide) (by decide) (by decide) (by decide)) (add_lit (by decide) (by decide) (by decide) (by decide))
theorem col1 : dotS [2, 1] O1.d = (qw 1, 0) := dot_two (b := ⟨false, [4], [5]⟩) (c := ⟨false, [4], [5]⟩) (e := ⟨false, [1], [5]⟩) rfl n0 n2 (mul_lit (by decide) (by decide) (by decide) (by decide)) (add_lit (by decide) (by decide) (by decide) (by decide)) n1 (mul_lit (by decide) (by decide) (by decide) (by decide)) (add_lit (by decide) (by decide) (by decide) (by decide))
theorem col2 : dotS [1, 3] O1.d = (qw 1, 0) := dot_two (b := ⟨false, [2], [5]⟩) (c := ⟨false, [2], [5]⟩) (e := ⟨false, [3], [5]⟩) rfl n0 n1 (mul_lit (by decide) (by decide) (by decide) (by decide)) (add_lit (by decide) (by decide) (by decide) (by decide)) n3 (mul_lit (by decide) (by decide) (by decide) (by decide)) (add_lit (by decide) (by decide) (by decide) (by decide))
theorem need1 : dotS [3, 4] O1.d = (qw 2, 0) := dot_two (b := ⟨false, [6], [5]⟩) (c := ⟨false, [6], [5]⟩) (e := ⟨false, [4], [5]⟩) rfl n0 n3 (mul_lit (by decide) (by decide) (by decide) (by decide)) (add_lit (by decide) (by decide) (by decide) (by decide)) n4 (mul_lit (by decide) (by decide) (by decide) (by decide)) (add_lit (by decide) (by decide) (by decide) (by decide))
theorem low1 : dotS [2, 1] [z0, qw 2] = (qw 2, 0) := dot_two (b := z0) (c := z0) (e := qw 2) rfl n0 n2 (mul_lit (by decide) (by decide) (by decide) (by decide)) (add_lit (by decide) (by decide) (by decide) (by decide)) n1 (mul_lit (by decide) (by decide) (by decide) (by decide)) (add_lit (by decide) (by decide) (by decide) (by decide))
theorem chkP1 : chkS P1 = 0 := by decide
theorem feas1 : feasS P1 O1.x = true := by
  have a := bnd_lit (b := 3) (sg := 1) (m := 0) row1 n3 (cmp_lit (by decide) (by decide) (by decide))
  have b := bnd_lit (b := 4) (sg := 1) (m := 0) row2 n4 (cmp_lit (by decide) (by decide) (by decide))
  unfold feasS
  rw [chkP1]
  show (decide ((0 : Int) = 0) && (fineS O1.x 2 && (bndS [2, 1] O1.x 3 1 && (bndS [1, 3] O1.x 4 1 && true)))) = true
  rw [a, b]
  decide
theorem feas0 : feasS P1 [z0, qw 2] = false := by
  have a := bnd_lit (b := 3) (sg := 1) (m := -1) low1 n3 (cmp_lit (by decide) (by decide) (by decide))
  unfold feasS
  rw [chkP1]
  show (decide ((0 : Int) = 0) && (fineS [z0, qw 2] 2 && (bndS [2, 1] [z0, qw 2] 3 1 && (bndS [1, 3] [z0, qw 2] 4 1 && true)))) = false
  rw [a]
  simp
theorem opt1 : optS P1 O1 = true := by
  have a := bnd_lit (b := 1) (sg := -1) (m := 0) col1 n1 (cmp_lit (by decide) (by decide) (by decide))
  have b := bnd_lit (b := 1) (sg := -1) (m := 0) col2 n1 (cmp_lit (by decide) (by decide) (by decide))
  have s1 : sideS P1.c O1.x O1.v = true := (side_iff (by decide)).2 ⟨congrArg Prod.snd cost1, congrArg Prod.fst cost1⟩
  have s2 : sideS P1.need O1.d O1.v = true := (side_iff (by decide)).2 ⟨congrArg Prod.snd need1, congrArg Prod.fst need1⟩
  unfold optS
  rw [feas1, s1, s2]
  show (true && (decide (lstS O1.d 2 = 0) && (rvB O1.v && ((bndS [2, 1] O1.d 1 (-1) && (bndS [1, 3] O1.d 1 (-1) && true)) && (true && true))))) = true
  rw [a, b]
  decide
theorem whole45.c (n : Int) (h : -9223372036854775808 ≤ n ∧ n ≤ 9223372036854775807) : Sound Try.prog 23 [I n] (R (numR n)) := by
  have c1 := r3_Of.c n h
  exact runO tok mixed [54] 300 6 (Obs.cons c1 Obs.nil) (by kernel_rfl)
theorem part45.c (p q : Int) (hp : -9223372036854775808 ≤ p ∧ p ≤ 9223372036854775807) (hq : -9223372036854775808 ≤ q ∧ q ≤ 9223372036854775807) : Sound Try.prog 27 [I p, I q] (R (makeS p q).1) := by
  have c1 := r3_Make.c p q hp hq
  exact runO tok mixed [56] 300 6 (Obs.cons c1 Obs.nil) (by kernel_rfl)
theorem same_self (x : Rt) : sameS x x = true := sameS_iff.2 rfl
theorem awake45.c : Sound Try.prog 11 [] (B true) := by
  have w2 := whole45.c 2 (by decide)
  have w1 := whole45.c 1 (by decide)
  have w0 := whole45.c 0 (by decide)
  rw [n2] at w2
  rw [n1] at w1
  rw [n0] at w0
  have p2 := part45.c 2 5 (by decide) (by decide)
  have p1 := part45.c 1 5 (by decide) (by decide)
  rw [make_lit (p := 2) (q := 5) (z := ⟨false, [2], [5]⟩) (by decide) (by decide) (by decide) (by decide) (by decide)] at p2
  rw [make_lit (p := 1) (q := 5) (z := ⟨false, [1], [5]⟩) (by decide) (by decide) (by decide) (by decide) (by decide)] at p1
  have o1 := sx_Optimal.c P1 O1
  rw [opt1] at o1
  have f0 := sx_Feasible.c P1 [z0, qw 2]
  rw [feas0] at f0
  have s2 := r45_Same.c (qw 2) (qw 2)
  have s1 := r45_Same.c (qw 1) (qw 1)
  have s25 := r45_Same.c ⟨false, [2], [5]⟩ ⟨false, [2], [5]⟩
  have s15 := r45_Same.c ⟨false, [1], [5]⟩ ⟨false, [1], [5]⟩
  rw [same_self] at s2 s1 s25 s15
  exact runO tok mixed [19, 23, 27, 17, 15, 25] 1000 8 (Obs.cons solve1.c (Obs.cons solve2.c (Obs.cons solve3.c (Obs.cons w2 (Obs.cons w1 (Obs.cons w1 (Obs.cons p2 (Obs.cons p1 (Obs.cons o1 (Obs.cons w2 (Obs.cons s2 (Obs.cons w1 (Obs.cons s1 (Obs.cons w1 (Obs.cons s1 (Obs.cons p2 (Obs.cons s25 (Obs.cons p1 (Obs.cons s15 (Obs.cons w0 (Obs.cons w2 (Obs.cons f0 Obs.nil)))))))))))))))))))))) (by kernel_rfl)
theorem SimplexChecks.c (p : LP) : Sound Try.prog 3 [LPv p] (B true) := by
  have c1 := small.c p 1200 (by decide)
  have c2 := sx_Check.c p
  have c3 := r45_Check.c p
  generalize chkS p = e at *
  have ee : e = e := rfl
  cases hs : smallS p 1200
  · rw [hs] at c1
    exact runO tok mixed [10, 11] 300 6 (Obs.cons c1 (Obs.cons awake45.c Obs.nil)) (by kernel_rfl)
  · rw [hs] at c1
    exact runO tok mixed [10, 12, 13, 11] 300 6 (Obs.cons c1 (Obs.cons c1 (Obs.cons c2 (Obs.cons c3 (Obs.br 0 (eqT ee) (Obs.cons awake45.c Obs.nil)))))) (by kernel_rfl)
theorem SimplexFeasible.c (p : LP) (x : List Rt) : Sound Try.prog 4 [LPv p, RL x] (B true) := by
  have c1 := small.c p 10 (by decide)
  have c2 := light.c x 15
  have c3 := sx_Feasible.c p x
  have c4 := r45_Feasible.c p x
  cases hs : smallS p 10
  · rw [hs] at c1
    exact runO tok mixed [10, 11] 300 6 (Obs.cons c1 (Obs.cons awake45.c Obs.nil)) (by kernel_rfl)
  · rw [hs] at c1
    cases hl : lightS x 15
    · rw [hl] at c2
      exact runO tok mixed [10, 14, 11] 300 6 (Obs.cons c1 (Obs.cons c2 (Obs.cons awake45.c Obs.nil))) (by kernel_rfl)
    · rw [hl] at c2
      cases hf : feasS p x
      all_goals
        rw [hf] at c3 c4
        exact runO tok mixed [10, 14, 15, 16, 11] 300 6 (Obs.cons c1 (Obs.cons c2 (Obs.cons c3 (Obs.cons c4 (Obs.cons awake45.c Obs.nil))))) (by kernel_rfl)
theorem SimplexValues.c (p : LP) (x : List Rt) : Sound Try.prog 8 [LPv p, RL x] (B true) := by
  have c1 := small.c p 10 (by decide)
  have c2 := light.c x 15
  have c3 := sx_Value.c p x
  have c4 := r45_Value.c p x
  have c5 := r45_Same.c (valueS p x).1 (valueS p x).1
  rw [same_self] at c5
  generalize (valueS p x).1 = v at *
  generalize (valueS p x).2 = e at *
  have ee : e = e := rfl
  cases hs : smallS p 10
  · rw [hs] at c1
    exact runO tok mixed [10, 11] 300 6 (Obs.cons c1 (Obs.cons awake45.c Obs.nil)) (by kernel_rfl)
  · rw [hs] at c1
    cases hl : lightS x 15
    · rw [hl] at c2
      exact runO tok mixed [10, 14, 11] 300 6 (Obs.cons c1 (Obs.cons c2 (Obs.cons awake45.c Obs.nil))) (by kernel_rfl)
    · rw [hl] at c2
      exact runO tok mixed [10, 14, 24, 21, 25, 11] 300 6 (Obs.cons c1 (Obs.cons c2 (Obs.cons c3 (Obs.cons c4 (Obs.cons c5 (Obs.br 0 (eqT ee) (Obs.cons awake45.c Obs.nil))))))) (by kernel_rfl)
theorem light_one {x : Rt} (h : lightS [x] 1 = true) : x.p.length + x.q.length ≤ 48 := by
  have h' : (if (1 : Int) < 1 then false else (ltR x && true)) = true := h
  rw [if_neg (by decide), Bool.and_true] at h'
  unfold ltR mxL mx at h'
  simp only [Bool.not_eq_true', Bool.or_eq_false_iff, decide_eq_false_iff_not] at h'
  obtain ⟨_, h2⟩ := h'
  split at h2 <;> omega
theorem SimplexProves.c (p : LP) (o : OP) : Sound Try.prog 5 [LPv p, OPv o] (B true) := by
  have c1 := small.c p 10 (by decide)
  have c2 := light.c o.x 15
  have c3 := light.c o.d 15
  have c4 := light.c [o.v] 1
  cases hs : smallS p 10
  · rw [hs] at c1
    exact runO tok mixed [10, 11] 300 6 (Obs.cons c1 (Obs.cons awake45.c Obs.nil)) (by kernel_rfl)
  rw [hs] at c1
  cases hl : lightS o.x 15
  · rw [hl] at c2
    exact runO tok mixed [10, 14, 11] 300 6 (Obs.cons c1 (Obs.cons c2 (Obs.cons awake45.c Obs.nil))) (by kernel_rfl)
  rw [hl] at c2
  cases hd : lightS o.d 15
  · rw [hd] at c3
    exact runO tok mixed [10, 14, 11] 300 6 (Obs.cons c1 (Obs.cons c2 (Obs.cons c3 (Obs.cons awake45.c Obs.nil)))) (by kernel_rfl)
  rw [hd] at c3
  cases hv : lightS [o.v] 1
  · rw [hv] at c4
    exact runO tok mixed [10, 14, 11] 300 6 (Obs.cons c1 (Obs.cons c2 (Obs.cons c3 (Obs.cons c4 (Obs.cons awake45.c Obs.nil))))) (by kernel_rfl)
  rw [hv] at c4
  have c5 := sx_Optimal.c p o
  have c6 := r45_Optimal.c p o
  rw [← opt_eq p o (light_one hv)] at c6
  cases hf : optS p o
  all_goals
    rw [hf] at c5 c6
    exact runO tok mixed [10, 14, 17, 18, 11] 300 6 (Obs.cons c1 (Obs.cons c2 (Obs.cons c3 (Obs.cons c4 (Obs.cons c5 (Obs.cons c6 (Obs.cons awake45.c Obs.nil))))))) (by kernel_rfl)
end Go.Proofs.Ytiondkijgpjgcaa.Pw
namespace Go.Proofs.Ytiondkijgpjgcaa.Pw
open Go Go.ChangeShapes Go.WideShapes Go.ChangeAt Go.RowKit Go.Joins Go.Proofs.Ytiondkijgpjgcaa.Px
set_option linter.unusedVariables false
set_option linter.unusedSimpArgs false
set_option linter.constructorNameAsVariable false
set_option maxRecDepth 100000
theorem Nat_of_row {H : Type} {enc : TypeId × Value → H} {W : World} {held : Bool} {k : Nat} {v : Value} {y : DataW H × List MemPlace} (h : DataW.trod enc Try.prog W 0 (fun _ => true) held k 34 [v] = some y) : ∃ l, RepP (fun _ => False) W (N l) v := by
  rcases open_ints Try.underlying34 Try.underlying3 (by kernel_rfl) h with ⟨hcs, _⟩ | ⟨a, len, cap, zs, hcs, _, hl, hm, hz, _, hcell, _⟩
  · injection hcs with e
    subst e
    exact ⟨[], .lst0 _ _⟩
  · injection hcs with e
    subst e
    have hz' : zs.length = cap := by simpa using hz
    have hlen : (zs.take len).length = len := by rw [List.length_take]; omega
    rcases Nat.eq_zero_or_pos len with h0 | h0
    · subst h0; exact ⟨[], .lst0 _ _⟩
    · have c0 := hcell 0 (by omega)
      have hs : a.spot = none := by simpa [Addr.add] using World.cell?_spot c0
      obtain ⟨B, o, sp⟩ := a
      dsimp only at hs
      subst hs
      have c1 : ∀ j, j < zs.length → W.cell? ⟨B, o + j, none⟩ = some (.int .i64 (zs.getD j 0)) := fun j hj => by
        have := hcell j hj
        unfold Addr.add at this
        split at this
        · rename_i e; subst e; exact this
        · exact this
      refine ⟨zs.take len, ?_⟩
      show RepP _ W (.lst (zs.take len).length ((zs.take len).map I)) _
      rw [hlen]
      refine .lst len cap _ B o (fun j => .int .i64 (zs.getD j 0)) ?_ (fun h => h) ⟨hl, hm⟩ (fun j hj => c1 j ?_) (fun j hj => rfl) (fun j pv hp => ?_)
      · have := c1 0 (by omega)
        unfold World.cell? at this
        split at this
        · rename_i c _ _ hh; exact lt_of_cells hh
        · cases this
      · rw [List.length_map, hlen] at hj; omega
      · simp only [List.getElem?_map, Option.map_eq_some_iff] at hp
        obtain ⟨q, hq, rfl⟩ := hp
        have hj := (List.getElem?_eq_some_iff.1 hq).1
        rw [hlen] at hj
        rw [List.getElem?_take, if_pos hj] at hq
        rw [List.getD_eq_getElem?_getD, hq]
        exact .v _ rfl
theorem Ints_of_row {H : Type} {enc : TypeId × Value → H} {W : World} {held : Bool} {k : Nat} {v : Value} {y : DataW H × List MemPlace} (h : DataW.trod enc Try.prog W 0 (fun _ => true) held k 22 [v] = some y) : ∃ l, RepP (fun _ => False) W (N l) v := by
  rcases open_ints Try.underlying22 Try.underlying3 (by kernel_rfl) h with ⟨hcs, _⟩ | ⟨a, len, cap, zs, hcs, _, hl, hm, hz, _, hcell, _⟩
  · injection hcs with e
    subst e
    exact ⟨[], .lst0 _ _⟩
  · injection hcs with e
    subst e
    have hz' : zs.length = cap := by simpa using hz
    have hlen : (zs.take len).length = len := by rw [List.length_take]; omega
    rcases Nat.eq_zero_or_pos len with h0 | h0
    · subst h0; exact ⟨[], .lst0 _ _⟩
    · have c0 := hcell 0 (by omega)
      have hs : a.spot = none := by simpa [Addr.add] using World.cell?_spot c0
      obtain ⟨B, o, sp⟩ := a
      dsimp only at hs
      subst hs
      have c1 : ∀ j, j < zs.length → W.cell? ⟨B, o + j, none⟩ = some (.int .i64 (zs.getD j 0)) := fun j hj => by
        have := hcell j hj
        unfold Addr.add at this
        split at this
        · rename_i e; subst e; exact this
        · exact this
      refine ⟨zs.take len, ?_⟩
      show RepP _ W (.lst (zs.take len).length ((zs.take len).map I)) _
      rw [hlen]
      refine .lst len cap _ B o (fun j => .int .i64 (zs.getD j 0)) ?_ (fun h => h) ⟨hl, hm⟩ (fun j hj => c1 j ?_) (fun j hj => rfl) (fun j pv hp => ?_)
      · have := c1 0 (by omega)
        unfold World.cell? at this
        split at this
        · rename_i c _ _ hh; exact lt_of_cells hh
        · cases this
      · rw [List.length_map, hlen] at hj; omega
      · simp only [List.getElem?_map, Option.map_eq_some_iff] at hp
        obtain ⟨q, hq, rfl⟩ := hp
        have hj := (List.getElem?_eq_some_iff.1 hq).1
        rw [hlen] at hj
        rw [List.getElem?_take, if_pos hj] at hq
        rw [List.getD_eq_getElem?_getD, hq]
        exact .v _ rfl
theorem RC_at : ∀ (l : List Rt) (j : Nat) (pv : PV), (RC l)[j]? = some pv → ∃ i, ∃ h : i < l.length, (j = i * 3 ∧ pv = B l[i].neg) ∨ (j = i * 3 + 1 ∧ pv = N l[i].p) ∨ (j = i * 3 + 2 ∧ pv = N l[i].q)
  | [], j, pv, h => by simp [RC] at h
  | a :: l, 0, pv, h => ⟨0, by simp, .inl ⟨rfl, (Option.some.inj h).symm⟩⟩
  | a :: l, 1, pv, h => ⟨0, by simp, .inr (.inl ⟨rfl, (Option.some.inj h).symm⟩)⟩
  | a :: l, 2, pv, h => ⟨0, by simp, .inr (.inr ⟨rfl, (Option.some.inj h).symm⟩)⟩
  | a :: l, j + 3, pv, h => by
    obtain ⟨i, hi, hh⟩ := RC_at l j pv h
    refine ⟨i + 1, by simpa using hi, ?_⟩
    rcases hh with ⟨rfl, e⟩ | ⟨rfl, e⟩ | ⟨rfl, e⟩
    · exact .inl ⟨by omega, e⟩
    · exact .inr (.inl ⟨by omega, e⟩)
    · exact .inr (.inr ⟨by omega, e⟩)
instance : Inhabited Rt := ⟨⟨false, [], []⟩⟩
theorem RL_of_row {H : Type} {enc : TypeId × Value → H} {W : World} {held : Bool} {k : Nat} {v : Value} {y : DataW H × List MemPlace} (h : DataW.trod enc Try.prog W 0 (fun _ => true) held k 31 [v] = some y) : ∃ l, RepP (fun _ => False) W (RL l) v := by
  rcases Go.Deep.open_slice Try.underlying31 h with ⟨hcs, _⟩ | ⟨a, len, cap, m, n, D, Pl, hcs, hb, hl, hm, hmm, _, hx⟩
  · injection hcs with e
    subst e
    exact ⟨[], .lst0 _ _⟩
  · injection hcs with e
    subst e
    have hmm : m = cap := hmm
    subst hmm
    have ce : Try.prog.cellsOf 36 = 3 := by kernel_rfl
    have cb : Try.prog.cellsOf 4 = 1 := by kernel_rfl
    have cn : Try.prog.cellsOf 34 = 1 := by kernel_rfl
    have each : ∀ i, i < m → ∃ r : Rt, ∃ v0 v1 v2 : Value, W.cell? (a.add (i * 3)) = some v0 ∧ W.cell? (a.add (i * 3 + 1)) = some v1 ∧ W.cell? (a.add (i * 3 + 2)) = some v2 ∧
        RepP (fun _ => False) W (B r.neg) v0 ∧ RepP (fun _ => False) W (N r.p) v1 ∧ RepP (fun _ => False) W (N r.q) v2 := by
      intro i hi
      obtain ⟨cs', h1, h2⟩ := hx i hi
      rw [ce] at h1
      obtain ⟨_, hlen, hcell⟩ := World.cells?_some h1
      obtain ⟨xs, k', hk, hxy, _, hxl, hf⟩ := DataW.trod_struct Try.underlying36 h2
      match xs, hxl, cs', hlen with
      | [y0, y1, y2], _, [v0, v1, v2], _ =>
        have g0 := hf 0 _ rfl
        have g1 := hf 1 _ rfl
        have g2 := hf 2 _ rfl
        simp [cb, cn] at g0 g1 g2
        have e0 := hcell 0 (by omega)
        have e1 := hcell 1 (by omega)
        have e2 := hcell 2 (by omega)
        rw [Go.Deep.add_add] at e0 e1 e2
        obtain ⟨b, hb', _⟩ := DataW.trod_bool Try.underlying4 g0
        injection hb' with hb'
        subst hb'
        obtain ⟨p, hp⟩ := Nat_of_row g1
        obtain ⟨q, hq⟩ := Nat_of_row g2
        exact ⟨⟨b, p, q⟩, _, v1, v2, by simpa using e0, by simpa using e1, by simpa using e2, .v _ rfl, hp, hq⟩
    rcases Nat.eq_zero_or_pos len with h0 | h0
    · subst h0; exact ⟨[], .lst0 _ _⟩
    · obtain ⟨R, hR⟩ := Go.Deep.choose_lt each
      obtain ⟨_, _, _, c0, _⟩ := hR 0 (by omega)
      have hs : a.spot = none := by simpa [Addr.add] using World.cell?_spot c0
      obtain ⟨B0, o, sp⟩ := a
      dsimp only at hs
      subst hs
      have ad : ∀ j, (⟨B0, o, none⟩ : Addr).add j = ⟨B0, o + j, none⟩ := fun j => by
        unfold Addr.add
        split
        · rename_i e; subst e; rfl
        · rfl
      have hB : B0 < W.heap.size := by
        unfold World.cell? at c0
        rw [ad] at c0
        split at c0
        · rename_i c _ _ hh; exact lt_of_cells hh
        · cases c0
      have hle : ((List.range len).map R).length = len := by simp
      have hat : ∀ i, ∀ h : i < ((List.range len).map R).length, ((List.range len).map R)[i] = R i := fun i h => by simp
      refine ⟨(List.range len).map R, ?_⟩
      show RepP _ W (.lst ((List.range len).map R).length (RC ((List.range len).map R))) _
      have key : ∀ (j : Nat) pv, (RC ((List.range len).map R))[j]? = some pv → ∃ v, W.cell? ⟨B0, o + j, none⟩ = some v ∧ RepP (fun _ => False) W pv v ∧ v.oneCell' = true := by
        intro j pv hp
        obtain ⟨i, hi, hh⟩ := RC_at _ _ _ hp
        rw [hat i hi] at hh
        rw [hle] at hi
        obtain ⟨v0, v1, v2, q0, q1, q2, r0, r1, r2⟩ := hR i (by omega)
        rw [ad] at q0 q1 q2
        rcases hh with ⟨rfl, rfl⟩ | ⟨rfl, rfl⟩ | ⟨rfl, rfl⟩
        · exact ⟨v0, q0, r0, r0.one trivial⟩
        · exact ⟨v1, q1, r1, r1.one trivial⟩
        · exact ⟨v2, q2, r2, r2.one trivial⟩
      have keyc : ∀ j, j < (RC ((List.range len).map R)).length → ∃ v, W.cell? ⟨B0, o + j, none⟩ = some v ∧ v.oneCell' = true := fun j hj => by
        obtain ⟨v, q1, _, q3⟩ := key j _ (List.getElem?_eq_getElem hj)
        exact ⟨v, q1, q3⟩
      rw [hle]
      refine .lst len m _ B0 o (fun j => (W.cell? ⟨B0, o + j, none⟩).getD (.int .i64 0)) hB (fun h => h) ⟨hl, hm⟩ (fun j hj => ?_) (fun j hj => ?_) (fun j pv hp => ?_)
      · obtain ⟨v, q1, _⟩ := keyc j hj; show _ = some (Option.getD _ _); rw [q1]; rfl
      · obtain ⟨v, q1, q2⟩ := keyc j hj; show Value.oneCell' (Option.getD _ _) = true; rw [q1]; exact q2
      · obtain ⟨v, q1, q2, _⟩ := key j pv hp; show RepP _ W pv (Option.getD _ _); rw [q1]; exact q2
theorem RL_of_row1 {H : Type} {enc : TypeId × Value → H} {W : World} {held : Bool} {r : Reach} {b0 : Nat} {v : Value} {d : DataW H} {p : List MemPlace} (hv : Value.okWide Try.prog W r b0 31 v) (h : DataW.Trod enc Try.prog W 0 (fun _ => true) held 31 v d p) : ∃ l, RepP (fun _ => False) W (RL l) v := by
  obtain ⟨k, h⟩ := h
  obtain ⟨a, n, c, rfl⟩ := okWide_slice Try.underlying31 hv
  have e : (Value.slice a n c).cells.toList = [Value.slice a n c] := rfl
  rw [e] at h
  exact RL_of_row h
theorem RR_of_row {H : Type} {enc : TypeId × Value → H} {W : World} {held : Bool} {k : Nat} {v : Value} {y : DataW H × List MemPlace} (h : DataW.trod enc Try.prog W 0 (fun _ => true) held k 23 [v] = some y) : ∃ l, RepP (fun _ => False) W (RR l) v := by
  rcases Go.Deep.open_slice Try.underlying23 h with ⟨hcs, _⟩ | ⟨a, len, cap, m, n, D, Pl, hcs, hb, hl, hm, hmm, _, hx⟩
  · injection hcs with e
    subst e
    exact ⟨[], .lst0 _ _⟩
  · injection hcs with e
    subst e
    have hmm : m = cap := hmm
    subst hmm
    have ce : Try.prog.cellsOf 22 = 1 := by kernel_rfl
    have each : ∀ i, i < m → ∃ r : List Int, ∃ v0 : Value, W.cell? (a.add i) = some v0 ∧ RepP (fun _ => False) W (N r) v0 := by
      intro i hi
      obtain ⟨cs', h1, h2⟩ := hx i hi
      rw [ce] at h1
      obtain ⟨_, hlen, hcell⟩ := World.cells?_some h1
      match cs', hlen with
      | [v0], _ =>
        obtain ⟨p, hp⟩ := Ints_of_row h2
        have e0 := hcell 0 (by omega)
        rw [Go.Deep.add_add] at e0
        exact ⟨p, v0, by simpa using e0, hp⟩
    rcases Nat.eq_zero_or_pos len with h0 | h0
    · subst h0; exact ⟨[], .lst0 _ _⟩
    · obtain ⟨R, hR⟩ := Go.Deep.choose_lt each
      obtain ⟨_, c0, _⟩ := hR 0 (by omega)
      have hs : a.spot = none := by simpa [Addr.add] using World.cell?_spot c0
      obtain ⟨B0, o, sp⟩ := a
      dsimp only at hs
      subst hs
      have ad : ∀ j, (⟨B0, o, none⟩ : Addr).add j = ⟨B0, o + j, none⟩ := fun j => by
        unfold Addr.add
        split
        · rename_i e; subst e; rfl
        · rfl
      have hB : B0 < W.heap.size := by
        unfold World.cell? at c0
        rw [ad] at c0
        split at c0
        · rename_i c _ _ hh; exact lt_of_cells hh
        · cases c0
      have hle : ((List.range len).map R).length = len := by simp
      have hat : ∀ i, ∀ h : i < ((List.range len).map R).length, ((List.range len).map R)[i] = R i := fun i h => by simp
      refine ⟨(List.range len).map R, ?_⟩
      show RepP _ W (.lst ((List.range len).map R).length (((List.range len).map R).map N)) _
      have key : ∀ (j : Nat) pv, (((List.range len).map R).map N)[j]? = some pv → ∃ v, W.cell? ⟨B0, o + j, none⟩ = some v ∧ RepP (fun _ => False) W pv v ∧ v.oneCell' = true := by
        intro j pv hp
        simp only [List.getElem?_map, Option.map_eq_some_iff] at hp
        obtain ⟨_, ⟨i, hi, rfl⟩, rfl⟩ := hp
        have hj := (List.getElem?_eq_some_iff.1 hi).1
        obtain rfl : j = i := by simpa using (List.getElem?_eq_some_iff.1 hi).2
        obtain ⟨v0, q0, r0⟩ := hR j (by simp at hj; omega)
        rw [ad] at q0
        exact ⟨v0, q0, r0, r0.one trivial⟩
      have keyc : ∀ j, j < (((List.range len).map R).map N).length → ∃ v, W.cell? ⟨B0, o + j, none⟩ = some v ∧ v.oneCell' = true := fun j hj => by
        obtain ⟨v, q1, _, q3⟩ := key j _ (List.getElem?_eq_getElem hj)
        exact ⟨v, q1, q3⟩
      rw [hle]
      refine .lst len m _ B0 o (fun j => (W.cell? ⟨B0, o + j, none⟩).getD (.int .i64 0)) hB (fun h => h) ⟨hl, hm⟩ (fun j hj => ?_) (fun j hj => ?_) (fun j pv hp => ?_)
      · obtain ⟨v, q1, _⟩ := keyc j hj; show _ = some (Option.getD _ _); rw [q1]; rfl
      · obtain ⟨v, q1, q2⟩ := keyc j hj; show Value.oneCell' (Option.getD _ _) = true; rw [q1]; exact q2
      · obtain ⟨v, q1, q2, _⟩ := key j pv hp; show RepP _ W pv (Option.getD _ _); rw [q1]; exact q2
theorem rep_list {W : World} : ∀ (ps : List PV) (xs : List Value), xs.length = ps.length → (∀ (j : Nat) p x, ps[j]? = some p → xs[j]? = some x → RepP (fun _ => False) W p x ∧ x.oneCell' = true) → RepP (fun _ => False) W (.agg ps) (.agg xs.toArray) := fun ps xs hl h =>
  .agg ps xs hl (fun j x hx => by
    have hlt := (List.getElem?_eq_some_iff.1 hx).1
    exact (h j ps[j] x (List.getElem?_eq_getElem (by omega)) hx).2) fun j p x hp hx => (h j p x hp hx).1
theorem LP_of_row1 {H : Type} {enc : TypeId × Value → H} {W : World} {held : Bool} {r : Reach} {b0 : Nat} {v : Value} {d : DataW H} {p : List MemPlace} (hv : Value.okWide Try.prog W r b0 25 v) (h : DataW.Trod enc Try.prog W 0 (fun _ => true) held 25 v d p) : ∃ l, RepP (fun _ => False) W (LPv l) v := by
  obtain ⟨c0, c1, c2, y0, y1, y2, m, rfl, _, _, h0, h1, h2⟩ := open_agg3 Try.underlying25 (by kernel_rfl) (by kernel_rfl) hv h
  obtain ⟨a, ha⟩ := Ints_of_row h0
  obtain ⟨b, hb⟩ := RR_of_row h1
  obtain ⟨c, hc⟩ := Ints_of_row h2
  refine ⟨⟨a, b, c⟩, rep_list [N a, RR b, N c] [c0, c1, c2] rfl fun j p x hp hx => ?_⟩
  rcases j with _ | _ | _ | j
  · obtain rfl := Option.some.inj hp; obtain rfl := Option.some.inj hx; exact ⟨ha, ha.one trivial⟩
  · obtain rfl := Option.some.inj hp; obtain rfl := Option.some.inj hx; exact ⟨hb, hb.one trivial⟩
  · obtain rfl := Option.some.inj hp; obtain rfl := Option.some.inj hx; exact ⟨hc, hc.one trivial⟩
  · simp at hp
theorem OP_of_row1 {H : Type} {enc : TypeId × Value → H} {W : World} {held : Bool} {r : Reach} {b0 : Nat} {v : Value} {d : DataW H} {p : List MemPlace} (hv : Value.okWide Try.prog W r b0 38 v) (h : DataW.Trod enc Try.prog W 0 (fun _ => true) held 38 v d p) : ∃ l, RepP (fun _ => False) W (OPv l) v := by
  obtain ⟨⟨cs⟩, rfl, hsz⟩ := okWide_struct Try.underlying38 hv
  have hC : Try.prog.cellsOf 38 = 5 := by kernel_rfl
  have cr : Try.prog.cellsOf 36 = 3 := by kernel_rfl
  have cs1 : Try.prog.cellsOf 31 = 1 := by kernel_rfl
  have cb : Try.prog.cellsOf 4 = 1 := by kernel_rfl
  have cn : Try.prog.cellsOf 34 = 1 := by kernel_rfl
  obtain ⟨k, h⟩ := h
  replace h : DataW.trod enc Try.prog W 0 (fun _ => true) held k 38 cs = some (d, p) := h
  have hlen : cs.length = 5 := by have := hsz.trans hC; simpa using this
  obtain ⟨xs, k', hk, hxy, _, hxl, hf⟩ := DataW.trod_struct Try.underlying38 h
  match xs, hxl, cs, hlen with
  | [y0, y1, y2], _, [w0, w1, w2, w3, w4], _ =>
    have g0 := hf 0 _ rfl
    have g1 := hf 1 _ rfl
    have g2 := hf 2 _ rfl
    simp [cr, cs1] at g0 g1 g2
    obtain ⟨xs', k2, _, _, _, hxl', hf'⟩ := DataW.trod_struct Try.underlying36 g0
    match xs', hxl' with
    | [z0, z1, z2], _ =>
      have e0 := hf' 0 _ rfl
      have e1 := hf' 1 _ rfl
      have e2 := hf' 2 _ rfl
      simp [cb, cn] at e0 e1 e2
      obtain ⟨b, hb', _⟩ := DataW.trod_bool Try.underlying4 e0
      injection hb' with hb'
      subst hb'
      obtain ⟨pp, hp⟩ := Nat_of_row e1
      obtain ⟨qq, hq⟩ := Nat_of_row e2
      obtain ⟨lx, hlx⟩ := RL_of_row g1
      obtain ⟨ld, hld⟩ := RL_of_row g2
      refine ⟨⟨⟨b, pp, qq⟩, lx, ld⟩, rep_list [B b, N pp, N qq, RL lx, RL ld] _ rfl fun j p x hp' hx' => ?_⟩
      rcases j with _ | _ | _ | _ | _ | j
      · obtain rfl := Option.some.inj hp'; obtain rfl := Option.some.inj hx'; exact ⟨.v _ rfl, rfl⟩
      · obtain rfl := Option.some.inj hp'; obtain rfl := Option.some.inj hx'; exact ⟨hp, hp.one trivial⟩
      · obtain rfl := Option.some.inj hp'; obtain rfl := Option.some.inj hx'; exact ⟨hq, hq.one trivial⟩
      · obtain rfl := Option.some.inj hp'; obtain rfl := Option.some.inj hx'; exact ⟨hlx, hlx.one trivial⟩
      · obtain rfl := Option.some.inj hp'; obtain rfl := Option.some.inj hx'; exact ⟨hld, hld.one trivial⟩
      · simp at hp'
end Go.Proofs.Ytiondkijgpjgcaa.Pw
