/- The functions of the program as functions of values, part 16: a proof's lemmas, with no condition of their own. -/
import Derived.Test.YtalklhbdpmggjaaDoorNeo
set_option linter.unusedVariables false
set_option linter.unusedSimpArgs false
namespace Go.Proofs.YtalklhbdpmggjaaDoor.Pw
open Go Wd Px Mat
set_option linter.unusedVariables false
set_option linter.unusedSimpArgs false
set_option maxRecDepth 100000
set_option maxHeartbeats 8000000
attribute [local irreducible] Int.tmod Int.tdiv
theorem split_47 : ∀ (A A' B B' : List UInt8), (∀ c ∈ A, c ≠ 47) → (∀ c ∈ A', c ≠ 47) → (B = [] ∨ ∃ t, B = 47 :: t) → (B' = [] ∨ ∃ t, B' = 47 :: t) → A ++ B = A' ++ B' → A = A' ∧ B = B'
  | [], [], B, B', _, _, _, _, h => ⟨rfl, h⟩
  | [], c :: A', B, B', _, h2, hb, _, h => by
    rcases hb with rfl | ⟨t, rfl⟩
    · cases h
    · injection h with h _; exact absurd h.symm (h2 c (by simp))
  | c :: A, [], B, B', h1, _, _, hb, h => by
    rcases hb with rfl | ⟨t, rfl⟩
    · cases h
    · injection h with h _; exact absurd h (h1 c (by simp))
  | c :: A, c' :: A', B, B', h1, h2, hb, hb', h => by
    injection h with e h
    obtain ⟨k1, k2⟩ := split_47 A A' B B' (fun x hx => h1 x (by simp [hx])) (fun x hx => h2 x (by simp [hx])) hb hb' h
    exact ⟨by rw [e, k1], k2⟩
theorem textL_digs {a : List Int} (h : okN a = true) : digs (textL a) = true := by
  rw [textL_dec h]; exact (dec_facts _ _ (Nat.le_refl _)).2.1
theorem textL_inj {a b : List Int} (ha : okN a = true) (hb : okN b = true) (h : textL a = textL b) : a = b := by
  have h1 := (textL_facts ha).2.2
  have h2 := (textL_facts hb).2.2
  rw [h, h2] at h1
  injection h1 with h1 _; exact h1.symm
theorem digs_mem {l : List UInt8} (h : digs l = true) : ∀ c ∈ l, 48 ≤ c.toNat ∧ c.toNat ≤ 57 := fun c hc => by
  unfold digs at h; rw [List.all_eq_true] at h; simpa using h c hc
theorem text_list (x : Rt) : (ratText x).data.toList = ((if x.neg = true then [45] else []) ++ textL x.p) ++ (if x.q = [1] then [] else 47 :: textL x.q) := by
  unfold ratText signB txB
  split <;> split <;> simp
theorem ratText_inj {x y : Rt} (hx : rvB x = true) (hy : rvB y = true) (h : (ratText x).data.toList = (ratText y).data.toList) : x = y := by
  obtain ⟨x1, x2, _⟩ := rvB_iff.1 hx
  obtain ⟨y1, y2, _⟩ := rvB_iff.1 hy
  rw [text_list, text_list] at h
  have nd : ∀ (n : Bool) (a : List Int), okN a = true → ∀ c ∈ (if n = true then [45] else []) ++ textL a, c ≠ 47 := fun n a ha c hc e => by
    subst e
    rcases List.mem_append.1 hc with hc | hc
    · split at hc
      · simp at hc
      · cases hc
    · have := digs_mem (textL_digs ha) 47 hc
      have e : (47 : UInt8).toNat = 47 := rfl
      omega
  have tl : ∀ q : List Int, (if q = [1] then [] else 47 :: textL q) = [] ∨ ∃ t, (if q = [1] then [] else 47 :: textL q) = 47 :: t := fun q => by
    split
    · exact .inl rfl
    · exact .inr ⟨_, rfl⟩
  obtain ⟨h1, h2⟩ := split_47 _ _ _ _ (nd x.neg x.p x1) (nd y.neg y.p y1) (tl x.q) (tl y.q) h
  have hq : x.q = y.q := by
    by_cases q1 : x.q = [1] <;> by_cases q2 : y.q = [1]
    · rw [q1, q2]
    · rw [if_pos q1, if_neg q2] at h2; cases h2
    · rw [if_neg q1, if_pos q2] at h2; cases h2
    · rw [if_neg q1, if_neg q2] at h2
      injection h2 with _ h2
      exact textL_inj x2 y2 h2
  have first : ∀ (a b : List Int), okN b = true → 45 :: textL a = textL b → False := fun a b hb e => by
    have := digs_mem (textL_digs hb) 45 (by rw [← e]; simp)
    have e : (45 : UInt8).toNat = 45 := rfl
    omega
  obtain ⟨xn, xp, xq⟩ := x
  obtain ⟨yn, yp, yq⟩ := y
  dsimp only at *
  subst hq
  cases xn <;> cases yn <;> simp only [if_true, if_false, Bool.false_eq_true, reduceIte, List.nil_append, List.cons_append] at h1
  · rw [textL_inj x1 y1 h1]
  · exact (first _ _ x1 h1.symm).elim
  · exact (first _ _ y1 h1).elim
  · injection h1 with _ h1
    rw [textL_inj x1 y1 h1]
theorem text_same {x y : Rt} (hx : rvB x = true) (hy : rvB y = true) : ((ratText x).data.toList == (ratText y).data.toList) = sameS x y := by
  by_cases h : x = y
  · subst h; rw [sameS_self]; exact beqT _
  · rw [show sameS x y = false by rw [Bool.eq_false_iff]; exact fun e => h (sameS_iff.1 e), Bool.eq_false_iff]
    exact fun e => h (ratText_inj hx hy (eq_of_beq e))
theorem zero.c : Sound Tryd.prog 74 [R zR] (B true) := runO tok mixed [] 300 6 Obs.nil (by kernel_rfl)
theorem div_facts' {x y z : Rt} {e : Int} (h : divR x y = (z, e)) : (e = 0 → rvB z = true) ∧ (e ≠ 0 → z = zR) := by
  unfold divR at h
  split at h
  · split at h
    · injection h with h1 h2; subst h1; subst h2; exact ⟨fun h => absurd h (by decide), fun _ => rfl⟩
    · rcases mulR_ok h with h | h
      · exact ⟨fun _ => h.2.2.2.1, fun k => absurd h.1 k⟩
      · exact ⟨fun k => absurd k h.1, fun _ => h.2⟩
  · injection h with h1 h2; subst h1; subst h2; exact ⟨fun h => absurd h (by decide), fun _ => rfl⟩
theorem add_facts' {x y z : Rt} {e : Int} (h : addR x y = (z, e)) : (e = 0 → rvB z = true) ∧ (e ≠ 0 → z = zR) := by
  rcases addR_ok h with h | h
  · exact ⟨fun _ => h.2.2.2.1, fun k => absurd h.1 k⟩
  · exact ⟨fun k => absurd k h.1, fun _ => h.2⟩
theorem mul_facts' {x y z : Rt} {e : Int} (h : mulR x y = (z, e)) : (e = 0 → rvB z = true) ∧ (e ≠ 0 → z = zR) := by
  rcases mulR_ok h with h | h
  · exact ⟨fun _ => h.2.2.2.1, fun k => absurd h.1 k⟩
  · exact ⟨fun k => absurd k h.1, fun _ => h.2⟩
theorem bad_all {a b : Rt} (h : ¬ (rvB a = true ∧ rvB b = true)) : addR a b = (zR, 3) ∧ mulR a b = (zR, 3) ∧ divR a b = (zR, 3) := by
  unfold addR mulR divR
  rw [if_neg h, if_neg h, if_neg h]; exact ⟨rfl, rfl, rfl⟩
theorem RatForms_0 (a b : Rt) (ha : ¬ rvB a = true) : Sound Tryd.prog 19 [R a, R b] (B true) := by
  obtain ⟨e1, e2, e3⟩ := bad_all (a := a) (b := b) fun h => ha h.1
  have c1 := rat_Add.c a b
  have c2 := rat_Mul.c a b
  have c3 := rat_Div.c a b
  have c4 := rat_Neg.c a
  have c5 := rat_Text.c a
  have c6 := rat_Text.c b
  have c7 := rat_Valid.c a
  rw [e1] at c1; rw [e2] at c2; rw [e3] at c3
  rw [if_neg ha, if_neg ha] at c4
  rw [show rtS a = (⟨#[]⟩, 3) by unfold rtS; rw [if_neg ha]] at c5
  replace ha : rvB a = false := by simpa using ha
  rw [ha] at c7
  generalize rtS b = T at *
  obtain ⟨t, k⟩ := T
  obtain ⟨an, ap, aq⟩ := a
  obtain ⟨bn, bp, bq⟩ := b
  exact runO tok mixed [61, 70, 72, 51, 57, 59, 49, 74, 50] 300 6 (Obs.cons c1 (Obs.cons c2 (Obs.cons c3 (Obs.cons c4 (Obs.cons zero.c (Obs.cons zero.c (Obs.cons zero.c (Obs.cons zero.c (Obs.cons c5 (Obs.cons c6 (Obs.cons c7 (Obs.cons awake03.c Obs.nil)))))))))))) (by kernel_rfl)
theorem RatForms_1 (a b : Rt) (ha : rvB a = true) (hb : ¬ rvB b = true) : Sound Tryd.prog 19 [R a, R b] (B true) := by
  obtain ⟨e1, e2, e3⟩ := bad_all (a := a) (b := b) fun h => hb h.2
  have c1 := rat_Add.c a b
  have c2 := rat_Mul.c a b
  have c3 := rat_Div.c a b
  have c4 := rat_Neg.c a
  have c5 := rat_Text.c a
  have c6 := rat_Text.c b
  have c7 := rat_Valid.c a
  have c8 := rat_Valid.c (negR a)
  rw [(negR_ok ha).1] at c8
  rw [e1] at c1; rw [e2] at c2; rw [e3] at c3
  rw [if_pos ha, if_pos ha] at c4
  rw [show rtS a = (ratText a, 0) by unfold rtS; rw [if_pos ha]] at c5
  rw [show rtS b = (⟨#[]⟩, 3) by unfold rtS; rw [if_neg hb]] at c6
  rw [ha] at c7
  generalize ratText a = t at *
  generalize negR a = m at *
  obtain ⟨an, ap, aq⟩ := a
  obtain ⟨bn, bp, bq⟩ := b
  obtain ⟨mn, mp, mq⟩ := m
  exact runO tok mixed [61, 70, 72, 51, 57, 59, 49, 74, 50] 300 6 (Obs.cons c1 (Obs.cons c2 (Obs.cons c3 (Obs.cons c4 (Obs.cons zero.c (Obs.cons zero.c (Obs.cons zero.c (Obs.cons c8 (Obs.cons c5 (Obs.cons c6 (Obs.cons c7 (Obs.cons awake03.c Obs.nil)))))))))))) (by kernel_rfl)
theorem RatForms_2 (a b : Rt) (ha : rvB a = true) (hb : rvB b = true) (ze : (addR a b).2 = 0) (zf : (mulR a b).2 = 0) (zg : (divR a b).2 = 0) : Sound Tryd.prog 19 [R a, R b] (B true) := by
  have c1 := rat_Add.c a b
  have c2 := rat_Mul.c a b
  have c3 := rat_Div.c a b
  have c4 := rat_Neg.c a
  have c5 := rat_Text.c a
  have c6 := rat_Text.c b
  have c7 := rat_Valid.c a
  have c8 := rat_Valid.c (negR a)
  rw [(negR_ok ha).1] at c8
  have f1 : ((addR a b).2 = 0 → rvB (addR a b).1 = true) ∧ ((addR a b).2 ≠ 0 → (addR a b).1 = zR) := add_facts' rfl
  have f2 : ((mulR a b).2 = 0 → rvB (mulR a b).1 = true) ∧ ((mulR a b).2 ≠ 0 → (mulR a b).1 = zR) := mul_facts' rfl
  have f3 : ((divR a b).2 = 0 → rvB (divR a b).1 = true) ∧ ((divR a b).2 ≠ 0 → (divR a b).1 = zR) := div_facts' rfl
  have v1 := rat_Valid.c (addR a b).1
  have v2 := rat_Valid.c (mulR a b).1
  have v3 := rat_Valid.c (divR a b).1
  rw [if_pos ha, if_pos ha] at c4
  rw [show rtS a = (ratText a, 0) by unfold rtS; rw [if_pos ha]] at c5
  rw [show rtS b = (ratText b, 0) by unfold rtS; rw [if_pos hb]] at c6
  rw [ha] at c7
  have sm := r3_Same.c a b
  have ts := text_same ha hb
  generalize sameS a b = sb at *
  generalize ratText a = t at *
  generalize ratText b = u at *
  generalize negR a = m at *
  generalize addR a b = S at *
  generalize mulR a b = P at *
  generalize divR a b = D at *
  obtain ⟨s, e⟩ := S
  obtain ⟨p, f⟩ := P
  obtain ⟨d, g⟩ := D
  dsimp only at *
  rw [f1.1 ze] at v1
  obtain ⟨sn, sp, sq⟩ := s
  rw [f2.1 zf] at v2
  obtain ⟨pn, pp, pq⟩ := p
  rw [f3.1 zg] at v3
  obtain ⟨dn, dp, dq⟩ := d
  obtain ⟨an, ap, aq⟩ := a
  obtain ⟨bn, bp, bq⟩ := b
  obtain ⟨mn, mp, mq⟩ := m
  cases sb
  · exact runO tok mixed [61, 70, 72, 51, 57, 59, 49, 74, 50] 300 6 (Obs.cons c1 (Obs.cons c2 (Obs.cons c3 (Obs.cons c4 (Obs.br 1 (eqT ze) (Obs.cons v1 (Obs.br 0 (neF ze) (Obs.br 1 (eqT zf) (Obs.cons v2 (Obs.br 0 (neF zf) (Obs.br 1 (eqT zg) (Obs.cons v3 (Obs.br 0 (neF zg) (Obs.cons c8 (Obs.cons c5 (Obs.cons c6 (Obs.cons c7 (Obs.br 3 ts (Obs.cons sm (Obs.cons awake03.c Obs.nil)))))))))))))))))))) (by kernel_rfl)
  · exact runO tok mixed [61, 70, 72, 51, 57, 59, 49, 74, 50] 300 6 (Obs.cons c1 (Obs.cons c2 (Obs.cons c3 (Obs.cons c4 (Obs.br 1 (eqT ze) (Obs.cons v1 (Obs.br 0 (neF ze) (Obs.br 1 (eqT zf) (Obs.cons v2 (Obs.br 0 (neF zf) (Obs.br 1 (eqT zg) (Obs.cons v3 (Obs.br 0 (neF zg) (Obs.cons c8 (Obs.cons c5 (Obs.cons c6 (Obs.cons c7 (Obs.br 3 ts (Obs.cons sm (Obs.cons awake03.c Obs.nil)))))))))))))))))))) (by kernel_rfl)
theorem RatForms_3 (a b : Rt) (ha : rvB a = true) (hb : rvB b = true) (ze : (addR a b).2 = 0) (zf : (mulR a b).2 = 0) (zg : ¬ (divR a b).2 = 0) : Sound Tryd.prog 19 [R a, R b] (B true) := by
  have c1 := rat_Add.c a b
  have c2 := rat_Mul.c a b
  have c3 := rat_Div.c a b
  have c4 := rat_Neg.c a
  have c5 := rat_Text.c a
  have c6 := rat_Text.c b
  have c7 := rat_Valid.c a
  have c8 := rat_Valid.c (negR a)
  rw [(negR_ok ha).1] at c8
  have f1 : ((addR a b).2 = 0 → rvB (addR a b).1 = true) ∧ ((addR a b).2 ≠ 0 → (addR a b).1 = zR) := add_facts' rfl
  have f2 : ((mulR a b).2 = 0 → rvB (mulR a b).1 = true) ∧ ((mulR a b).2 ≠ 0 → (mulR a b).1 = zR) := mul_facts' rfl
  have f3 : ((divR a b).2 = 0 → rvB (divR a b).1 = true) ∧ ((divR a b).2 ≠ 0 → (divR a b).1 = zR) := div_facts' rfl
  have v1 := rat_Valid.c (addR a b).1
  have v2 := rat_Valid.c (mulR a b).1
  have v3 := rat_Valid.c (divR a b).1
  rw [if_pos ha, if_pos ha] at c4
  rw [show rtS a = (ratText a, 0) by unfold rtS; rw [if_pos ha]] at c5
  rw [show rtS b = (ratText b, 0) by unfold rtS; rw [if_pos hb]] at c6
  rw [ha] at c7
  have sm := r3_Same.c a b
  have ts := text_same ha hb
  generalize sameS a b = sb at *
  generalize ratText a = t at *
  generalize ratText b = u at *
  generalize negR a = m at *
  generalize addR a b = S at *
  generalize mulR a b = P at *
  generalize divR a b = D at *
  obtain ⟨s, e⟩ := S
  obtain ⟨p, f⟩ := P
  obtain ⟨d, g⟩ := D
  dsimp only at *
  rw [f1.1 ze] at v1
  obtain ⟨sn, sp, sq⟩ := s
  rw [f2.1 zf] at v2
  obtain ⟨pn, pp, pq⟩ := p
  obtain rfl := f3.2 zg
  obtain ⟨an, ap, aq⟩ := a
  obtain ⟨bn, bp, bq⟩ := b
  obtain ⟨mn, mp, mq⟩ := m
  cases sb
  · exact runO tok mixed [61, 70, 72, 51, 57, 59, 49, 74, 50] 300 6 (Obs.cons c1 (Obs.cons c2 (Obs.cons c3 (Obs.cons c4 (Obs.br 1 (eqT ze) (Obs.cons v1 (Obs.br 0 (neF ze) (Obs.br 1 (eqT zf) (Obs.cons v2 (Obs.br 0 (neF zf) (Obs.br 1 (eqF zg) (Obs.br 0 (neT zg) (Obs.cons zero.c (Obs.cons c8 (Obs.cons c5 (Obs.cons c6 (Obs.cons c7 (Obs.br 3 ts (Obs.cons sm (Obs.cons awake03.c Obs.nil)))))))))))))))))))) (by kernel_rfl)
  · exact runO tok mixed [61, 70, 72, 51, 57, 59, 49, 74, 50] 300 6 (Obs.cons c1 (Obs.cons c2 (Obs.cons c3 (Obs.cons c4 (Obs.br 1 (eqT ze) (Obs.cons v1 (Obs.br 0 (neF ze) (Obs.br 1 (eqT zf) (Obs.cons v2 (Obs.br 0 (neF zf) (Obs.br 1 (eqF zg) (Obs.br 0 (neT zg) (Obs.cons zero.c (Obs.cons c8 (Obs.cons c5 (Obs.cons c6 (Obs.cons c7 (Obs.br 3 ts (Obs.cons sm (Obs.cons awake03.c Obs.nil)))))))))))))))))))) (by kernel_rfl)
theorem RatForms_4 (a b : Rt) (ha : rvB a = true) (hb : rvB b = true) (ze : (addR a b).2 = 0) (zf : ¬ (mulR a b).2 = 0) (zg : (divR a b).2 = 0) : Sound Tryd.prog 19 [R a, R b] (B true) := by
  have c1 := rat_Add.c a b
  have c2 := rat_Mul.c a b
  have c3 := rat_Div.c a b
  have c4 := rat_Neg.c a
  have c5 := rat_Text.c a
  have c6 := rat_Text.c b
  have c7 := rat_Valid.c a
  have c8 := rat_Valid.c (negR a)
  rw [(negR_ok ha).1] at c8
  have f1 : ((addR a b).2 = 0 → rvB (addR a b).1 = true) ∧ ((addR a b).2 ≠ 0 → (addR a b).1 = zR) := add_facts' rfl
  have f2 : ((mulR a b).2 = 0 → rvB (mulR a b).1 = true) ∧ ((mulR a b).2 ≠ 0 → (mulR a b).1 = zR) := mul_facts' rfl
  have f3 : ((divR a b).2 = 0 → rvB (divR a b).1 = true) ∧ ((divR a b).2 ≠ 0 → (divR a b).1 = zR) := div_facts' rfl
  have v1 := rat_Valid.c (addR a b).1
  have v2 := rat_Valid.c (mulR a b).1
  have v3 := rat_Valid.c (divR a b).1
  rw [if_pos ha, if_pos ha] at c4
  rw [show rtS a = (ratText a, 0) by unfold rtS; rw [if_pos ha]] at c5
  rw [show rtS b = (ratText b, 0) by unfold rtS; rw [if_pos hb]] at c6
  rw [ha] at c7
  have sm := r3_Same.c a b
  have ts := text_same ha hb
  generalize sameS a b = sb at *
  generalize ratText a = t at *
  generalize ratText b = u at *
  generalize negR a = m at *
  generalize addR a b = S at *
  generalize mulR a b = P at *
  generalize divR a b = D at *
  obtain ⟨s, e⟩ := S
  obtain ⟨p, f⟩ := P
  obtain ⟨d, g⟩ := D
  dsimp only at *
  rw [f1.1 ze] at v1
  obtain ⟨sn, sp, sq⟩ := s
  obtain rfl := f2.2 zf
  rw [f3.1 zg] at v3
  obtain ⟨dn, dp, dq⟩ := d
  obtain ⟨an, ap, aq⟩ := a
  obtain ⟨bn, bp, bq⟩ := b
  obtain ⟨mn, mp, mq⟩ := m
  cases sb
  · exact runO tok mixed [61, 70, 72, 51, 57, 59, 49, 74, 50] 300 6 (Obs.cons c1 (Obs.cons c2 (Obs.cons c3 (Obs.cons c4 (Obs.br 1 (eqT ze) (Obs.cons v1 (Obs.br 0 (neF ze) (Obs.br 1 (eqF zf) (Obs.br 0 (neT zf) (Obs.cons zero.c (Obs.br 1 (eqT zg) (Obs.cons v3 (Obs.br 0 (neF zg) (Obs.cons c8 (Obs.cons c5 (Obs.cons c6 (Obs.cons c7 (Obs.br 3 ts (Obs.cons sm (Obs.cons awake03.c Obs.nil)))))))))))))))))))) (by kernel_rfl)
  · exact runO tok mixed [61, 70, 72, 51, 57, 59, 49, 74, 50] 300 6 (Obs.cons c1 (Obs.cons c2 (Obs.cons c3 (Obs.cons c4 (Obs.br 1 (eqT ze) (Obs.cons v1 (Obs.br 0 (neF ze) (Obs.br 1 (eqF zf) (Obs.br 0 (neT zf) (Obs.cons zero.c (Obs.br 1 (eqT zg) (Obs.cons v3 (Obs.br 0 (neF zg) (Obs.cons c8 (Obs.cons c5 (Obs.cons c6 (Obs.cons c7 (Obs.br 3 ts (Obs.cons sm (Obs.cons awake03.c Obs.nil)))))))))))))))))))) (by kernel_rfl)
theorem RatForms_5 (a b : Rt) (ha : rvB a = true) (hb : rvB b = true) (ze : (addR a b).2 = 0) (zf : ¬ (mulR a b).2 = 0) (zg : ¬ (divR a b).2 = 0) : Sound Tryd.prog 19 [R a, R b] (B true) := by
  have c1 := rat_Add.c a b
  have c2 := rat_Mul.c a b
  have c3 := rat_Div.c a b
  have c4 := rat_Neg.c a
  have c5 := rat_Text.c a
  have c6 := rat_Text.c b
  have c7 := rat_Valid.c a
  have c8 := rat_Valid.c (negR a)
  rw [(negR_ok ha).1] at c8
  have f1 : ((addR a b).2 = 0 → rvB (addR a b).1 = true) ∧ ((addR a b).2 ≠ 0 → (addR a b).1 = zR) := add_facts' rfl
  have f2 : ((mulR a b).2 = 0 → rvB (mulR a b).1 = true) ∧ ((mulR a b).2 ≠ 0 → (mulR a b).1 = zR) := mul_facts' rfl
  have f3 : ((divR a b).2 = 0 → rvB (divR a b).1 = true) ∧ ((divR a b).2 ≠ 0 → (divR a b).1 = zR) := div_facts' rfl
  have v1 := rat_Valid.c (addR a b).1
  have v2 := rat_Valid.c (mulR a b).1
  have v3 := rat_Valid.c (divR a b).1
  rw [if_pos ha, if_pos ha] at c4
  rw [show rtS a = (ratText a, 0) by unfold rtS; rw [if_pos ha]] at c5
  rw [show rtS b = (ratText b, 0) by unfold rtS; rw [if_pos hb]] at c6
  rw [ha] at c7
  have sm := r3_Same.c a b
  have ts := text_same ha hb
  generalize sameS a b = sb at *
  generalize ratText a = t at *
  generalize ratText b = u at *
  generalize negR a = m at *
  generalize addR a b = S at *
  generalize mulR a b = P at *
  generalize divR a b = D at *
  obtain ⟨s, e⟩ := S
  obtain ⟨p, f⟩ := P
  obtain ⟨d, g⟩ := D
  dsimp only at *
  rw [f1.1 ze] at v1
  obtain ⟨sn, sp, sq⟩ := s
  obtain rfl := f2.2 zf
  obtain rfl := f3.2 zg
  obtain ⟨an, ap, aq⟩ := a
  obtain ⟨bn, bp, bq⟩ := b
  obtain ⟨mn, mp, mq⟩ := m
  cases sb
  · exact runO tok mixed [61, 70, 72, 51, 57, 59, 49, 74, 50] 300 6 (Obs.cons c1 (Obs.cons c2 (Obs.cons c3 (Obs.cons c4 (Obs.br 1 (eqT ze) (Obs.cons v1 (Obs.br 0 (neF ze) (Obs.br 1 (eqF zf) (Obs.br 0 (neT zf) (Obs.cons zero.c (Obs.br 1 (eqF zg) (Obs.br 0 (neT zg) (Obs.cons zero.c (Obs.cons c8 (Obs.cons c5 (Obs.cons c6 (Obs.cons c7 (Obs.br 3 ts (Obs.cons sm (Obs.cons awake03.c Obs.nil)))))))))))))))))))) (by kernel_rfl)
  · exact runO tok mixed [61, 70, 72, 51, 57, 59, 49, 74, 50] 300 6 (Obs.cons c1 (Obs.cons c2 (Obs.cons c3 (Obs.cons c4 (Obs.br 1 (eqT ze) (Obs.cons v1 (Obs.br 0 (neF ze) (Obs.br 1 (eqF zf) (Obs.br 0 (neT zf) (Obs.cons zero.c (Obs.br 1 (eqF zg) (Obs.br 0 (neT zg) (Obs.cons zero.c (Obs.cons c8 (Obs.cons c5 (Obs.cons c6 (Obs.cons c7 (Obs.br 3 ts (Obs.cons sm (Obs.cons awake03.c Obs.nil)))))))))))))))))))) (by kernel_rfl)
theorem RatForms_6 (a b : Rt) (ha : rvB a = true) (hb : rvB b = true) (ze : ¬ (addR a b).2 = 0) (zf : (mulR a b).2 = 0) (zg : (divR a b).2 = 0) : Sound Tryd.prog 19 [R a, R b] (B true) := by
  have c1 := rat_Add.c a b
  have c2 := rat_Mul.c a b
  have c3 := rat_Div.c a b
  have c4 := rat_Neg.c a
  have c5 := rat_Text.c a
  have c6 := rat_Text.c b
  have c7 := rat_Valid.c a
  have c8 := rat_Valid.c (negR a)
  rw [(negR_ok ha).1] at c8
  have f1 : ((addR a b).2 = 0 → rvB (addR a b).1 = true) ∧ ((addR a b).2 ≠ 0 → (addR a b).1 = zR) := add_facts' rfl
  have f2 : ((mulR a b).2 = 0 → rvB (mulR a b).1 = true) ∧ ((mulR a b).2 ≠ 0 → (mulR a b).1 = zR) := mul_facts' rfl
  have f3 : ((divR a b).2 = 0 → rvB (divR a b).1 = true) ∧ ((divR a b).2 ≠ 0 → (divR a b).1 = zR) := div_facts' rfl
  have v1 := rat_Valid.c (addR a b).1
  have v2 := rat_Valid.c (mulR a b).1
  have v3 := rat_Valid.c (divR a b).1
  rw [if_pos ha, if_pos ha] at c4
  rw [show rtS a = (ratText a, 0) by unfold rtS; rw [if_pos ha]] at c5
  rw [show rtS b = (ratText b, 0) by unfold rtS; rw [if_pos hb]] at c6
  rw [ha] at c7
  have sm := r3_Same.c a b
  have ts := text_same ha hb
  generalize sameS a b = sb at *
  generalize ratText a = t at *
  generalize ratText b = u at *
  generalize negR a = m at *
  generalize addR a b = S at *
  generalize mulR a b = P at *
  generalize divR a b = D at *
  obtain ⟨s, e⟩ := S
  obtain ⟨p, f⟩ := P
  obtain ⟨d, g⟩ := D
  dsimp only at *
  obtain rfl := f1.2 ze
  rw [f2.1 zf] at v2
  obtain ⟨pn, pp, pq⟩ := p
  rw [f3.1 zg] at v3
  obtain ⟨dn, dp, dq⟩ := d
  obtain ⟨an, ap, aq⟩ := a
  obtain ⟨bn, bp, bq⟩ := b
  obtain ⟨mn, mp, mq⟩ := m
  cases sb
  · exact runO tok mixed [61, 70, 72, 51, 57, 59, 49, 74, 50] 300 6 (Obs.cons c1 (Obs.cons c2 (Obs.cons c3 (Obs.cons c4 (Obs.br 1 (eqF ze) (Obs.br 0 (neT ze) (Obs.cons zero.c (Obs.br 1 (eqT zf) (Obs.cons v2 (Obs.br 0 (neF zf) (Obs.br 1 (eqT zg) (Obs.cons v3 (Obs.br 0 (neF zg) (Obs.cons c8 (Obs.cons c5 (Obs.cons c6 (Obs.cons c7 (Obs.br 3 ts (Obs.cons sm (Obs.cons awake03.c Obs.nil)))))))))))))))))))) (by kernel_rfl)
  · exact runO tok mixed [61, 70, 72, 51, 57, 59, 49, 74, 50] 300 6 (Obs.cons c1 (Obs.cons c2 (Obs.cons c3 (Obs.cons c4 (Obs.br 1 (eqF ze) (Obs.br 0 (neT ze) (Obs.cons zero.c (Obs.br 1 (eqT zf) (Obs.cons v2 (Obs.br 0 (neF zf) (Obs.br 1 (eqT zg) (Obs.cons v3 (Obs.br 0 (neF zg) (Obs.cons c8 (Obs.cons c5 (Obs.cons c6 (Obs.cons c7 (Obs.br 3 ts (Obs.cons sm (Obs.cons awake03.c Obs.nil)))))))))))))))))))) (by kernel_rfl)
theorem RatForms_7 (a b : Rt) (ha : rvB a = true) (hb : rvB b = true) (ze : ¬ (addR a b).2 = 0) (zf : (mulR a b).2 = 0) (zg : ¬ (divR a b).2 = 0) : Sound Tryd.prog 19 [R a, R b] (B true) := by
  have c1 := rat_Add.c a b
  have c2 := rat_Mul.c a b
  have c3 := rat_Div.c a b
  have c4 := rat_Neg.c a
  have c5 := rat_Text.c a
  have c6 := rat_Text.c b
  have c7 := rat_Valid.c a
  have c8 := rat_Valid.c (negR a)
  rw [(negR_ok ha).1] at c8
  have f1 : ((addR a b).2 = 0 → rvB (addR a b).1 = true) ∧ ((addR a b).2 ≠ 0 → (addR a b).1 = zR) := add_facts' rfl
  have f2 : ((mulR a b).2 = 0 → rvB (mulR a b).1 = true) ∧ ((mulR a b).2 ≠ 0 → (mulR a b).1 = zR) := mul_facts' rfl
  have f3 : ((divR a b).2 = 0 → rvB (divR a b).1 = true) ∧ ((divR a b).2 ≠ 0 → (divR a b).1 = zR) := div_facts' rfl
  have v1 := rat_Valid.c (addR a b).1
  have v2 := rat_Valid.c (mulR a b).1
  have v3 := rat_Valid.c (divR a b).1
  rw [if_pos ha, if_pos ha] at c4
  rw [show rtS a = (ratText a, 0) by unfold rtS; rw [if_pos ha]] at c5
  rw [show rtS b = (ratText b, 0) by unfold rtS; rw [if_pos hb]] at c6
  rw [ha] at c7
  have sm := r3_Same.c a b
  have ts := text_same ha hb
  generalize sameS a b = sb at *
  generalize ratText a = t at *
  generalize ratText b = u at *
  generalize negR a = m at *
  generalize addR a b = S at *
  generalize mulR a b = P at *
  generalize divR a b = D at *
  obtain ⟨s, e⟩ := S
  obtain ⟨p, f⟩ := P
  obtain ⟨d, g⟩ := D
  dsimp only at *
  obtain rfl := f1.2 ze
  rw [f2.1 zf] at v2
  obtain ⟨pn, pp, pq⟩ := p
  obtain rfl := f3.2 zg
  obtain ⟨an, ap, aq⟩ := a
  obtain ⟨bn, bp, bq⟩ := b
  obtain ⟨mn, mp, mq⟩ := m
  cases sb
  · exact runO tok mixed [61, 70, 72, 51, 57, 59, 49, 74, 50] 300 6 (Obs.cons c1 (Obs.cons c2 (Obs.cons c3 (Obs.cons c4 (Obs.br 1 (eqF ze) (Obs.br 0 (neT ze) (Obs.cons zero.c (Obs.br 1 (eqT zf) (Obs.cons v2 (Obs.br 0 (neF zf) (Obs.br 1 (eqF zg) (Obs.br 0 (neT zg) (Obs.cons zero.c (Obs.cons c8 (Obs.cons c5 (Obs.cons c6 (Obs.cons c7 (Obs.br 3 ts (Obs.cons sm (Obs.cons awake03.c Obs.nil)))))))))))))))))))) (by kernel_rfl)
  · exact runO tok mixed [61, 70, 72, 51, 57, 59, 49, 74, 50] 300 6 (Obs.cons c1 (Obs.cons c2 (Obs.cons c3 (Obs.cons c4 (Obs.br 1 (eqF ze) (Obs.br 0 (neT ze) (Obs.cons zero.c (Obs.br 1 (eqT zf) (Obs.cons v2 (Obs.br 0 (neF zf) (Obs.br 1 (eqF zg) (Obs.br 0 (neT zg) (Obs.cons zero.c (Obs.cons c8 (Obs.cons c5 (Obs.cons c6 (Obs.cons c7 (Obs.br 3 ts (Obs.cons sm (Obs.cons awake03.c Obs.nil)))))))))))))))))))) (by kernel_rfl)
theorem RatForms_8 (a b : Rt) (ha : rvB a = true) (hb : rvB b = true) (ze : ¬ (addR a b).2 = 0) (zf : ¬ (mulR a b).2 = 0) (zg : (divR a b).2 = 0) : Sound Tryd.prog 19 [R a, R b] (B true) := by
  have c1 := rat_Add.c a b
  have c2 := rat_Mul.c a b
  have c3 := rat_Div.c a b
  have c4 := rat_Neg.c a
  have c5 := rat_Text.c a
  have c6 := rat_Text.c b
  have c7 := rat_Valid.c a
  have c8 := rat_Valid.c (negR a)
  rw [(negR_ok ha).1] at c8
  have f1 : ((addR a b).2 = 0 → rvB (addR a b).1 = true) ∧ ((addR a b).2 ≠ 0 → (addR a b).1 = zR) := add_facts' rfl
  have f2 : ((mulR a b).2 = 0 → rvB (mulR a b).1 = true) ∧ ((mulR a b).2 ≠ 0 → (mulR a b).1 = zR) := mul_facts' rfl
  have f3 : ((divR a b).2 = 0 → rvB (divR a b).1 = true) ∧ ((divR a b).2 ≠ 0 → (divR a b).1 = zR) := div_facts' rfl
  have v1 := rat_Valid.c (addR a b).1
  have v2 := rat_Valid.c (mulR a b).1
  have v3 := rat_Valid.c (divR a b).1
  rw [if_pos ha, if_pos ha] at c4
  rw [show rtS a = (ratText a, 0) by unfold rtS; rw [if_pos ha]] at c5
  rw [show rtS b = (ratText b, 0) by unfold rtS; rw [if_pos hb]] at c6
  rw [ha] at c7
  have sm := r3_Same.c a b
  have ts := text_same ha hb
  generalize sameS a b = sb at *
  generalize ratText a = t at *
  generalize ratText b = u at *
  generalize negR a = m at *
  generalize addR a b = S at *
  generalize mulR a b = P at *
  generalize divR a b = D at *
  obtain ⟨s, e⟩ := S
  obtain ⟨p, f⟩ := P
  obtain ⟨d, g⟩ := D
  dsimp only at *
  obtain rfl := f1.2 ze
  obtain rfl := f2.2 zf
  rw [f3.1 zg] at v3
  obtain ⟨dn, dp, dq⟩ := d
  obtain ⟨an, ap, aq⟩ := a
  obtain ⟨bn, bp, bq⟩ := b
  obtain ⟨mn, mp, mq⟩ := m
  cases sb
  · exact runO tok mixed [61, 70, 72, 51, 57, 59, 49, 74, 50] 300 6 (Obs.cons c1 (Obs.cons c2 (Obs.cons c3 (Obs.cons c4 (Obs.br 1 (eqF ze) (Obs.br 0 (neT ze) (Obs.cons zero.c (Obs.br 1 (eqF zf) (Obs.br 0 (neT zf) (Obs.cons zero.c (Obs.br 1 (eqT zg) (Obs.cons v3 (Obs.br 0 (neF zg) (Obs.cons c8 (Obs.cons c5 (Obs.cons c6 (Obs.cons c7 (Obs.br 3 ts (Obs.cons sm (Obs.cons awake03.c Obs.nil)))))))))))))))))))) (by kernel_rfl)
  · exact runO tok mixed [61, 70, 72, 51, 57, 59, 49, 74, 50] 300 6 (Obs.cons c1 (Obs.cons c2 (Obs.cons c3 (Obs.cons c4 (Obs.br 1 (eqF ze) (Obs.br 0 (neT ze) (Obs.cons zero.c (Obs.br 1 (eqF zf) (Obs.br 0 (neT zf) (Obs.cons zero.c (Obs.br 1 (eqT zg) (Obs.cons v3 (Obs.br 0 (neF zg) (Obs.cons c8 (Obs.cons c5 (Obs.cons c6 (Obs.cons c7 (Obs.br 3 ts (Obs.cons sm (Obs.cons awake03.c Obs.nil)))))))))))))))))))) (by kernel_rfl)
theorem RatForms_9 (a b : Rt) (ha : rvB a = true) (hb : rvB b = true) (ze : ¬ (addR a b).2 = 0) (zf : ¬ (mulR a b).2 = 0) (zg : ¬ (divR a b).2 = 0) : Sound Tryd.prog 19 [R a, R b] (B true) := by
  have c1 := rat_Add.c a b
  have c2 := rat_Mul.c a b
  have c3 := rat_Div.c a b
  have c4 := rat_Neg.c a
  have c5 := rat_Text.c a
  have c6 := rat_Text.c b
  have c7 := rat_Valid.c a
  have c8 := rat_Valid.c (negR a)
  rw [(negR_ok ha).1] at c8
  have f1 : ((addR a b).2 = 0 → rvB (addR a b).1 = true) ∧ ((addR a b).2 ≠ 0 → (addR a b).1 = zR) := add_facts' rfl
  have f2 : ((mulR a b).2 = 0 → rvB (mulR a b).1 = true) ∧ ((mulR a b).2 ≠ 0 → (mulR a b).1 = zR) := mul_facts' rfl
  have f3 : ((divR a b).2 = 0 → rvB (divR a b).1 = true) ∧ ((divR a b).2 ≠ 0 → (divR a b).1 = zR) := div_facts' rfl
  have v1 := rat_Valid.c (addR a b).1
  have v2 := rat_Valid.c (mulR a b).1
  have v3 := rat_Valid.c (divR a b).1
  rw [if_pos ha, if_pos ha] at c4
  rw [show rtS a = (ratText a, 0) by unfold rtS; rw [if_pos ha]] at c5
  rw [show rtS b = (ratText b, 0) by unfold rtS; rw [if_pos hb]] at c6
  rw [ha] at c7
  have sm := r3_Same.c a b
  have ts := text_same ha hb
  generalize sameS a b = sb at *
  generalize ratText a = t at *
  generalize ratText b = u at *
  generalize negR a = m at *
  generalize addR a b = S at *
  generalize mulR a b = P at *
  generalize divR a b = D at *
  obtain ⟨s, e⟩ := S
  obtain ⟨p, f⟩ := P
  obtain ⟨d, g⟩ := D
  dsimp only at *
  obtain rfl := f1.2 ze
  obtain rfl := f2.2 zf
  obtain rfl := f3.2 zg
  obtain ⟨an, ap, aq⟩ := a
  obtain ⟨bn, bp, bq⟩ := b
  obtain ⟨mn, mp, mq⟩ := m
  cases sb
  · exact runO tok mixed [61, 70, 72, 51, 57, 59, 49, 74, 50] 300 6 (Obs.cons c1 (Obs.cons c2 (Obs.cons c3 (Obs.cons c4 (Obs.br 1 (eqF ze) (Obs.br 0 (neT ze) (Obs.cons zero.c (Obs.br 1 (eqF zf) (Obs.br 0 (neT zf) (Obs.cons zero.c (Obs.br 1 (eqF zg) (Obs.br 0 (neT zg) (Obs.cons zero.c (Obs.cons c8 (Obs.cons c5 (Obs.cons c6 (Obs.cons c7 (Obs.br 3 ts (Obs.cons sm (Obs.cons awake03.c Obs.nil)))))))))))))))))))) (by kernel_rfl)
  · exact runO tok mixed [61, 70, 72, 51, 57, 59, 49, 74, 50] 300 6 (Obs.cons c1 (Obs.cons c2 (Obs.cons c3 (Obs.cons c4 (Obs.br 1 (eqF ze) (Obs.br 0 (neT ze) (Obs.cons zero.c (Obs.br 1 (eqF zf) (Obs.br 0 (neT zf) (Obs.cons zero.c (Obs.br 1 (eqF zg) (Obs.br 0 (neT zg) (Obs.cons zero.c (Obs.cons c8 (Obs.cons c5 (Obs.cons c6 (Obs.cons c7 (Obs.br 3 ts (Obs.cons sm (Obs.cons awake03.c Obs.nil)))))))))))))))))))) (by kernel_rfl)
theorem RatForms.c (a b : Rt) : Sound Tryd.prog 19 [R a, R b] (B true) := by
  by_cases ha : rvB a = true
  · by_cases hb : rvB b = true
    · by_cases ze : (addR a b).2 = 0 <;> by_cases zf : (mulR a b).2 = 0 <;> by_cases zg : (divR a b).2 = 0
      · exact RatForms_2 a b ha hb ze zf zg
      · exact RatForms_3 a b ha hb ze zf zg
      · exact RatForms_4 a b ha hb ze zf zg
      · exact RatForms_5 a b ha hb ze zf zg
      · exact RatForms_6 a b ha hb ze zf zg
      · exact RatForms_7 a b ha hb ze zf zg
      · exact RatForms_8 a b ha hb ze zf zg
      · exact RatForms_9 a b ha hb ze zf zg
    · exact RatForms_1 a b ha hb
  · exact RatForms_0 a b ha
end Go.Proofs.YtalklhbdpmggjaaDoor.Pw
