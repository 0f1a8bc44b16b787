/- The functions of the program as functions of values, part 10: a proof's lemmas, with no condition of their own. -/
import Derived.Test.YtiondkijgpjgcaaSai
set_option linter.unusedVariables false
set_option linter.unusedSimpArgs false
namespace Go.Proofs.Ytiondkijgpjgcaa.Pw
open Go Wd Px Mat
set_option linter.unusedVariables false
set_option linter.unusedSimpArgs false
set_option maxRecDepth 100000
set_option maxHeartbeats 8000000
attribute [local irreducible] Int.tmod Int.tdiv
/-- The elements of a column, filled into a list. -/
def fcol_l0 (p : LP) (j : Int) : Nat → List Int → Int → Option (List Int)
  | 0, _, _ => none
  | k + 1, o, i => if i < (p.rows.length : Int) then (if 0 ≤ i then (if j < ((rdL p.rows i).length : Int) then (if (o.length : Int) = (p.rows.length : Int) then fcol_l0 p j k (o.set i.toNat (rdI (rdL p.rows i) j)) (wrap64 (i + 1)) else none) else none) else none) else (if (o.length : Int) = (p.rows.length : Int) then some o else none)
theorem ev_fcol (p : LP) (j : Int) (hr : p.rows.length ≤ 8) (hj : ∀ i : Nat, i < p.rows.length → j < ((rdL p.rows i).length : Int)) : ∀ (d i : Nat) (o : List Int), i + d = p.rows.length → o = (p.rows.take i).map (fun r => rdI r j) ++ List.replicate d 0 → Ev (fun k => fcol_l0 p j k o (i : Int)) (colS p j) := by
  intro d
  induction d with
  | zero =>
    intro i o hi ho
    have h1 : o = colS p j := by rw [ho, List.take_of_length_le (by omega)]; simp [colS]
    rw [h1]
    refine Ev.step (f := fun _ => some _) (fun k => ?_) (Ev.now _)
    simp only [fcol_l0]
    rw [if_neg (by omega), if_pos (by simp [colS])]
  | succ d ih =>
    intro i o hi ho
    have hlo : o.length = p.rows.length := by rw [ho, List.length_append, List.length_map, List.length_take, List.length_replicate]; omega
    refine Ev.step (fun k => ?_) (ih (i + 1) (o.set i (rdI (rdL p.rows i) j)) (by omega) ?_)
    · simp only [fcol_l0]
      rw [if_pos (by omega), if_pos (by omega), if_pos (hj i (by omega)), if_pos (by omega), w64 (by omega) (by omega), Int.toNat_natCast]; rfl
    · have hlt : ((p.rows.take i).map (fun r => rdI r j)).length = i := by rw [List.length_map, List.length_take]; omega
      have e1 : List.take (i + 1) p.rows = List.take i p.rows ++ [rdL p.rows i] := by
        rw [List.take_add_one, List.getElem?_eq_getElem (show i < p.rows.length by omega)]
        simp [rdL, List.getD_eq_getElem?_getD, List.getElem?_eq_getElem (show i < p.rows.length by omega)]
      rw [ho, e1, List.map_append, List.set_append_right _ _ (by omega), hlt, Nat.sub_self, List.replicate_succ, List.set_cons_zero, List.append_assoc]; rfl
/-- The last tests, one after the other. -/
def side_l0 (p : LP) (o : OP) : Nat → Int → Option Bool
  | 0, _ => none
  | k + 1, x => if x = 0 then (if sideS p.c o.x o.v = true then side_l0 p o k 1 else some false) else if x = 1 then (if sideS p.need o.d o.v = true then side_l0 p o k 2 else some false) else if x = 2 then some true else none
theorem ev_side (p : LP) (o : OP) : Ev (fun k => side_l0 p o k 0) (sideS p.c o.x o.v && sideS p.need o.d o.v) := by
  have h2 : Ev (fun k => side_l0 p o k 2) true := Ev.step (f := fun _ => some true) (fun k => rfl) (Ev.now _)
  have h1 : Ev (fun k => side_l0 p o k 1) (sideS p.need o.d o.v) := by
    cases h : sideS p.need o.d o.v
    · exact Ev.step (f := fun _ => some false) (fun k => by simp [side_l0, h]) (Ev.now _)
    · exact Ev.step (f := fun k => side_l0 p o k 2) (fun k => by simp [side_l0, h]) h2
  cases h : sideS p.c o.x o.v
  · exact Ev.step (f := fun _ => some false) (fun k => by simp [side_l0, h]) (Ev.now _)
  · rw [Bool.true_and]
    exact Ev.step (f := fun k => side_l0 p o k 1) (fun k => by simp [side_l0, h]) h1
def ocol_l0 (p : LP) (o : OP) : Nat → Int → Option Bool := chI (colB p o) p.c.length false (fun k => side_l0 p o k 0)
def optS (p : LP) (o : OP) : Bool := feasS p o.x && (decide (lstS o.d p.rows.length = 0) && (rvB o.v && (allI (colB p o) p.c.length 0 && (sideS p.c o.x o.v && sideS p.need o.d o.v))))
theorem sx_Optimal.snd (k : Nat) (p : LP) (o : OP) (r : Bool) (hC : Chk p) (hx : p.c.length ≤ o.x.length) (hd : (o.d.length : Int) = (p.rows.length : Int)) (h0 : feasS p o.x = true) (hl : lstS o.d p.rows.length = 0) (hv : rvB o.v = true)
    (h : ocol_l0 p o k 0 = some r) : Sound Try.prog 17 [.agg [N p.c, RR p.rows, N p.need], .agg [B o.v.neg, N o.v.p, N o.v.q, RL o.x, RL o.d]] (B r) := by
  have hrd := rdI_rd p.c
  have hg := fun i : Int => getRR (l := p.rows) (i := i)
  have hlen : (p.rows.map N).length = p.rows.length := List.length_map ..
  have c1 := sx_Feasible.c p o.x
  rw [h0] at c1
  have c2 := sx_list.c o.d p.rows.length
  rw [hl] at c2
  have c3 := rat_Valid.c o.v
  rw [hv] at c3
  unfold ocol_l0 at h
  refine Sound.of_WP tok Try.func17 rfl rfl ?_; simp only [Try.f17, args0, List.map, List.length_cons, List.length_nil, Nat.reduceAdd, Nat.reduceSub, List.replicate, List.cons_append, List.nil_append]
  repeat' (first | refine WP_seq ?_ | refine WP_block ?_ | refine regA 64 fun KQ hKQ => ?_ | refine regD 64 fun KQ hKQ => ?_ | refine opsA rfl rfl rfl rfl (nrmA ?_) | refine callA rfl rfl rfl (nrmA ?_) (hs := c1) | refine callA rfl rfl rfl (nrmA ?_) (hs := c2) | refine callA rfl rfl rfl (nrmA ?_) (hs := c3) | refine opsW_skip rfl (nrmA ?_) | (refine opsW_nil ⟨by kernel_rfl, hKQ _ _ _ (nrmB ?_)⟩; clear hKQ KQ) | (refine opsW_nil (hKQ _ _ _ (nrmB ?_)); clear hKQ KQ) | refine condT rfl ?_ | refine condF rfl ?_ | refine WP_skip (nrmB ?_) | refine WP_ret (nrmC ?_) | refine WP_exit (nrmC ?_))
  refine WP_loop (WPL_weaken ?_ (WPL_rec (α := Int) (fun k x => chI (colB p o) p.c.length false (fun k => side_l0 p o k 0) k x) r (fun x => (mkE 109 [(2, .own 0 0), (3, .own 1 0), (37, .p (N p.c)), (38, .p (I (p.c.length : Int))), (39, .p (I x))], [(1, .pc 38 [B o.v.neg, N o.v.p, N o.v.q, RL o.x, RL o.d]), (0, .pc 25 [N p.c, .lst p.rows.length (p.rows.map N), N p.need])], 2)) ?_ k _ h))
  · unfold RR
    exact wkA
  · clear h c1 c2 c3 h0 hl hv; try clear k
    intro k x K ih h
    simp only [mkE, List.replicate, List.foldl, List.set]
    cases k with
    | zero => simp [chI] at h
    | succ k =>
      simp only [chI] at h
      by_cases hi1 : x < (p.c.length : Int)
      · rw [if_pos hi1] at h
        by_cases hi0 : 0 ≤ x
        · rw [if_pos hi0] at h
          have hj : ∀ i : Nat, i < p.rows.length → x < ((rdL p.rows i).length : Int) := fun i hi => by rw [hC.sz i hi]; exact hi1
          have hf := (ev_fcol p x hC.r1 hj p.rows.length 0 (List.replicate p.rows.length 0) (by omega) (by simp)).rounds
          have hcl : (colS p x).length = p.rows.length := by simp [colS]
          have cb := sx_bounded.c (colS p x) o.d (rdI p.c x) (-1) (by omega) (.inr rfl)
          have cb' : Sound Try.prog 31 [.lst p.rows.length ((colS p x).map I), RL o.d, I (rdI p.c x), I (-1)] (B (colB p o x)) := by
            have e : N (colS p x) = .lst p.rows.length ((colS p x).map I) := by show PV.lst _ _ = _; rw [hcl]
            rw [e] at cb; exact cb
          have hr8 : (p.rows.length : Int) ≤ 8 := by have := hC.r1; omega
          clear hj hC hx hd cb
          obtain ⟨m, hf⟩ := hf
          have e0 : (List.replicate p.rows.length (PV.v (.int .i64 0))) = (List.replicate p.rows.length 0).map I := by simp
          repeat' (first | refine WP_seq ?_ | refine WP_block ?_ | refine regA 64 fun KQ hKQ => ?_ | refine regD 64 fun KQ hKQ => ?_ | refine opsA rfl rfl rfl rfl (nrmA ?_) | refine opsW_skip rfl (nrmA ?_) | (refine opsW_nil ⟨by kernel_rfl, hKQ _ _ _ (nrmB ?_)⟩; clear hKQ KQ) | (refine opsW_nil (hKQ _ _ _ (nrmB ?_)); clear hKQ KQ) | refine condT rfl ?_ | refine condF rfl ?_ | refine WP_skip (nrmB ?_) | refine WP_ret (nrmC ?_) | refine WP_exit (nrmC ?_))
          refine WP_loop (WPL_weaken ?_ (WPL_rec (α := List Int × Int) (fun k y => fcol_l0 p x k y.1 y.2) (colS p x) (fun y => (mkE 109 [(2, .own 0 0), (3, .own 1 0), (5, .p (I x)), (6, .p (I (rdI p.c x))), (7, .sl 2 0 p.rows.length 1), (37, .p (N p.c)), (38, .p (I (p.c.length : Int))), (39, .p (I x)), (49, .p (.lst p.rows.length (p.rows.map N))), (50, .p (I (p.rows.length : Int))), (51, .p (I y.2))], [(2, .pc 3 (y.1.map I)), (1, .pc 38 [B o.v.neg, N o.v.p, N o.v.q, RL o.x, RL o.d]), (0, .pc 25 [N p.c, .lst p.rows.length (p.rows.map N), N p.need])], 3)) ?_ m (List.replicate p.rows.length 0, 0) hf))
          · exact wkA
          · clear hf e0; try clear m
            intro m ⟨c, y⟩ K2 ih2 hf
            simp only [mkE, List.replicate, List.foldl, List.set]
            have hry := rdI_rd (rdL p.rows y) x
            cases m with
            | zero => simp [fcol_l0] at hf
            | succ m =>
              simp only [fcol_l0] at hf
              split at hf
              · repeat' (first | (simp only [if_true, if_false, Bool.false_eq_true, Bool.not_true, Bool.not_false, reduceIte] at hf) | (split at hf) | (rw [Option.bind_eq_some_iff] at hf; obtain ⟨_, hbb, hf⟩ := hf; try (simp only [Option.some.injEq] at hbb; subst hbb)) | (cases hf; done) | (simp only [Option.some.injEq, Prod.mk.injEq] at hf; subst hf) | (simp only [Option.some.injEq, Prod.mk.injEq] at hf; (have hf1 := hf.1; have hf2 := hf.2; clear hf; subst hf1; first | subst hf2 | (obtain ⟨hf3, hf4⟩ := hf2; subst hf3; subst hf4))))
                all_goals
                  repeat' (first | refine WP_seq ?_ | refine WP_block ?_ | refine regA 64 fun KQ hKQ => ?_ | refine regD 64 fun KQ hKQ => ?_ | refine opsA rfl rfl rfl rfl (nrmA ?_) | refine opsW_skip rfl (nrmA ?_) | (refine opsW_nil ⟨by kernel_rfl, hKQ _ _ _ (nrmB ?_)⟩; clear hKQ KQ) | (refine opsW_nil (hKQ _ _ _ (nrmB ?_)); clear hKQ KQ) | refine condT rfl ?_ | refine condF rfl ?_ | refine WP_skip (nrmB ?_) | refine WP_ret (nrmC ?_) | refine WP_exit (nrmC ?_))
                  first
                  | (refine ih2 _ _ _ _ (c.set y.toNat (rdI (rdL p.rows y) x), wrap64 (y + 1)) (Nat.lt_succ_self _) hf ?_; exact wkA)
              · split at hf
                · injection hf with hf
                  subst hf
                  clear ih2
                  repeat' (first | refine WP_seq ?_ | refine WP_block ?_ | refine opsA rfl rfl rfl rfl (nrmA ?_) | refine opsW_skip rfl (nrmA ?_) | (refine opsW_nil ⟨by kernel_rfl, hKQ _ _ _ (nrmB ?_)⟩; clear hKQ KQ) | (refine opsW_nil (hKQ _ _ _ (nrmB ?_)); clear hKQ KQ) | refine condT rfl ?_ | refine condF rfl ?_ | refine WP_skip (nrmB ?_) | refine WP_ret (nrmC ?_) | refine WP_exit (nrmC ?_))
                  first | refine regA 64 fun KQ hKQ => ?_ | refine regD 64 fun KQ hKQ => ?_
                  repeat' (first | refine WP_seq ?_ | refine WP_block ?_ | refine opsA rfl rfl rfl rfl (nrmA ?_) | refine opsW_skip rfl (nrmA ?_) | (refine opsW_nil ⟨by kernel_rfl, hKQ _ _ _ (nrmB ?_)⟩; clear hKQ KQ) | (refine opsW_nil (hKQ _ _ _ (nrmB ?_)); clear hKQ KQ) | refine condT rfl ?_ | refine condF rfl ?_ | refine WP_skip (nrmB ?_) | refine WP_ret (nrmC ?_) | refine WP_exit (nrmC ?_))
                  refine WP_weaken (Wk.frz 7 (.lst p.rows.length ((colS p x).map I)) [2] ?_) ?_
                  · show some (PV.lst p.rows.length ((((colS p x).map I).drop 0).take (p.rows.length * 1)), [2]) = _
                    rw [List.drop_zero, Nat.mul_one, List.take_of_length_le (by rw [List.length_map, hcl]; exact Nat.le_refl _)]
                  simp only [delL, List.set, del, beq_self_eq_true, Nat.reduceBEq, cond_true, cond_false]
                  cases hb : colB p o x
                  all_goals
                    rw [hb] at cb'
                    simp only [hb, Bool.false_eq_true, if_false, if_true, reduceIte] at h
                    repeat' (first | (simp only [if_true, if_false, Bool.false_eq_true, Bool.not_true, Bool.not_false, reduceIte] at h) | (split at h) | (rw [Option.bind_eq_some_iff] at h; obtain ⟨_, hbb, h⟩ := h; try (simp only [Option.some.injEq] at hbb; subst hbb)) | (cases h; done) | (simp only [Option.some.injEq, Prod.mk.injEq] at h; subst h) | (simp only [Option.some.injEq, Prod.mk.injEq] at h; (have h1 := h.1; have h2 := h.2; clear h; subst h1; first | subst h2 | (obtain ⟨h3, h4⟩ := h2; subst h3; subst h4))))
                    all_goals
                      repeat' (first | refine WP_seq ?_ | refine WP_block ?_ | refine regA 64 fun KQ hKQ => ?_ | refine regD 64 fun KQ hKQ => ?_ | refine opsA rfl rfl rfl rfl (nrmA ?_) | refine callA rfl rfl rfl (nrmA ?_) (hs := cb') | refine opsW_skip rfl (nrmA ?_) | (refine opsW_nil ⟨by kernel_rfl, hKQ _ _ _ (nrmB ?_)⟩; clear hKQ KQ) | (refine opsW_nil (hKQ _ _ _ (nrmB ?_)); clear hKQ KQ) | refine condT rfl ?_ | refine condF rfl ?_ | refine WP_skip (nrmB ?_) | refine WP_ret (nrmC ?_) | refine WP_exit (nrmC ?_))
                      first
                      | exact endA
                      | (refine ih _ _ _ _ _ (Nat.lt_succ_self _) h ?_; exact wkA)
                · cases hf
        · rw [if_neg hi0] at h; cases h
      · rw [if_neg hi1] at h
        clear ih
        have d1 := sx_dot.c p.c o.x hx
        have hn1 := hC.n1
        have d2 := sx_dot.c p.need o.d (by omega)
        clear hC hx hd hn1 hg
        repeat' (first | refine WP_seq ?_ | refine WP_block ?_ | refine regA 64 fun KQ hKQ => ?_ | refine regD 64 fun KQ hKQ => ?_ | refine opsA rfl rfl rfl rfl (nrmA ?_) | refine opsW_skip rfl (nrmA ?_) | (refine opsW_nil ⟨by kernel_rfl, hKQ _ _ _ (nrmB ?_)⟩; clear hKQ KQ) | (refine opsW_nil (hKQ _ _ _ (nrmB ?_)); clear hKQ KQ) | refine condT rfl ?_ | refine condF rfl ?_ | refine WP_skip (nrmB ?_) | refine WP_ret (nrmC ?_) | refine WP_exit (nrmC ?_))
        simp only [List.drop_succ_cons, List.drop_zero, allP, Option.map_some]
        refine WP_loop (WPL_weaken ?_ (WPL_rec (α := Int) (fun k x => side_l0 p o k x) r (fun x => (mkE 109 [(3, .own 1 0), (81, .p (.agg [N p.c, RL o.x, N p.need, RL o.d])), (82, .p (I x))], [(1, .pc 38 [B o.v.neg, N o.v.p, N o.v.q, RL o.x, RL o.d])], 2)) ?_ k _ h))
        · exact wkA
        · clear h hi1; try clear k
          intro k y K ih h
          simp only [mkE, List.replicate, List.foldl, List.set]
          cases k with
          | zero => simp [side_l0] at h
          | succ k =>
            simp only [side_l0] at h
            split at h
            · rename_i hy; subst hy
              have d3 := rat_Cmp.c (dotS p.c o.x).1 o.v
              have w1 : wrap64 (0 + 1) = 1 := by rw [w64 (by decide) (by decide)]; rfl
              unfold sideS at h
              clear d2
              generalize (dotS p.c o.x).1 = s at *
              generalize (dotS p.c o.x).2 = e at *
              generalize (cmpR s o.v).2 = f at *
              generalize (cmpR s o.v).1 = c at *
              by_cases e1 : e = 0
              all_goals
                by_cases e2 : f = 0
                all_goals
                  by_cases e3 : c = 0
                  all_goals
                    simp only [e1, e2, e3, decide_true, decide_false, Bool.true_and, Bool.false_and, Bool.and_false, Bool.and_true, Bool.false_eq_true, if_false, if_true, reduceIte] at h
                    repeat' (first | (simp only [if_true, if_false, Bool.false_eq_true, Bool.not_true, Bool.not_false, reduceIte] at h) | (split at h) | (rw [Option.bind_eq_some_iff] at h; obtain ⟨_, hbb, h⟩ := h; try (simp only [Option.some.injEq] at hbb; subst hbb)) | (cases h; done) | (simp only [Option.some.injEq, Prod.mk.injEq] at h; subst h) | (simp only [Option.some.injEq, Prod.mk.injEq] at h; (have h1 := h.1; have h2 := h.2; clear h; subst h1; first | subst h2 | (obtain ⟨h3, h4⟩ := h2; subst h3; subst h4))))
                    all_goals
                      repeat' (first | refine WP_seq ?_ | refine WP_block ?_ | refine regA 64 fun KQ hKQ => ?_ | refine regD 64 fun KQ hKQ => ?_ | refine opsA rfl rfl rfl rfl (nrmA ?_) | refine callA rfl rfl rfl (nrmA ?_) (hs := d1) | refine callA rfl rfl rfl (nrmA ?_) (hs := d3) | refine opsW_skip rfl (nrmA ?_) | (refine opsW_nil ⟨by kernel_rfl, hKQ _ _ _ (nrmB ?_)⟩; clear hKQ KQ) | (refine opsW_nil (hKQ _ _ _ (nrmB ?_)); clear hKQ KQ) | refine condT rfl ?_ | refine condF rfl ?_ | refine WP_skip (nrmB ?_) | refine WP_ret (nrmC ?_) | refine WP_exit (nrmC ?_))
                      first
                      | exact endA
                      | (refine ih _ _ _ _ _ (Nat.lt_succ_self _) h ?_; exact wkA)
            · split at h
              · rename_i hy; subst hy
                have d3 := rat_Cmp.c (dotS p.need o.d).1 o.v
                have w1 : wrap64 (1 + 1) = 2 := by rw [w64 (by decide) (by decide)]; rfl
                unfold sideS at h
                clear d1
                generalize (dotS p.need o.d).1 = s at *
                generalize (dotS p.need o.d).2 = e at *
                generalize (cmpR s o.v).2 = f at *
                generalize (cmpR s o.v).1 = c at *
                by_cases e1 : e = 0
                all_goals
                  by_cases e2 : f = 0
                  all_goals
                    by_cases e3 : c = 0
                    all_goals
                      simp only [e1, e2, e3, decide_true, decide_false, Bool.true_and, Bool.false_and, Bool.and_false, Bool.and_true, Bool.false_eq_true, if_false, if_true, reduceIte] at h
                      repeat' (first | (simp only [if_true, if_false, Bool.false_eq_true, Bool.not_true, Bool.not_false, reduceIte] at h) | (split at h) | (rw [Option.bind_eq_some_iff] at h; obtain ⟨_, hbb, h⟩ := h; try (simp only [Option.some.injEq] at hbb; subst hbb)) | (cases h; done) | (simp only [Option.some.injEq, Prod.mk.injEq] at h; subst h) | (simp only [Option.some.injEq, Prod.mk.injEq] at h; (have h1 := h.1; have h2 := h.2; clear h; subst h1; first | subst h2 | (obtain ⟨h3, h4⟩ := h2; subst h3; subst h4))))
                      all_goals
                        repeat' (first | refine WP_seq ?_ | refine WP_block ?_ | refine regA 64 fun KQ hKQ => ?_ | refine regD 64 fun KQ hKQ => ?_ | refine opsA rfl rfl rfl rfl (nrmA ?_) | refine callA rfl rfl rfl (nrmA ?_) (hs := d2) | refine callA rfl rfl rfl (nrmA ?_) (hs := d3) | refine opsW_skip rfl (nrmA ?_) | (refine opsW_nil ⟨by kernel_rfl, hKQ _ _ _ (nrmB ?_)⟩; clear hKQ KQ) | (refine opsW_nil (hKQ _ _ _ (nrmB ?_)); clear hKQ KQ) | refine condT rfl ?_ | refine condF rfl ?_ | refine WP_skip (nrmB ?_) | refine WP_ret (nrmC ?_) | refine WP_exit (nrmC ?_))
                        first
                        | exact endA
                        | (refine ih _ _ _ _ _ (Nat.lt_succ_self _) h ?_; exact wkA)
              · split at h
                · rename_i hy; subst hy
                  injection h with h
                  subst h
                  repeat' (first | refine WP_seq ?_ | refine WP_block ?_ | refine regA 64 fun KQ hKQ => ?_ | refine regD 64 fun KQ hKQ => ?_ | refine opsA rfl rfl rfl rfl (nrmA ?_) | refine opsW_skip rfl (nrmA ?_) | (refine opsW_nil ⟨by kernel_rfl, hKQ _ _ _ (nrmB ?_)⟩; clear hKQ KQ) | (refine opsW_nil (hKQ _ _ _ (nrmB ?_)); clear hKQ KQ) | refine condT rfl ?_ | refine condF rfl ?_ | refine WP_skip (nrmB ?_) | refine WP_ret (nrmC ?_) | refine WP_exit (nrmC ?_))
                  first
                  | exact endA
                · cases h
theorem sx_Optimal.c (p : LP) (o : OP) : Sound Try.prog 17 [LPv p, OPv o] (B (optS p o)) := by
  have c1 := sx_Feasible.c p o.x
  have c2 := sx_list.c o.d p.rows.length
  have c3 := rat_Valid.c o.v
  have ee : (0 : Int) = 0 := rfl
  unfold optS
  cases h0 : feasS p o.x
  · rw [h0] at c1
    exact runO tok mixed [15] 300 6 (Obs.cons c1 Obs.nil) (by kernel_rfl)
  rw [h0] at c1
  by_cases hl : lstS o.d p.rows.length = 0
  · rw [hl] at c2
    cases hv : rvB o.v
    · rw [hv] at c3
      rw [decide_eq_true hl]
      exact runO tok mixed [15, 30, 35] 300 6 (Obs.cons c1 (Obs.cons c2 (Obs.br 0 (neF ee) (Obs.cons c3 Obs.nil)))) (by kernel_rfl)
    · have h0' := h0
      unfold feasS at h0'
      simp only [Bool.and_eq_true, decide_eq_true_eq] at h0'
      have hC := chk_of h0'.1
      have hx : (o.x.length : Int) = (p.c.length : Int) := by
        have := h0'.2.1
        unfold fineS at this
        simp only [Bool.and_eq_true, decide_eq_true_eq] at this
        exact this.1
      have hd := lst_len (xs := o.d) (n := p.rows.length) (by omega)
      rw [decide_eq_true hl, Bool.true_and, Bool.true_and, Bool.true_and]
      have e : (allI (colB p o) p.c.length 0 && (sideS p.c o.x o.v && sideS p.need o.d o.v)) = if allI (colB p o) p.c.length 0 = true then (sideS p.c o.x o.v && sideS p.need o.d o.v) else false := by cases allI (colB p o) p.c.length 0 <;> simp
      rw [e]
      have h1 := hC.c1
      exact (ev_chI (colB p o) p.c.length (by omega) false _ (fun k => side_l0 p o k 0) (ev_side p o) p.c.length 0 (by omega)).rounds.elim fun k h => sx_Optimal.snd k p o _ hC (by omega) hd h0 hl hv h
  · rw [decide_eq_false hl]
    exact runO tok mixed [15, 30] 300 6 (Obs.cons c1 (Obs.cons c2 (Obs.br 0 (neT hl) Obs.nil))) (by kernel_rfl)
/-- The program and the reference agree. -/
theorem opt_eq (p : LP) (o : OP) (hv : o.v.p.length + o.v.q.length ≤ 48) : optS p o = optR p o := by
  unfold optS optR endR
  rw [lst_fine, sides hv]
end Go.Proofs.Ytiondkijgpjgcaa.Pw
