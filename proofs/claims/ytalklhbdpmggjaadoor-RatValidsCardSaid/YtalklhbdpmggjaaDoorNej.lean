/- The functions of the program as functions of values, part 10: a proof's lemmas, with no condition of their own. -/
import Derived.Test.YtalklhbdpmggjaaDoorNeg
import Derived.Test.YtalklhbdpmggjaaDoorNei
set_option linter.unusedVariables false
set_option linter.unusedSimpArgs false
namespace Go.Proofs.YtalklhbdpmggjaaDoor.Px
open Go Go.Proofs.YtalklhbdpmggjaaDoor.Wd Go.Proofs.YtalklhbdpmggjaaDoor.Mat
set_option linter.unusedVariables false
mutual
def parse_r1 : Nat → ByteArray → List Int → Int → Option (List Int × Int)
  | 0, _, _, _ => none
  | k + 1, b, out, e => if e > 0 then parse_r2 k b out e 0 (mx 0 (wrap64 (e - 9))) else papermillref02_fit.f k out
def parse_r2 : Nat → ByteArray → List Int → Int → Int → Int → Option (List Int × Int)
  | 0, _, _, _, _, _ => none
  | k + 1, b, out, e, l, i => if i < e then (if 0 ≤ i then (if i < (b.size : Int) then parse_r2 k b out e (wrap64 (wrap64 (10 * l) + wrap64 (IntKind.u8.wrap (chr b i - 48)))) (wrap64 (i + 1)) else none) else none) else (if out.length < 17592186044416 then parse_r1 k b (out ++ [l]) (wrap64 (e - 9)) else none)
end
def parse_r0 : Nat → ByteArray → Int → Option (List Int × Int)
  | 0, _, _ => none
  | k + 1, b, i => if i < (b.size : Int) then (if 0 ≤ i then (if chr b i < 48 then some ([], 3) else if chr b i > 57 then some ([], 3) else parse_r0 k b (wrap64 (i + 1))) else none) else (if (b.size : Int) > 432 then some ([], 2) else parse_r1 k b [] (b.size : Int))
/-- The inner loop: the number of the digits from s on. -/
theorem ev_parse_r2 (b : ByteArray) (hd : digs b.data.toList = true) (hz : b.data.toList.length ≤ 432) (out : List Int) (ho : out.length ≤ 100) (e s : Nat) (he : e ≤ b.data.toList.length) (hs : e ≤ s + 9) (hse : s ≤ e) (r : List Int × Int)
    (hr : Ev (fun k => parse_r1 k b (out ++ [(decV ((b.data.toList.take e).drop s) : Int)]) ((e : Int) - 9)) r) :
    ∀ (d i : Nat), i + d = e → s ≤ i → Ev (fun k => parse_r2 k b out (e : Int) (decV ((b.data.toList.take i).drop s) : Int) (i : Int)) r := by
  intro d
  have hbs : b.size = b.data.toList.length := rfl
  induction d with
  | zero =>
    intro i hi hsi
    obtain rfl : i = e := by omega
    refine Ev.step (fun k => ?_) hr
    simp only [parse_r2]
    rw [if_neg (by omega), if_pos (by omega), w64 (by omega) (by omega)]
  | succ d ih =>
    intro i hi hsi
    have hil : i < b.data.toList.length := by omega
    have hc := digs_at hd hil
    refine Ev.step (fun k => ?_) (ih (i + 1) (by omega) (by omega))
    simp only [parse_r2]
    rw [if_pos (by omega), if_pos (by omega), if_pos (by omega), chr_at hil, u8_digit (by omega) (by omega)]
    have hlt := decV_lt _ ((b.data.toList.take i).drop s) rfl (digs_drop (digs_take hd i) s)
    have hll : ((b.data.toList.take i).drop s).length = i - s := by rw [List.length_drop, List.length_take]; omega
    rw [hll] at hlt
    have hp : 10 ^ (i - s) ≤ 10 ^ 9 := Nat.pow_le_pow_right (by decide) (by omega)
    have e1 : (b.data.toList.take (i + 1)).drop s = (b.data.toList.take i).drop s ++ [b.data.toList[i]] := by
      rw [List.take_succ_eq_append_getElem hil, List.drop_append_of_le_length (by rw [List.length_take]; omega)]
    rw [e1, decV_snoc, w64 (x := 10 * (decV ((b.data.toList.take i).drop s) : Int)) (by omega) (by omega), w64 (by omega) (by omega), w64 (x := (i : Int) + 1) (by omega) (by omega)]
    congr 1
    · omega
theorem ev_parse_r1 (b : ByteArray) (hd : digs b.data.toList = true) (hz : b.data.toList.length ≤ 432) : ∀ (n : Nat) (out : List Int) (e : Int), e ≤ n → out.length ≤ 60 → Dig out → (0 ≤ e → e + 9 * out.length = b.data.toList.length) → (e ≤ 0 → out.length ≤ 49 ∧ -9 < e) →
    val out = (decV (b.data.toList.drop e.toNat) : Int) → Ev (fun k => parse_r1 k b out e) (dg (decV b.data.toList : Int), 0) := by
  intro n
  induction n with
  | zero =>
    intro out e hen ho hdg h1 h2 hv
    refine Ev.step (f := fun k => papermillref02_fit.f k out) (fun k => ?_) ?_
    · simp only [parse_r1]; rw [if_neg (by omega)]
    · rw [show e.toNat = 0 by omega, List.drop_zero] at hv
      have ht := er_fit out hdg (by omega)
      have hw : val out < pw 48 := by rw [hv]; exact val_fits 48 hd (by show _ ≤ 9 * 48; omega)
      rw [show fitS (val out) = (dg (val out), 0) by unfold fitS; rw [if_pos hw], hv] at ht
      exact ht
  | succ n ih =>
    intro out e hen ho hdg h1 h2 hv
    by_cases he : e > 0
    · obtain ⟨m, rfl⟩ : ∃ m : Nat, e = m := ⟨e.toNat, by omega⟩
      have hm := h1 (by omega)
      have hmx : mx 0 (wrap64 ((m : Int) - 9)) = ((m - 9 : Nat) : Int) := by rw [w64 (by omega) (by omega)]; unfold mx; split <;> omega
      have hlt := decV_lt _ ((b.data.toList.take m).drop (m - 9)) rfl (digs_drop (digs_take hd m) _)
      have hll : ((b.data.toList.take m).drop (m - 9)).length = m - (m - 9) := by rw [List.length_drop, List.length_take]; omega
      rw [hll] at hlt
      have hp : 10 ^ (m - (m - 9)) ≤ 10 ^ 9 := Nat.pow_le_pow_right (by decide) (by omega)
      have nx := ih (out ++ [(decV ((b.data.toList.take m).drop (m - 9)) : Int)]) ((m : Int) - 9) (by omega) (by rw [List.length_append, List.length_singleton]; omega) (hdg.append (Dig.cons (by omega) Dig.nil)) (fun h => by rw [List.length_append, List.length_singleton]; omega) (fun h => by rw [List.length_append, List.length_singleton]; omega) (by
        rw [val_append, hv, Int.toNat_natCast]
        have e2 : b.data.toList.drop ((m : Int) - 9).toNat = (b.data.toList.take m).drop (m - 9) ++ b.data.toList.drop m := by
          rw [show ((m : Int) - 9).toNat = m - 9 by omega]
          conv => lhs; rw [← List.take_append_drop m b.data.toList]
          rw [List.drop_append_of_le_length (by rw [List.length_take]; omega)]
        rw [e2, decV_append, pw_ten, List.length_drop, show b.data.toList.length - m = 9 * out.length by omega]
        simp only [val]
        push_cast
        rw [Int.add_zero, Int.mul_comm, Int.add_comm])
      have l2 := ev_parse_r2 b hd hz out (by omega) m (m - 9) (by omega) (by omega) (by omega) _ nx (m - (m - 9)) (m - 9) (by omega) (Nat.le_refl _)
      rw [show (b.data.toList.take (m - 9)).drop (m - 9) = [] from List.drop_eq_nil_of_le (by rw [List.length_take]; omega)] at l2
      refine Ev.step (fun k => ?_) l2
      simp only [parse_r1]
      rw [if_pos he, hmx]; rfl
    · refine Ev.step (f := fun k => papermillref02_fit.f k out) (fun k => ?_) ?_
      · simp only [parse_r1]; rw [if_neg (by omega)]
      · rw [show e.toNat = 0 by omega, List.drop_zero] at hv
        have ht := er_fit out hdg (by omega)
        have hw : val out < pw 48 := by rw [hv]; exact val_fits 48 hd (by show _ ≤ 9 * 48; omega)
        rw [show fitS (val out) = (dg (val out), 0) by unfold fitS; rw [if_pos hw], hv] at ht
        exact ht
theorem ev_parse_r0 (b : ByteArray) (hb : b.data.toList.length ≤ 9223372036854775806) : ∀ (d i : Nat), i + d = b.data.toList.length → digs (b.data.toList.take i) = true → Ev (fun k => parse_r0 k b (i : Int)) (parseT b.data.toList) := by
  have hbs : b.size = b.data.toList.length := rfl
  intro d
  induction d with
  | zero =>
    intro i hi hd
    rw [show i = b.data.toList.length by omega, List.take_length] at hd
    by_cases hl : 432 < b.data.toList.length
    · refine Ev.step (f := fun _ => some _) (fun k => ?_) (Ev.now _)
      simp only [parse_r0, parseT]
      rw [if_neg (by omega), if_pos (by omega), if_pos hd, if_pos hl]
    · have h := ev_parse_r1 b hd (by omega) b.data.toList.length [] (b.data.toList.length : Int) (Int.le_refl _) (by simp) Dig.nil (fun _ => by simp) (fun h => by simp; omega) (by rw [Int.toNat_natCast, List.drop_length]; rfl)
      refine Ev.step (fun k => ?_) (show Ev (fun k => parse_r1 k b [] (b.data.toList.length : Int)) (parseT b.data.toList) by unfold parseT; rw [if_pos hd, if_neg hl]; exact h)
      simp only [parse_r0]
      rw [if_neg (by omega), if_neg (by omega)]; rfl
  | succ d ih =>
    intro i hi hd
    have hil : i < b.data.toList.length := by omega
    have e1 : b.data.toList.take (i + 1) = b.data.toList.take i ++ [b.data.toList[i]] := List.take_succ_eq_append_getElem hil
    have bad : ¬ (48 ≤ b.data.toList[i].toNat ∧ b.data.toList[i].toNat ≤ 57) → parseT b.data.toList = ([], 3) := fun h => by
      unfold parseT; rw [if_neg fun hd => h (digs_at hd hil)]
    by_cases c1 : chr b (i : Int) < 48
    · rw [bad (by rw [chr_at hil] at c1; omega)]
      refine Ev.step (f := fun _ => some _) (fun k => ?_) (Ev.now _)
      simp only [parse_r0]
      rw [if_pos (by omega), if_pos (by omega), if_pos c1]
    · by_cases c2 : chr b (i : Int) > 57
      · rw [bad (by rw [chr_at hil] at c2; omega)]
        refine Ev.step (f := fun _ => some _) (fun k => ?_) (Ev.now _)
        simp only [parse_r0]
        rw [if_pos (by omega), if_pos (by omega), if_neg c1, if_pos c2]
      · refine Ev.step (fun k => ?_) (ih (i + 1) (by omega) (by
          rw [e1, digs_append, hd]
          rw [chr_at hil] at c1 c2
          show (decide (48 ≤ b.data.toList[i].toNat) && decide (b.data.toList[i].toNat ≤ 57) && true) = true
          rw [decide_eq_true (by omega), decide_eq_true (by omega)]; rfl))
        simp only [parse_r0]
        rw [if_pos (by omega), if_pos (by omega), if_neg c1, if_neg c2, w64 (by omega) (by omega)]; rfl
end Go.Proofs.YtalklhbdpmggjaaDoor.Px
namespace Go.Proofs.YtalklhbdpmggjaaDoor.Pw
open Go Wd Px Mat
set_option linter.unusedVariables false
set_option linter.unusedSimpArgs false
set_option maxRecDepth 100000
attribute [local irreducible] Int.tmod Int.tdiv
set_option maxHeartbeats 8000000
@[reducible] def Sg (b : ByteArray) : PV := .v (.string b)
theorem nat_Parse.snd (k : Nat) (b : ByteArray) (r : List Int) (e : Int) (h0 : (b.toList == (ByteArray.mk #[]).toList) = false) (h1 : ¬ (1 : Int) < (b.size : Int) ∨ ¬ ((b.data.toList.getD 0 0).toNat : Int) = 48) (hp : (0 : Int) < (b.size : Int)) (h : parse_l0 k b 0 = some (r, e)) : Sound Tryd.prog 31 [Sg b] (.tup [N r, I e]) := by
  have hf : ∀ i : Int, ((b.data.toList.getD i.toNat 0).toNat : Int) = chr b i := fun _ => rfl
  have hf0 : ((b.data.toList.getD 0 0).toNat : Int) = chr b 0 := rfl
  rw [hf0] at h1
  by_cases hs : (1 : Int) < (b.size : Int)
  · have h2 : ¬ chr b 0 = 48 := by rcases h1 with h1 | h1; exact absurd hs h1; exact h1
    refine Sound.of_WP tok Tryd.func31 rfl rfl ?_; simp only [Tryd.f31, args0, List.map, List.length_cons, List.length_nil, Nat.reduceAdd, Nat.reduceSub, List.replicate, List.cons_append, List.nil_append]
    repeat' (first | refine WP_seq ?_ | refine WP_block ?_ | refine regA 64 fun KQ hKQ => ?_ | refine regD 64 fun KQ hKQ => ?_ | refine opsA rfl rfl rfl rfl (nrmA ?_) | refine opsW_skip rfl (nrmA ?_) | (refine opsW_nil ⟨by kernel_rfl, hKQ _ _ _ (nrmB ?_)⟩; clear hKQ KQ) | (refine opsW_nil (hKQ _ _ _ (nrmB ?_)); clear hKQ KQ) | refine condT rfl ?_ | refine condF rfl ?_ | refine WP_skip (nrmB ?_) | refine WP_ret (nrmC ?_) | refine WP_exit (nrmC ?_))
    refine WP_loop (WPL_weaken ?_ (WPL_rec (α := Int) (fun k x => parse_l0 k b x) (r, e) (fun x => (mkE 68 [(0, .p (Sg b)), (22, .p (I (b.size : Int))), (23, .p (I x))], [], 0)) ?_ k _ h))
    · exact wkA
    · clear h; try clear k
      intro k x K ih h
      simp only [mkE, List.replicate, List.foldl, List.set]
      cases k with
      | zero => simp [parse_l0] at h
      | succ k =>
        simp only [parse_l0] at h
        split at h
        · repeat' (first | (simp only [if_true, if_false, Bool.false_eq_true, Bool.not_true, Bool.not_false, reduceIte] at h) | (split at h) | (rw [Option.bind_eq_some_iff] at h; obtain ⟨_, hbb, h⟩ := h; try (simp only [Option.some.injEq] at hbb; subst hbb)) | (cases h; done) | (simp only [Option.some.injEq, Prod.mk.injEq] at h; subst h) | (simp only [Option.some.injEq, Prod.mk.injEq] at h; (have h1 := h.1; have h2 := h.2; clear h; subst h1; first | subst h2 | (obtain ⟨h3, h4⟩ := h2; subst h3; subst h4))))
          all_goals
            repeat' (first | refine WP_seq ?_ | refine WP_block ?_ | refine regA 64 fun KQ hKQ => ?_ | refine regD 64 fun KQ hKQ => ?_ | refine opsA rfl rfl rfl rfl (nrmA ?_) | refine opsW_skip rfl (nrmA ?_) | (refine opsW_nil ⟨by kernel_rfl, hKQ _ _ _ (nrmB ?_)⟩; clear hKQ KQ) | (refine opsW_nil (hKQ _ _ _ (nrmB ?_)); clear hKQ KQ) | refine condT rfl ?_ | refine condF rfl ?_ | refine WP_skip (nrmB ?_) | refine WP_ret (nrmC ?_) | refine WP_exit (nrmC ?_))
            first
            | exact endA
            | (refine ih _ _ _ _ _ (Nat.lt_succ_self _) h ?_; exact wkA)
        · split at h
          · repeat' (first | (simp only [if_true, if_false, Bool.false_eq_true, Bool.not_true, Bool.not_false, reduceIte] at h) | (split at h) | (rw [Option.bind_eq_some_iff] at h; obtain ⟨_, hbb, h⟩ := h; try (simp only [Option.some.injEq] at hbb; subst hbb)) | (cases h; done) | (simp only [Option.some.injEq, Prod.mk.injEq] at h; subst h) | (simp only [Option.some.injEq, Prod.mk.injEq] at h; (have h1 := h.1; have h2 := h.2; clear h; subst h1; first | subst h2 | (obtain ⟨h3, h4⟩ := h2; subst h3; subst h4))))
            repeat' (first | refine WP_seq ?_ | refine WP_block ?_ | refine regA 64 fun KQ hKQ => ?_ | refine regD 64 fun KQ hKQ => ?_ | refine opsA rfl rfl rfl rfl (nrmA ?_) | refine opsW_skip rfl (nrmA ?_) | (refine opsW_nil ⟨by kernel_rfl, hKQ _ _ _ (nrmB ?_)⟩; clear hKQ KQ) | (refine opsW_nil (hKQ _ _ _ (nrmB ?_)); clear hKQ KQ) | refine condT rfl ?_ | refine condF rfl ?_ | refine WP_skip (nrmB ?_) | refine WP_ret (nrmC ?_) | refine WP_exit (nrmC ?_))
            exact endA
          · clear ih
            repeat' (first | refine WP_seq ?_ | refine WP_block ?_ | refine regA 64 fun KQ hKQ => ?_ | refine regD 64 fun KQ hKQ => ?_ | refine opsA rfl rfl rfl rfl (nrmA ?_) | refine opsW_skip rfl (nrmA ?_) | (refine opsW_nil ⟨by kernel_rfl, hKQ _ _ _ (nrmB ?_)⟩; clear hKQ KQ) | (refine opsW_nil (hKQ _ _ _ (nrmB ?_)); clear hKQ KQ) | refine condT rfl ?_ | refine condF rfl ?_ | refine WP_skip (nrmB ?_) | refine WP_ret (nrmC ?_) | refine WP_exit (nrmC ?_))
            refine WP_loop (WPL_weaken ?_ (WPL_rec (α := List Int × Int) (fun k x => parse_l1 k b x.1 x.2) (r, e) (fun x => (mkE 68 [(0, .p (Sg b)), (5, .sl 0 0 x.1.length 1), (6, .p (I x.2))], [(0, .pc 3 (x.1.map I))], 1)) ?_ k (_, _) h))
            · exact wkA
            · clear h; try clear k
              intro k ⟨x1, x2⟩ K ih h
              simp only [mkE, List.replicate, List.foldl, List.set]
              cases k with
              | zero => simp [parse_l1] at h
              | succ k =>
                simp only [parse_l1] at h
                split at h
                · repeat' (first | refine WP_seq ?_ | refine WP_block ?_ | refine regA 64 fun KQ hKQ => ?_ | refine regD 64 fun KQ hKQ => ?_ | refine opsA rfl rfl rfl rfl (nrmA ?_) | refine opsW_skip rfl (nrmA ?_) | (refine opsW_nil ⟨by kernel_rfl, hKQ _ _ _ (nrmB ?_)⟩; clear hKQ KQ) | (refine opsW_nil (hKQ _ _ _ (nrmB ?_)); clear hKQ KQ) | refine condT rfl ?_ | refine condF rfl ?_ | refine WP_skip (nrmB ?_) | refine WP_ret (nrmC ?_) | refine WP_exit (nrmC ?_))
                  refine WP_loop (WPL_weaken ?_ (WPL_recB (α := Int × Int) (fun k y => parse_l2 k b x1 x2 y.1 y.2) (r, e) (fun y => (mkE 68 [(0, .p (Sg b)), (5, .sl 0 0 x1.length 1), (6, .p (I x2)), (7, .p (I y.1)), (8, .p (I y.2))], [(0, .pc 3 (x1.map I))], 1)) k ?_ k (0, mx 0 (wrap64 (x2 - 9))) (Nat.le_refl _) h))
                  · exact wkA
                  · clear h
                    intro m ⟨y1, y2⟩ K2 hle ih2 h
                    simp only [mkE, List.replicate, List.foldl, List.set]
                    cases m with
                    | zero => simp [parse_l2] at h
                    | succ m =>
                      simp only [parse_l2] at h
                      repeat' (first | (simp only [if_true, if_false, Bool.false_eq_true, Bool.not_true, Bool.not_false, reduceIte] at h) | (split at h) | (rw [Option.bind_eq_some_iff] at h; obtain ⟨_, hbb, h⟩ := h; try (simp only [Option.some.injEq] at hbb; subst hbb)) | (cases h; done) | (simp only [Option.some.injEq, Prod.mk.injEq] at h; subst h) | (simp only [Option.some.injEq, Prod.mk.injEq] at h; (have h1 := h.1; have h2 := h.2; clear h; subst h1; first | subst h2 | (obtain ⟨h3, h4⟩ := h2; subst h3; subst h4))))
                      all_goals
                        repeat' (first | refine WP_seq ?_ | refine WP_block ?_ | refine regA 64 fun KQ hKQ => ?_ | refine regD 64 fun KQ hKQ => ?_ | refine opsA rfl rfl rfl rfl (nrmA ?_) | refine opsW_skip rfl (nrmA ?_) | (refine opsW_nil ⟨by kernel_rfl, hKQ _ _ _ (nrmB ?_)⟩; clear hKQ KQ) | (refine opsW_nil (hKQ _ _ _ (nrmB ?_)); clear hKQ KQ) | refine condT rfl ?_ | refine condF rfl ?_ | refine WP_skip (nrmB ?_) | refine WP_ret (nrmC ?_) | refine WP_exit (nrmC ?_))
                        first
                        | (refine ih2 _ _ _ _ (_, _) (Nat.lt_succ_self _) h ?_; exact wkA)
                        | (refine ih _ _ _ m (_, _) (by omega) h ?_; exact wkA)
                · repeat' (first | (simp only [if_true, if_false, Bool.false_eq_true, Bool.not_true, Bool.not_false, reduceIte] at h) | (split at h) | (rw [Option.bind_eq_some_iff] at h; obtain ⟨_, hbb, h⟩ := h; try (simp only [Option.some.injEq] at hbb; subst hbb)) | (cases h; done) | (simp only [Option.some.injEq, Prod.mk.injEq] at h; subst h) | (simp only [Option.some.injEq, Prod.mk.injEq] at h; (have h1 := h.1; have h2 := h.2; clear h; subst h1; first | subst h2 | (obtain ⟨h3, h4⟩ := h2; subst h3; subst h4))))
                  repeat' (first | refine WP_seq ?_ | refine WP_block ?_ | refine regA 64 fun KQ hKQ => ?_ | refine regD 64 fun KQ hKQ => ?_ | refine opsA rfl rfl rfl rfl (nrmA ?_) | refine callA rfl rfl rfl (nrmA ?_) (hs := nat_trimmed.snd _ _ _ (by first | assumption | omega | rfl | (simp; omega))) | refine opsW_skip rfl (nrmA ?_) | (refine opsW_nil ⟨by kernel_rfl, hKQ _ _ _ (nrmB ?_)⟩; clear hKQ KQ) | (refine opsW_nil (hKQ _ _ _ (nrmB ?_)); clear hKQ KQ) | refine condT rfl ?_ | refine condF rfl ?_ | refine WP_skip (nrmB ?_) | refine WP_ret (nrmC ?_) | refine WP_exit (nrmC ?_))
                  first
                  | exact endA
  · refine Sound.of_WP tok Tryd.func31 rfl rfl ?_; simp only [Tryd.f31, args0, List.map, List.length_cons, List.length_nil, Nat.reduceAdd, Nat.reduceSub, List.replicate, List.cons_append, List.nil_append]
    repeat' (first | refine WP_seq ?_ | refine WP_block ?_ | refine regA 64 fun KQ hKQ => ?_ | refine regD 64 fun KQ hKQ => ?_ | refine opsA rfl rfl rfl rfl (nrmA ?_) | refine opsW_skip rfl (nrmA ?_) | (refine opsW_nil ⟨by kernel_rfl, hKQ _ _ _ (nrmB ?_)⟩; clear hKQ KQ) | (refine opsW_nil (hKQ _ _ _ (nrmB ?_)); clear hKQ KQ) | refine condT rfl ?_ | refine condF rfl ?_ | refine WP_skip (nrmB ?_) | refine WP_ret (nrmC ?_) | refine WP_exit (nrmC ?_))
    refine WP_loop (WPL_weaken ?_ (WPL_rec (α := Int) (fun k x => parse_l0 k b x) (r, e) (fun x => (mkE 68 [(0, .p (Sg b)), (22, .p (I (b.size : Int))), (23, .p (I x))], [], 0)) ?_ k _ h))
    · exact wkA
    · clear h; try clear k
      intro k x K ih h
      simp only [mkE, List.replicate, List.foldl, List.set]
      cases k with
      | zero => simp [parse_l0] at h
      | succ k =>
        simp only [parse_l0] at h
        split at h
        · repeat' (first | (simp only [if_true, if_false, Bool.false_eq_true, Bool.not_true, Bool.not_false, reduceIte] at h) | (split at h) | (rw [Option.bind_eq_some_iff] at h; obtain ⟨_, hbb, h⟩ := h; try (simp only [Option.some.injEq] at hbb; subst hbb)) | (cases h; done) | (simp only [Option.some.injEq, Prod.mk.injEq] at h; subst h) | (simp only [Option.some.injEq, Prod.mk.injEq] at h; (have h1 := h.1; have h2 := h.2; clear h; subst h1; first | subst h2 | (obtain ⟨h3, h4⟩ := h2; subst h3; subst h4))))
          all_goals
            repeat' (first | refine WP_seq ?_ | refine WP_block ?_ | refine regA 64 fun KQ hKQ => ?_ | refine regD 64 fun KQ hKQ => ?_ | refine opsA rfl rfl rfl rfl (nrmA ?_) | refine opsW_skip rfl (nrmA ?_) | (refine opsW_nil ⟨by kernel_rfl, hKQ _ _ _ (nrmB ?_)⟩; clear hKQ KQ) | (refine opsW_nil (hKQ _ _ _ (nrmB ?_)); clear hKQ KQ) | refine condT rfl ?_ | refine condF rfl ?_ | refine WP_skip (nrmB ?_) | refine WP_ret (nrmC ?_) | refine WP_exit (nrmC ?_))
            first
            | exact endA
            | (refine ih _ _ _ _ _ (Nat.lt_succ_self _) h ?_; exact wkA)
        · split at h
          · repeat' (first | (simp only [if_true, if_false, Bool.false_eq_true, Bool.not_true, Bool.not_false, reduceIte] at h) | (split at h) | (rw [Option.bind_eq_some_iff] at h; obtain ⟨_, hbb, h⟩ := h; try (simp only [Option.some.injEq] at hbb; subst hbb)) | (cases h; done) | (simp only [Option.some.injEq, Prod.mk.injEq] at h; subst h) | (simp only [Option.some.injEq, Prod.mk.injEq] at h; (have h1 := h.1; have h2 := h.2; clear h; subst h1; first | subst h2 | (obtain ⟨h3, h4⟩ := h2; subst h3; subst h4))))
            repeat' (first | refine WP_seq ?_ | refine WP_block ?_ | refine regA 64 fun KQ hKQ => ?_ | refine regD 64 fun KQ hKQ => ?_ | refine opsA rfl rfl rfl rfl (nrmA ?_) | refine opsW_skip rfl (nrmA ?_) | (refine opsW_nil ⟨by kernel_rfl, hKQ _ _ _ (nrmB ?_)⟩; clear hKQ KQ) | (refine opsW_nil (hKQ _ _ _ (nrmB ?_)); clear hKQ KQ) | refine condT rfl ?_ | refine condF rfl ?_ | refine WP_skip (nrmB ?_) | refine WP_ret (nrmC ?_) | refine WP_exit (nrmC ?_))
            exact endA
          · clear ih
            repeat' (first | refine WP_seq ?_ | refine WP_block ?_ | refine regA 64 fun KQ hKQ => ?_ | refine regD 64 fun KQ hKQ => ?_ | refine opsA rfl rfl rfl rfl (nrmA ?_) | refine opsW_skip rfl (nrmA ?_) | (refine opsW_nil ⟨by kernel_rfl, hKQ _ _ _ (nrmB ?_)⟩; clear hKQ KQ) | (refine opsW_nil (hKQ _ _ _ (nrmB ?_)); clear hKQ KQ) | refine condT rfl ?_ | refine condF rfl ?_ | refine WP_skip (nrmB ?_) | refine WP_ret (nrmC ?_) | refine WP_exit (nrmC ?_))
            refine WP_loop (WPL_weaken ?_ (WPL_rec (α := List Int × Int) (fun k x => parse_l1 k b x.1 x.2) (r, e) (fun x => (mkE 68 [(0, .p (Sg b)), (5, .sl 0 0 x.1.length 1), (6, .p (I x.2))], [(0, .pc 3 (x.1.map I))], 1)) ?_ k (_, _) h))
            · exact wkA
            · clear h; try clear k
              intro k ⟨x1, x2⟩ K ih h
              simp only [mkE, List.replicate, List.foldl, List.set]
              cases k with
              | zero => simp [parse_l1] at h
              | succ k =>
                simp only [parse_l1] at h
                split at h
                · repeat' (first | refine WP_seq ?_ | refine WP_block ?_ | refine regA 64 fun KQ hKQ => ?_ | refine regD 64 fun KQ hKQ => ?_ | refine opsA rfl rfl rfl rfl (nrmA ?_) | refine opsW_skip rfl (nrmA ?_) | (refine opsW_nil ⟨by kernel_rfl, hKQ _ _ _ (nrmB ?_)⟩; clear hKQ KQ) | (refine opsW_nil (hKQ _ _ _ (nrmB ?_)); clear hKQ KQ) | refine condT rfl ?_ | refine condF rfl ?_ | refine WP_skip (nrmB ?_) | refine WP_ret (nrmC ?_) | refine WP_exit (nrmC ?_))
                  refine WP_loop (WPL_weaken ?_ (WPL_recB (α := Int × Int) (fun k y => parse_l2 k b x1 x2 y.1 y.2) (r, e) (fun y => (mkE 68 [(0, .p (Sg b)), (5, .sl 0 0 x1.length 1), (6, .p (I x2)), (7, .p (I y.1)), (8, .p (I y.2))], [(0, .pc 3 (x1.map I))], 1)) k ?_ k (0, mx 0 (wrap64 (x2 - 9))) (Nat.le_refl _) h))
                  · exact wkA
                  · clear h
                    intro m ⟨y1, y2⟩ K2 hle ih2 h
                    simp only [mkE, List.replicate, List.foldl, List.set]
                    cases m with
                    | zero => simp [parse_l2] at h
                    | succ m =>
                      simp only [parse_l2] at h
                      repeat' (first | (simp only [if_true, if_false, Bool.false_eq_true, Bool.not_true, Bool.not_false, reduceIte] at h) | (split at h) | (rw [Option.bind_eq_some_iff] at h; obtain ⟨_, hbb, h⟩ := h; try (simp only [Option.some.injEq] at hbb; subst hbb)) | (cases h; done) | (simp only [Option.some.injEq, Prod.mk.injEq] at h; subst h) | (simp only [Option.some.injEq, Prod.mk.injEq] at h; (have h1 := h.1; have h2 := h.2; clear h; subst h1; first | subst h2 | (obtain ⟨h3, h4⟩ := h2; subst h3; subst h4))))
                      all_goals
                        repeat' (first | refine WP_seq ?_ | refine WP_block ?_ | refine regA 64 fun KQ hKQ => ?_ | refine regD 64 fun KQ hKQ => ?_ | refine opsA rfl rfl rfl rfl (nrmA ?_) | refine opsW_skip rfl (nrmA ?_) | (refine opsW_nil ⟨by kernel_rfl, hKQ _ _ _ (nrmB ?_)⟩; clear hKQ KQ) | (refine opsW_nil (hKQ _ _ _ (nrmB ?_)); clear hKQ KQ) | refine condT rfl ?_ | refine condF rfl ?_ | refine WP_skip (nrmB ?_) | refine WP_ret (nrmC ?_) | refine WP_exit (nrmC ?_))
                        first
                        | (refine ih2 _ _ _ _ (_, _) (Nat.lt_succ_self _) h ?_; exact wkA)
                        | (refine ih _ _ _ m (_, _) (by omega) h ?_; exact wkA)
                · repeat' (first | (simp only [if_true, if_false, Bool.false_eq_true, Bool.not_true, Bool.not_false, reduceIte] at h) | (split at h) | (rw [Option.bind_eq_some_iff] at h; obtain ⟨_, hbb, h⟩ := h; try (simp only [Option.some.injEq] at hbb; subst hbb)) | (cases h; done) | (simp only [Option.some.injEq, Prod.mk.injEq] at h; subst h) | (simp only [Option.some.injEq, Prod.mk.injEq] at h; (have h1 := h.1; have h2 := h.2; clear h; subst h1; first | subst h2 | (obtain ⟨h3, h4⟩ := h2; subst h3; subst h4))))
                  repeat' (first | refine WP_seq ?_ | refine WP_block ?_ | refine regA 64 fun KQ hKQ => ?_ | refine regD 64 fun KQ hKQ => ?_ | refine opsA rfl rfl rfl rfl (nrmA ?_) | refine callA rfl rfl rfl (nrmA ?_) (hs := nat_trimmed.snd _ _ _ (by first | assumption | omega | rfl | (simp; omega))) | refine opsW_skip rfl (nrmA ?_) | (refine opsW_nil ⟨by kernel_rfl, hKQ _ _ _ (nrmB ?_)⟩; clear hKQ KQ) | (refine opsW_nil (hKQ _ _ _ (nrmB ?_)); clear hKQ KQ) | refine condT rfl ?_ | refine condF rfl ?_ | refine WP_skip (nrmB ?_) | refine WP_ret (nrmC ?_) | refine WP_exit (nrmC ?_))
                  first
                  | exact endA
end Go.Proofs.YtalklhbdpmggjaaDoor.Pw
namespace Go.Proofs.YtalklhbdpmggjaaDoor.Pw
open Go Wd Px Mat
set_option linter.unusedVariables false
set_option linter.unusedSimpArgs false
set_option maxRecDepth 100000
attribute [local irreducible] Int.tmod Int.tdiv
set_option maxHeartbeats 8000000
theorem ref_Parse.snd (k : Nat) (b : ByteArray) (r : List Int) (e : Int) (h0 : (b.toList == (ByteArray.mk #[]).toList) = false) (h1 : ¬ (1 : Int) < (b.size : Int) ∨ ¬ ((b.data.toList.getD 0 0).toNat : Int) = 48) (hp : (0 : Int) < (b.size : Int)) (h : parse_r0 k b 0 = some (r, e)) : Sound Tryd.prog 39 [Sg b] (.tup [N r, I e]) := by
  have hf : ∀ i : Int, ((b.data.toList.getD i.toNat 0).toNat : Int) = chr b i := fun _ => rfl
  have hf0 : ((b.data.toList.getD 0 0).toNat : Int) = chr b 0 := rfl
  rw [hf0] at h1
  by_cases hs : (1 : Int) < (b.size : Int)
  · have h2 : ¬ chr b 0 = 48 := by rcases h1 with h1 | h1; exact absurd hs h1; exact h1
    refine Sound.of_WP tok Tryd.func39 rfl rfl ?_; simp only [Tryd.f39, args0, List.map, List.length_cons, List.length_nil, Nat.reduceAdd, Nat.reduceSub, List.replicate, List.cons_append, List.nil_append]
    repeat' (first | refine WP_seq ?_ | refine WP_block ?_ | refine regA 64 fun KQ hKQ => ?_ | refine regD 64 fun KQ hKQ => ?_ | refine opsA rfl rfl rfl rfl (nrmA ?_) | refine opsW_skip rfl (nrmA ?_) | (refine opsW_nil ⟨by kernel_rfl, hKQ _ _ _ (nrmB ?_)⟩; clear hKQ KQ) | (refine opsW_nil (hKQ _ _ _ (nrmB ?_)); clear hKQ KQ) | refine condT rfl ?_ | refine condF rfl ?_ | refine WP_skip (nrmB ?_) | refine WP_ret (nrmC ?_) | refine WP_exit (nrmC ?_))
    refine WP_loop (WPL_weaken ?_ (WPL_rec (α := Int) (fun k x => parse_r0 k b x) (r, e) (fun x => (mkE 70 [(0, .p (Sg b)), (4, .p (I x))], [], 0)) ?_ k _ h))
    · exact wkA
    · clear h; try clear k
      intro k x K ih h
      simp only [mkE, List.replicate, List.foldl, List.set]
      cases k with
      | zero => simp [parse_r0] at h
      | succ k =>
        simp only [parse_r0] at h
        split at h
        · repeat' (first | (simp only [if_true, if_false, Bool.false_eq_true, Bool.not_true, Bool.not_false, reduceIte] at h) | (split at h) | (rw [Option.bind_eq_some_iff] at h; obtain ⟨_, hbb, h⟩ := h; try (simp only [Option.some.injEq] at hbb; subst hbb)) | (cases h; done) | (simp only [Option.some.injEq, Prod.mk.injEq] at h; subst h) | (simp only [Option.some.injEq, Prod.mk.injEq] at h; (have h1 := h.1; have h2 := h.2; clear h; subst h1; first | subst h2 | (obtain ⟨h3, h4⟩ := h2; subst h3; subst h4))))
          all_goals
            repeat' (first | refine WP_seq ?_ | refine WP_block ?_ | refine regA 64 fun KQ hKQ => ?_ | refine regD 64 fun KQ hKQ => ?_ | refine opsA rfl rfl rfl rfl (nrmA ?_) | refine opsW_skip rfl (nrmA ?_) | (refine opsW_nil ⟨by kernel_rfl, hKQ _ _ _ (nrmB ?_)⟩; clear hKQ KQ) | (refine opsW_nil (hKQ _ _ _ (nrmB ?_)); clear hKQ KQ) | refine condT rfl ?_ | refine condF rfl ?_ | refine WP_skip (nrmB ?_) | refine WP_ret (nrmC ?_) | refine WP_exit (nrmC ?_))
            first
            | exact endA
            | (refine ih _ _ _ _ _ (Nat.lt_succ_self _) h ?_; exact wkA)
        · split at h
          · repeat' (first | (simp only [if_true, if_false, Bool.false_eq_true, Bool.not_true, Bool.not_false, reduceIte] at h) | (split at h) | (rw [Option.bind_eq_some_iff] at h; obtain ⟨_, hbb, h⟩ := h; try (simp only [Option.some.injEq] at hbb; subst hbb)) | (cases h; done) | (simp only [Option.some.injEq, Prod.mk.injEq] at h; subst h) | (simp only [Option.some.injEq, Prod.mk.injEq] at h; (have h1 := h.1; have h2 := h.2; clear h; subst h1; first | subst h2 | (obtain ⟨h3, h4⟩ := h2; subst h3; subst h4))))
            repeat' (first | refine WP_seq ?_ | refine WP_block ?_ | refine regA 64 fun KQ hKQ => ?_ | refine regD 64 fun KQ hKQ => ?_ | refine opsA rfl rfl rfl rfl (nrmA ?_) | refine opsW_skip rfl (nrmA ?_) | (refine opsW_nil ⟨by kernel_rfl, hKQ _ _ _ (nrmB ?_)⟩; clear hKQ KQ) | (refine opsW_nil (hKQ _ _ _ (nrmB ?_)); clear hKQ KQ) | refine condT rfl ?_ | refine condF rfl ?_ | refine WP_skip (nrmB ?_) | refine WP_ret (nrmC ?_) | refine WP_exit (nrmC ?_))
            exact endA
          · clear ih
            repeat' (first | refine WP_seq ?_ | refine WP_block ?_ | refine regA 64 fun KQ hKQ => ?_ | refine regD 64 fun KQ hKQ => ?_ | refine opsA rfl rfl rfl rfl (nrmA ?_) | refine opsW_skip rfl (nrmA ?_) | (refine opsW_nil ⟨by kernel_rfl, hKQ _ _ _ (nrmB ?_)⟩; clear hKQ KQ) | (refine opsW_nil (hKQ _ _ _ (nrmB ?_)); clear hKQ KQ) | refine condT rfl ?_ | refine condF rfl ?_ | refine WP_skip (nrmB ?_) | refine WP_ret (nrmC ?_) | refine WP_exit (nrmC ?_))
            refine WP_loop (WPL_weaken ?_ (WPL_rec (α := List Int × Int) (fun k x => parse_r1 k b x.1 x.2) (r, e) (fun x => (mkE 70 [(0, .p (Sg b)), (5, .sl 0 0 x.1.length 1), (6, .p (I x.2))], [(0, .pc 3 (x.1.map I))], 1)) ?_ k (_, _) h))
            · exact wkA
            · clear h; try clear k
              intro k ⟨x1, x2⟩ K ih h
              simp only [mkE, List.replicate, List.foldl, List.set]
              cases k with
              | zero => simp [parse_r1] at h
              | succ k =>
                simp only [parse_r1] at h
                split at h
                · repeat' (first | refine WP_seq ?_ | refine WP_block ?_ | refine regA 64 fun KQ hKQ => ?_ | refine regD 64 fun KQ hKQ => ?_ | refine opsA rfl rfl rfl rfl (nrmA ?_) | refine opsW_skip rfl (nrmA ?_) | (refine opsW_nil ⟨by kernel_rfl, hKQ _ _ _ (nrmB ?_)⟩; clear hKQ KQ) | (refine opsW_nil (hKQ _ _ _ (nrmB ?_)); clear hKQ KQ) | refine condT rfl ?_ | refine condF rfl ?_ | refine WP_skip (nrmB ?_) | refine WP_ret (nrmC ?_) | refine WP_exit (nrmC ?_))
                  refine WP_loop (WPL_weaken ?_ (WPL_recB (α := Int × Int) (fun k y => parse_r2 k b x1 x2 y.1 y.2) (r, e) (fun y => (mkE 70 [(0, .p (Sg b)), (5, .sl 0 0 x1.length 1), (6, .p (I x2)), (7, .p (I y.1)), (8, .p (I y.2))], [(0, .pc 3 (x1.map I))], 1)) k ?_ k (0, mx 0 (wrap64 (x2 - 9))) (Nat.le_refl _) h))
                  · exact wkA
                  · clear h
                    intro m ⟨y1, y2⟩ K2 hle ih2 h
                    simp only [mkE, List.replicate, List.foldl, List.set]
                    cases m with
                    | zero => simp [parse_r2] at h
                    | succ m =>
                      simp only [parse_r2] at h
                      repeat' (first | (simp only [if_true, if_false, Bool.false_eq_true, Bool.not_true, Bool.not_false, reduceIte] at h) | (split at h) | (rw [Option.bind_eq_some_iff] at h; obtain ⟨_, hbb, h⟩ := h; try (simp only [Option.some.injEq] at hbb; subst hbb)) | (cases h; done) | (simp only [Option.some.injEq, Prod.mk.injEq] at h; subst h) | (simp only [Option.some.injEq, Prod.mk.injEq] at h; (have h1 := h.1; have h2 := h.2; clear h; subst h1; first | subst h2 | (obtain ⟨h3, h4⟩ := h2; subst h3; subst h4))))
                      all_goals
                        repeat' (first | refine WP_seq ?_ | refine WP_block ?_ | refine regA 64 fun KQ hKQ => ?_ | refine regD 64 fun KQ hKQ => ?_ | refine opsA rfl rfl rfl rfl (nrmA ?_) | refine opsW_skip rfl (nrmA ?_) | (refine opsW_nil ⟨by kernel_rfl, hKQ _ _ _ (nrmB ?_)⟩; clear hKQ KQ) | (refine opsW_nil (hKQ _ _ _ (nrmB ?_)); clear hKQ KQ) | refine condT rfl ?_ | refine condF rfl ?_ | refine WP_skip (nrmB ?_) | refine WP_ret (nrmC ?_) | refine WP_exit (nrmC ?_))
                        first
                        | (refine ih2 _ _ _ _ (_, _) (Nat.lt_succ_self _) h ?_; exact wkA)
                        | (refine ih _ _ _ m (_, _) (by omega) h ?_; exact wkA)
                · repeat' (first | (simp only [if_true, if_false, Bool.false_eq_true, Bool.not_true, Bool.not_false, reduceIte] at h) | (split at h) | (rw [Option.bind_eq_some_iff] at h; obtain ⟨_, hbb, h⟩ := h; try (simp only [Option.some.injEq] at hbb; subst hbb)) | (cases h; done) | (simp only [Option.some.injEq, Prod.mk.injEq] at h; subst h) | (simp only [Option.some.injEq, Prod.mk.injEq] at h; (have h1 := h.1; have h2 := h.2; clear h; subst h1; first | subst h2 | (obtain ⟨h3, h4⟩ := h2; subst h3; subst h4))))
                  repeat' (first | refine WP_seq ?_ | refine WP_block ?_ | refine regA 64 fun KQ hKQ => ?_ | refine regD 64 fun KQ hKQ => ?_ | refine opsA rfl rfl rfl rfl (nrmA ?_) | refine callA rfl rfl rfl (nrmA ?_) (hs := ref_fit.snd _ _ _ _ (by first | assumption | omega | rfl | (simp; omega))) | refine opsW_skip rfl (nrmA ?_) | (refine opsW_nil ⟨by kernel_rfl, hKQ _ _ _ (nrmB ?_)⟩; clear hKQ KQ) | (refine opsW_nil (hKQ _ _ _ (nrmB ?_)); clear hKQ KQ) | refine condT rfl ?_ | refine condF rfl ?_ | refine WP_skip (nrmB ?_) | refine WP_ret (nrmC ?_) | refine WP_exit (nrmC ?_))
                  first
                  | exact endA
  · refine Sound.of_WP tok Tryd.func39 rfl rfl ?_; simp only [Tryd.f39, args0, List.map, List.length_cons, List.length_nil, Nat.reduceAdd, Nat.reduceSub, List.replicate, List.cons_append, List.nil_append]
    repeat' (first | refine WP_seq ?_ | refine WP_block ?_ | refine regA 64 fun KQ hKQ => ?_ | refine regD 64 fun KQ hKQ => ?_ | refine opsA rfl rfl rfl rfl (nrmA ?_) | refine opsW_skip rfl (nrmA ?_) | (refine opsW_nil ⟨by kernel_rfl, hKQ _ _ _ (nrmB ?_)⟩; clear hKQ KQ) | (refine opsW_nil (hKQ _ _ _ (nrmB ?_)); clear hKQ KQ) | refine condT rfl ?_ | refine condF rfl ?_ | refine WP_skip (nrmB ?_) | refine WP_ret (nrmC ?_) | refine WP_exit (nrmC ?_))
    refine WP_loop (WPL_weaken ?_ (WPL_rec (α := Int) (fun k x => parse_r0 k b x) (r, e) (fun x => (mkE 70 [(0, .p (Sg b)), (4, .p (I x))], [], 0)) ?_ k _ h))
    · exact wkA
    · clear h; try clear k
      intro k x K ih h
      simp only [mkE, List.replicate, List.foldl, List.set]
      cases k with
      | zero => simp [parse_r0] at h
      | succ k =>
        simp only [parse_r0] at h
        split at h
        · repeat' (first | (simp only [if_true, if_false, Bool.false_eq_true, Bool.not_true, Bool.not_false, reduceIte] at h) | (split at h) | (rw [Option.bind_eq_some_iff] at h; obtain ⟨_, hbb, h⟩ := h; try (simp only [Option.some.injEq] at hbb; subst hbb)) | (cases h; done) | (simp only [Option.some.injEq, Prod.mk.injEq] at h; subst h) | (simp only [Option.some.injEq, Prod.mk.injEq] at h; (have h1 := h.1; have h2 := h.2; clear h; subst h1; first | subst h2 | (obtain ⟨h3, h4⟩ := h2; subst h3; subst h4))))
          all_goals
            repeat' (first | refine WP_seq ?_ | refine WP_block ?_ | refine regA 64 fun KQ hKQ => ?_ | refine regD 64 fun KQ hKQ => ?_ | refine opsA rfl rfl rfl rfl (nrmA ?_) | refine opsW_skip rfl (nrmA ?_) | (refine opsW_nil ⟨by kernel_rfl, hKQ _ _ _ (nrmB ?_)⟩; clear hKQ KQ) | (refine opsW_nil (hKQ _ _ _ (nrmB ?_)); clear hKQ KQ) | refine condT rfl ?_ | refine condF rfl ?_ | refine WP_skip (nrmB ?_) | refine WP_ret (nrmC ?_) | refine WP_exit (nrmC ?_))
            first
            | exact endA
            | (refine ih _ _ _ _ _ (Nat.lt_succ_self _) h ?_; exact wkA)
        · split at h
          · repeat' (first | (simp only [if_true, if_false, Bool.false_eq_true, Bool.not_true, Bool.not_false, reduceIte] at h) | (split at h) | (rw [Option.bind_eq_some_iff] at h; obtain ⟨_, hbb, h⟩ := h; try (simp only [Option.some.injEq] at hbb; subst hbb)) | (cases h; done) | (simp only [Option.some.injEq, Prod.mk.injEq] at h; subst h) | (simp only [Option.some.injEq, Prod.mk.injEq] at h; (have h1 := h.1; have h2 := h.2; clear h; subst h1; first | subst h2 | (obtain ⟨h3, h4⟩ := h2; subst h3; subst h4))))
            repeat' (first | refine WP_seq ?_ | refine WP_block ?_ | refine regA 64 fun KQ hKQ => ?_ | refine regD 64 fun KQ hKQ => ?_ | refine opsA rfl rfl rfl rfl (nrmA ?_) | refine opsW_skip rfl (nrmA ?_) | (refine opsW_nil ⟨by kernel_rfl, hKQ _ _ _ (nrmB ?_)⟩; clear hKQ KQ) | (refine opsW_nil (hKQ _ _ _ (nrmB ?_)); clear hKQ KQ) | refine condT rfl ?_ | refine condF rfl ?_ | refine WP_skip (nrmB ?_) | refine WP_ret (nrmC ?_) | refine WP_exit (nrmC ?_))
            exact endA
          · clear ih
            repeat' (first | refine WP_seq ?_ | refine WP_block ?_ | refine regA 64 fun KQ hKQ => ?_ | refine regD 64 fun KQ hKQ => ?_ | refine opsA rfl rfl rfl rfl (nrmA ?_) | refine opsW_skip rfl (nrmA ?_) | (refine opsW_nil ⟨by kernel_rfl, hKQ _ _ _ (nrmB ?_)⟩; clear hKQ KQ) | (refine opsW_nil (hKQ _ _ _ (nrmB ?_)); clear hKQ KQ) | refine condT rfl ?_ | refine condF rfl ?_ | refine WP_skip (nrmB ?_) | refine WP_ret (nrmC ?_) | refine WP_exit (nrmC ?_))
            refine WP_loop (WPL_weaken ?_ (WPL_rec (α := List Int × Int) (fun k x => parse_r1 k b x.1 x.2) (r, e) (fun x => (mkE 70 [(0, .p (Sg b)), (5, .sl 0 0 x.1.length 1), (6, .p (I x.2))], [(0, .pc 3 (x.1.map I))], 1)) ?_ k (_, _) h))
            · exact wkA
            · clear h; try clear k
              intro k ⟨x1, x2⟩ K ih h
              simp only [mkE, List.replicate, List.foldl, List.set]
              cases k with
              | zero => simp [parse_r1] at h
              | succ k =>
                simp only [parse_r1] at h
                split at h
                · repeat' (first | refine WP_seq ?_ | refine WP_block ?_ | refine regA 64 fun KQ hKQ => ?_ | refine regD 64 fun KQ hKQ => ?_ | refine opsA rfl rfl rfl rfl (nrmA ?_) | refine opsW_skip rfl (nrmA ?_) | (refine opsW_nil ⟨by kernel_rfl, hKQ _ _ _ (nrmB ?_)⟩; clear hKQ KQ) | (refine opsW_nil (hKQ _ _ _ (nrmB ?_)); clear hKQ KQ) | refine condT rfl ?_ | refine condF rfl ?_ | refine WP_skip (nrmB ?_) | refine WP_ret (nrmC ?_) | refine WP_exit (nrmC ?_))
                  refine WP_loop (WPL_weaken ?_ (WPL_recB (α := Int × Int) (fun k y => parse_r2 k b x1 x2 y.1 y.2) (r, e) (fun y => (mkE 70 [(0, .p (Sg b)), (5, .sl 0 0 x1.length 1), (6, .p (I x2)), (7, .p (I y.1)), (8, .p (I y.2))], [(0, .pc 3 (x1.map I))], 1)) k ?_ k (0, mx 0 (wrap64 (x2 - 9))) (Nat.le_refl _) h))
                  · exact wkA
                  · clear h
                    intro m ⟨y1, y2⟩ K2 hle ih2 h
                    simp only [mkE, List.replicate, List.foldl, List.set]
                    cases m with
                    | zero => simp [parse_r2] at h
                    | succ m =>
                      simp only [parse_r2] at h
                      repeat' (first | (simp only [if_true, if_false, Bool.false_eq_true, Bool.not_true, Bool.not_false, reduceIte] at h) | (split at h) | (rw [Option.bind_eq_some_iff] at h; obtain ⟨_, hbb, h⟩ := h; try (simp only [Option.some.injEq] at hbb; subst hbb)) | (cases h; done) | (simp only [Option.some.injEq, Prod.mk.injEq] at h; subst h) | (simp only [Option.some.injEq, Prod.mk.injEq] at h; (have h1 := h.1; have h2 := h.2; clear h; subst h1; first | subst h2 | (obtain ⟨h3, h4⟩ := h2; subst h3; subst h4))))
                      all_goals
                        repeat' (first | refine WP_seq ?_ | refine WP_block ?_ | refine regA 64 fun KQ hKQ => ?_ | refine regD 64 fun KQ hKQ => ?_ | refine opsA rfl rfl rfl rfl (nrmA ?_) | refine opsW_skip rfl (nrmA ?_) | (refine opsW_nil ⟨by kernel_rfl, hKQ _ _ _ (nrmB ?_)⟩; clear hKQ KQ) | (refine opsW_nil (hKQ _ _ _ (nrmB ?_)); clear hKQ KQ) | refine condT rfl ?_ | refine condF rfl ?_ | refine WP_skip (nrmB ?_) | refine WP_ret (nrmC ?_) | refine WP_exit (nrmC ?_))
                        first
                        | (refine ih2 _ _ _ _ (_, _) (Nat.lt_succ_self _) h ?_; exact wkA)
                        | (refine ih _ _ _ m (_, _) (by omega) h ?_; exact wkA)
                · repeat' (first | (simp only [if_true, if_false, Bool.false_eq_true, Bool.not_true, Bool.not_false, reduceIte] at h) | (split at h) | (rw [Option.bind_eq_some_iff] at h; obtain ⟨_, hbb, h⟩ := h; try (simp only [Option.some.injEq] at hbb; subst hbb)) | (cases h; done) | (simp only [Option.some.injEq, Prod.mk.injEq] at h; subst h) | (simp only [Option.some.injEq, Prod.mk.injEq] at h; (have h1 := h.1; have h2 := h.2; clear h; subst h1; first | subst h2 | (obtain ⟨h3, h4⟩ := h2; subst h3; subst h4))))
                  repeat' (first | refine WP_seq ?_ | refine WP_block ?_ | refine regA 64 fun KQ hKQ => ?_ | refine regD 64 fun KQ hKQ => ?_ | refine opsA rfl rfl rfl rfl (nrmA ?_) | refine callA rfl rfl rfl (nrmA ?_) (hs := ref_fit.snd _ _ _ _ (by first | assumption | omega | rfl | (simp; omega))) | refine opsW_skip rfl (nrmA ?_) | (refine opsW_nil ⟨by kernel_rfl, hKQ _ _ _ (nrmB ?_)⟩; clear hKQ KQ) | (refine opsW_nil (hKQ _ _ _ (nrmB ?_)); clear hKQ KQ) | refine condT rfl ?_ | refine condF rfl ?_ | refine WP_skip (nrmB ?_) | refine WP_ret (nrmC ?_) | refine WP_exit (nrmC ?_))
                  first
                  | exact endA
end Go.Proofs.YtalklhbdpmggjaaDoor.Pw
namespace Go.Proofs.YtalklhbdpmggjaaDoor.Px
open Go Go.Proofs.YtalklhbdpmggjaaDoor.Wd Go.Proofs.YtalklhbdpmggjaaDoor.Mat
set_option linter.unusedVariables false
def Dgs : ByteArray := ⟨#[48, 49, 50, 51, 52, 53, 54, 55, 56, 57]⟩
def limb_l0 : Nat → Int → Bool → ByteArray → Int → Option ByteArray
  | 0, _, _, _, _ => none
  | k + 1, n, full, s, i => if i < 9 then (if n > 0 then (if 0 ≤ Int.tmod n 10 then (if Int.tmod n 10 ≤ wrap64 (Int.tmod n 10 + 1) then (if wrap64 (Int.tmod n 10 + 1) ≤ 10 then (if ((Dgs.extract (Int.tmod n 10).toNat (wrap64 (Int.tmod n 10 + 1)).toNat).size + s.size : Nat) ≤ 9223372036854775807 then limb_l0 k (wrap64 (Int.tdiv n 10)) full (Dgs.extract (Int.tmod n 10).toNat (wrap64 (Int.tmod n 10 + 1)).toNat ++ s) (wrap64 (i + 1)) else none) else none) else none) else none)
      else (if full = true then (if 0 ≤ Int.tmod n 10 then (if Int.tmod n 10 ≤ wrap64 (Int.tmod n 10 + 1) then (if wrap64 (Int.tmod n 10 + 1) ≤ 10 then (if ((Dgs.extract (Int.tmod n 10).toNat (wrap64 (Int.tmod n 10 + 1)).toNat).size + s.size : Nat) ≤ 9223372036854775807 then limb_l0 k (wrap64 (Int.tdiv n 10)) full (Dgs.extract (Int.tmod n 10).toNat (wrap64 (Int.tmod n 10 + 1)).toNat ++ s) (wrap64 (i + 1)) else none) else none) else none) else none) else some s)) else some s
def text_l0 : Nat → List Int → ByteArray → Int → Option ByteArray
  | 0, _, _, _ => none
  | k + 1, a, s, i => if i < (a.length : Int) then (if 0 ≤ i then ((limb_l0 k (rd a i) (decide (i < wrap64 ((a.length : Int) - 1))) ⟨#[]⟩ 0).bind fun t => if (t.size + s.size : Nat) ≤ 9223372036854775807 then text_l0 k a (t ++ s) (wrap64 (i + 1)) else none) else none) else some s
theorem dgs_at : ∀ r, r < 10 → Dgs.extract r (r + 1) = ⟨#[UInt8.ofNat (48 + r)]⟩ := by decide
theorem ba_cons (c : UInt8) (S : List UInt8) : (⟨#[c]⟩ : ByteArray) ++ ⟨S.toArray⟩ = ⟨(c :: S).toArray⟩ := by
  apply ByteArray.ext; simp
theorem ba_app (A S : List UInt8) : (⟨A.toArray⟩ : ByteArray) ++ ⟨S.toArray⟩ = ⟨(A ++ S).toArray⟩ := by
  apply ByteArray.ext; simp
theorem limb_step {n : Nat} (hn : n < 1000000000) (full : Bool) (S : List UInt8) (hS : S.length ≤ 9) (d : Nat) (hd : d < 9) (hg : 0 < n ∨ full = true) (k : Nat) :
    limb_l0 (k + 1) (n : Int) full ⟨S.toArray⟩ ((9 - (d + 1) : Nat) : Int) = limb_l0 k ((n / 10 : Nat) : Int) full ⟨(UInt8.ofNat (48 + n % 10) :: S).toArray⟩ ((9 - d : Nat) : Int) := by
  have t1 : Int.tmod (n : Int) 10 = ((n % 10 : Nat) : Int) := by rw [Int.tmod_eq_emod_of_nonneg (by omega)]; omega
  have t2 : Int.tdiv (n : Int) 10 = ((n / 10 : Nat) : Int) := by rw [Int.tdiv_eq_ediv_of_nonneg (by omega)]; omega
  have w1 : wrap64 (((n % 10 : Nat) : Int) + 1) = ((n % 10 + 1 : Nat) : Int) := by rw [w64 (by omega) (by omega)]; omega
  have w2 : wrap64 ((n / 10 : Nat) : Int) = ((n / 10 : Nat) : Int) := w64 (by omega) (by omega)
  have w3 : wrap64 (((9 - (d + 1) : Nat) : Int) + 1) = ((9 - d : Nat) : Int) := by rw [w64 (by omega) (by omega)]; omega
  have e1 := dgs_at (n % 10) (by omega)
  have sz : ((⟨#[UInt8.ofNat (48 + n % 10)]⟩ : ByteArray).size + (⟨S.toArray⟩ : ByteArray).size : Nat) ≤ 9223372036854775807 := by
    show 1 + S.toArray.size ≤ _
    rw [List.size_toArray]; omega
  simp only [limb_l0]
  rw [t1, t2, w1, w2, w3, Int.toNat_natCast, Int.toNat_natCast, e1]
  by_cases hp : (n : Int) > 0
  · rw [if_pos (by omega), if_pos hp, if_pos (by omega), if_pos (by omega), if_pos (by omega), if_pos sz, ba_cons]
  · rw [if_pos (by omega), if_neg hp, if_pos (by rcases hg with h | h; omega; exact h), if_pos (by omega), if_pos (by omega), if_pos (by omega), if_pos sz, ba_cons]
theorem ev_limb_full : ∀ (d : Nat), d ≤ 9 → ∀ (n : Nat) (S : List UInt8), n < 1000000000 → S.length + d ≤ 9 → Ev (fun k => limb_l0 k (n : Int) true ⟨S.toArray⟩ ((9 - d : Nat) : Int)) ⟨(padk d n ++ S).toArray⟩ := by
  intro d
  induction d with
  | zero =>
    intro _ n S hn hS
    refine Ev.step (f := fun _ => some _) (fun k => ?_) (Ev.now _)
    simp only [limb_l0]
    rw [if_neg (by omega)]; rfl
  | succ d ih =>
    intro hd n S hn hS
    have e : padk (d + 1) n ++ S = padk d (n / 10) ++ (UInt8.ofNat (48 + n % 10) :: S) := by rw [padk, List.append_assoc]; rfl
    rw [e]
    exact Ev.step (fun k => limb_step hn true S (by omega) d (by omega) (.inr rfl) k) (ih (by omega) _ _ (by omega) (by simp; omega))
theorem ev_limb_top : ∀ (d : Nat), d ≤ 9 → ∀ (n : Nat) (S : List UInt8), n < 10 ^ d → n < 1000000000 → S.length + d ≤ 9 → Ev (fun k => limb_l0 k (n : Int) false ⟨S.toArray⟩ ((9 - d : Nat) : Int)) ⟨((if n = 0 then [] else Lib.decDigits n) ++ S).toArray⟩ := by
  intro d
  induction d with
  | zero =>
    intro _ n S hn _ hS
    have : n = 0 := by simpa using hn
    subst this
    refine Ev.step (f := fun _ => some _) (fun k => ?_) (Ev.now _)
    simp only [limb_l0]
    rw [if_neg (by omega)]; rfl
  | succ d ih =>
    intro hd n S hn hn9 hS
    by_cases h0 : n = 0
    · subst h0
      refine Ev.step (f := fun _ => some _) (fun k => ?_) (Ev.now _)
      simp only [limb_l0]
      rw [if_pos (by omega), if_neg (by omega), if_neg (by simp)]; rfl
    · have e : (if n = 0 then [] else Lib.decDigits n) ++ S = (if n / 10 = 0 then [] else Lib.decDigits (n / 10)) ++ (UInt8.ofNat (48 + n % 10) :: S) := by
        rw [if_neg h0]
        by_cases h1 : n / 10 = 0
        · rw [if_pos h1, dec_small (by omega), show n % 10 = n by omega]; rfl
        · rw [if_neg h1, dec_big (by omega), List.append_assoc]; rfl
      rw [e]
      exact Ev.step (fun k => limb_step hn9 false S (by omega) d (by omega) (.inl (by omega)) k) (ih (by omega) _ _ (by rw [Nat.pow_succ] at hn; omega) (by omega) (by simp; omega))
theorem ev_refText (a : List Int) (ha : okN a = true) (h0 : a ≠ []) : ∀ (d i : Nat), i + d = a.length → ∀ S : List UInt8, S.length ≤ 9 * i →
    Ev (fun k => text_l0 k a ⟨S.toArray⟩ (i : Int)) ⟨((if i = a.length then [] else lowT (fun j => rd a j) (a.length - 1) (a.length - 1 - i)) ++ S).toArray⟩ := by
  have hok := okN_iff.1 ha
  have hl := hok.1
  have hpos := List.length_pos_iff.2 h0
  intro d
  induction d with
  | zero =>
    intro i hi S hS
    refine Ev.step (f := fun _ => some _) (fun k => ?_) (Ev.now _)
    simp only [text_l0]
    rw [if_neg (by omega), if_pos (by omega)]; rfl
  | succ d ih =>
    intro i hi S hS
    have hr := hok.2.1.rd (i : Int)
    obtain ⟨n, hn⟩ : ∃ n : Nat, rd a i = n := ⟨(rd a i).toNat, by omega⟩
    rw [if_neg (by omega)]
    have wl : wrap64 ((a.length : Int) - 1) = ((a.length - 1 : Nat) : Int) := by rw [w64 (by omega) (by omega)]; omega
    have wi : wrap64 ((i : Int) + 1) = ((i + 1 : Nat) : Int) := by rw [w64 (by omega) (by omega)]; omega
    by_cases hlast : i + 1 = a.length
    · have hne := nrm_last hok.2 (i := (i : Int)) (by omega) (by omega)
      have e1 := ev_limb_top 9 (Nat.le_refl _) n [] (by omega) (by omega) (by simp)
      rw [if_neg (by omega), List.append_nil] at e1
      have hlen : (Lib.decDigits n).length ≤ 9 := (pad_dec 8 n (by omega)).1
      have nx := ih (i + 1) (by omega) (Lib.decDigits n ++ S) (by rw [List.length_append]; omega)
      rw [if_pos hlast, List.nil_append] at nx
      have eT : lowT (fun j => rd a j) (a.length - 1) (a.length - 1 - i) = Lib.decDigits n := by
        rw [show a.length - 1 - i = 0 by omega, lowT, show ((a.length - 1 : Nat) : Int) = (i : Int) by omega, hn, itoa_nat (by omega)]; rfl
      rw [eT]
      refine Ev.step (f := fun k => (limb_l0 k (n : Int) false ⟨#[]⟩ 0).bind fun t => if (t.size + (⟨S.toArray⟩ : ByteArray).size : Nat) ≤ 9223372036854775807 then text_l0 k a (t ++ ⟨S.toArray⟩) ((i + 1 : Nat) : Int) else none) (fun k => ?_) (e1.bind ?_)
      · simp only [text_l0]
        rw [if_pos (by omega), if_pos (by omega), wl, wi, hn, show decide ((i : Int) < ((a.length - 1 : Nat) : Int)) = false by simp; omega]
      · refine Ev.congr (fun k => ?_) nx
        rw [ba_app, if_pos]
        show (Lib.decDigits n).toArray.size + S.toArray.size ≤ _
        rw [List.size_toArray, List.size_toArray]; omega
    · have e1 := ev_limb_full 9 (Nat.le_refl _) n [] (by omega) (by simp)
      rw [List.append_nil] at e1
      have nx := ih (i + 1) (by omega) (padk 9 n ++ S) (by rw [List.length_append, padk_len]; omega)
      rw [if_neg hlast] at nx
      have eT : lowT (fun j => rd a j) (a.length - 1) (a.length - 1 - i) ++ S = lowT (fun j => rd a j) (a.length - 1) (a.length - 1 - (i + 1)) ++ (padk 9 n ++ S) := by
        rw [show a.length - 1 - i = (a.length - 1 - (i + 1)) + 1 by omega, lowT, show a.length - 1 - (a.length - 1 - (i + 1) + 1) = i by omega, hn, pad9_k (by omega) (by omega), List.append_assoc]; rfl
      rw [eT]
      refine Ev.step (f := fun k => (limb_l0 k (n : Int) true ⟨#[]⟩ 0).bind fun t => if (t.size + (⟨S.toArray⟩ : ByteArray).size : Nat) ≤ 9223372036854775807 then text_l0 k a (t ++ ⟨S.toArray⟩) ((i + 1 : Nat) : Int) else none) (fun k => ?_) (e1.bind ?_)
      · simp only [text_l0]
        rw [if_pos (by omega), if_pos (by omega), wl, wi, hn, show decide ((i : Int) < ((a.length - 1 : Nat) : Int)) = true by simp; omega]
      · refine Ev.congr (fun k => ?_) nx
        rw [ba_app, if_pos]
        show (padk 9 n).toArray.size + S.toArray.size ≤ _
        rw [List.size_toArray, List.size_toArray, padk_len]; omega
theorem ev_refText_all (a : List Int) (ha : okN a = true) (h0 : a ≠ []) : Ev (fun k => text_l0 k a ⟨#[]⟩ 0) ⟨(textL a).toArray⟩ := by
  have := ev_refText a ha h0 a.length 0 (by omega) [] (by simp)
  have hpos := List.length_pos_iff.2 h0
  rw [if_neg (by omega), List.append_nil, Nat.sub_zero] at this
  unfold textL; rw [if_neg h0]; exact this
end Go.Proofs.YtalklhbdpmggjaaDoor.Px
namespace Go.Proofs.YtalklhbdpmggjaaDoor.Pw
open Go Wd Px Mat
set_option linter.unusedVariables false
set_option linter.unusedSimpArgs false
set_option maxRecDepth 100000
attribute [local irreducible] Int.tmod Int.tdiv
set_option maxHeartbeats 8000000
theorem ref_limb.snd (k : Nat) (n : Int) (full : Bool) (r : ByteArray) (h : limb_l0 k n full ⟨#[]⟩ 0 = some r) : Sound Tryd.prog 90 [I n, B full] (Sg r) := by
  have hD : ({ data := #[48, 49, 50, 51, 52, 53, 54, 55, 56, 57] } : ByteArray) = Dgs := rfl
  have hz : (Dgs.size : Int) = 10 := rfl
  refine Sound.of_WP tok Tryd.func90 rfl rfl ?_; simp only [Tryd.f90, args0, List.map, List.length_cons, List.length_nil, Nat.reduceAdd, Nat.reduceSub, List.replicate, List.cons_append, List.nil_append]
  repeat' (first | refine WP_seq ?_ | refine WP_block ?_ | refine regA 64 fun KQ hKQ => ?_ | refine regD 64 fun KQ hKQ => ?_ | refine opsA rfl rfl rfl rfl (nrmA ?_) | refine opsW_skip rfl (nrmA ?_) | (refine opsW_nil ⟨by kernel_rfl, hKQ _ _ _ (nrmB ?_)⟩; clear hKQ KQ) | (refine opsW_nil (hKQ _ _ _ (nrmB ?_)); clear hKQ KQ) | refine condT rfl ?_ | refine condF rfl ?_ | refine WP_skip (nrmB ?_) | refine WP_ret (nrmC ?_) | refine WP_exit (nrmC ?_))
  refine WP_loop (WPL_weaken ?_ (WPL_rec (α := Int × ByteArray × Int) (fun k x => limb_l0 k x.1 full x.2.1 x.2.2) r (fun x => (mkE 29 [(0, .p (I x.1)), (1, .p (B full)), (5, .p (Sg x.2.1)), (6, .p (I x.2.2))], [], 0)) ?_ k (_, _, _) h))
  · exact wkA
  · clear h; try clear k
    intro k ⟨x1, x2, x3⟩ K ih h
    simp only [mkE, List.replicate, List.foldl, List.set]
    cases k with
    | zero => simp [limb_l0] at h
    | succ k =>
      simp only [limb_l0] at h
      repeat' (first | (simp only [if_true, if_false, Bool.false_eq_true, Bool.not_true, Bool.not_false, reduceIte] at h) | (split at h) | (rw [Option.bind_eq_some_iff] at h; obtain ⟨_, hbb, h⟩ := h; try (simp only [Option.some.injEq] at hbb; subst hbb)) | (cases h; done) | (simp only [Option.some.injEq, Prod.mk.injEq] at h; subst h) | (simp only [Option.some.injEq, Prod.mk.injEq] at h; (have h1 := h.1; have h2 := h.2; clear h; subst h1; first | subst h2 | (obtain ⟨h3, h4⟩ := h2; subst h3; subst h4))))
      all_goals
        repeat' (first | refine WP_seq ?_ | refine WP_block ?_ | refine regA 64 fun KQ hKQ => ?_ | refine regD 64 fun KQ hKQ => ?_ | refine opsA rfl rfl rfl rfl (nrmA ?_) | refine opsW_skip rfl (nrmA ?_) | (refine opsW_nil ⟨by kernel_rfl, hKQ _ _ _ (nrmB ?_)⟩; clear hKQ KQ) | (refine opsW_nil (hKQ _ _ _ (nrmB ?_)); clear hKQ KQ) | refine condT rfl ?_ | refine condF rfl ?_ | refine WP_skip (nrmB ?_) | refine WP_ret (nrmC ?_) | refine WP_exit (nrmC ?_))
        first
        | exact endA
        | (refine ih _ _ _ _ (_, _, _) (Nat.lt_succ_self _) h ?_; exact wkA)
theorem ref_Text.snd (k : Nat) (a : List Int) (r : ByteArray) (ha : okN a = true) (h0 : ¬ (a.length : Int) = 0) (h : text_l0 k a ⟨#[]⟩ 0 = some r) : Sound Tryd.prog 38 [N a] (.tup [Sg r, I 0]) := by
  have c1 := ref_Valid.c a
  rw [ha] at c1
  refine Sound.of_WP tok Tryd.func38 rfl rfl ?_; simp only [Tryd.f38, args0, List.map, List.length_cons, List.length_nil, Nat.reduceAdd, Nat.reduceSub, List.replicate, List.cons_append, List.nil_append]
  repeat' (first | refine WP_seq ?_ | refine WP_block ?_ | refine regA 64 fun KQ hKQ => ?_ | refine regD 64 fun KQ hKQ => ?_ | refine opsA rfl rfl rfl rfl (nrmA ?_) | refine callA rfl rfl rfl (nrmA ?_) (hs := c1) | refine opsW_skip rfl (nrmA ?_) | (refine opsW_nil ⟨by kernel_rfl, hKQ _ _ _ (nrmB ?_)⟩; clear hKQ KQ) | (refine opsW_nil (hKQ _ _ _ (nrmB ?_)); clear hKQ KQ) | refine condT rfl ?_ | refine condF rfl ?_ | refine WP_skip (nrmB ?_) | refine WP_ret (nrmC ?_) | refine WP_exit (nrmC ?_))
  refine WP_loop (WPL_weaken ?_ (WPL_rec (α := ByteArray × Int) (fun k x => text_l0 k a x.1 x.2) r (fun x => (mkE 31 [(0, .p (N a)), (4, .p (Sg x.1)), (5, .p (I x.2))], [], 0)) ?_ k (_, _) h))
  · exact wkA
  · clear h; try clear k
    intro k ⟨x1, x2⟩ K ih h
    simp only [mkE, List.replicate, List.foldl, List.set]
    cases k with
    | zero => simp [text_l0] at h
    | succ k =>
      simp only [text_l0] at h
      by_cases hc : x2 < wrap64 ((a.length : Int) - 1)
      · simp only [hc, decide_true] at h
        repeat' (first | (simp only [if_true, if_false, Bool.false_eq_true, Bool.not_true, Bool.not_false, reduceIte] at h) | (split at h) | (rw [Option.bind_eq_some_iff] at h; obtain ⟨_, hbb, h⟩ := h; try (simp only [Option.some.injEq] at hbb; subst hbb)) | (cases h; done) | (simp only [Option.some.injEq, Prod.mk.injEq] at h; subst h) | (simp only [Option.some.injEq, Prod.mk.injEq] at h; (have h1 := h.1; have h2 := h.2; clear h; subst h1; first | subst h2 | (obtain ⟨h3, h4⟩ := h2; subst h3; subst h4))))
        all_goals
          repeat' (first | refine WP_seq ?_ | refine WP_block ?_ | refine regA 64 fun KQ hKQ => ?_ | refine regD 64 fun KQ hKQ => ?_ | refine opsA rfl rfl rfl rfl (nrmA ?_) | refine callA rfl rfl rfl (nrmA ?_) (hs := ref_limb.snd _ _ _ _ (by first | assumption | omega | rfl | (simp; omega))) | refine opsW_skip rfl (nrmA ?_) | (refine opsW_nil ⟨by kernel_rfl, hKQ _ _ _ (nrmB ?_)⟩; clear hKQ KQ) | (refine opsW_nil (hKQ _ _ _ (nrmB ?_)); clear hKQ KQ) | refine condT rfl ?_ | refine condF rfl ?_ | refine WP_skip (nrmB ?_) | refine WP_ret (nrmC ?_) | refine WP_exit (nrmC ?_))
          first
          | exact endA
          | (refine ih _ _ _ _ (_, _) (Nat.lt_succ_self _) h ?_; exact wkA)
      · simp only [hc, decide_false] at h
        repeat' (first | (simp only [if_true, if_false, Bool.false_eq_true, Bool.not_true, Bool.not_false, reduceIte] at h) | (split at h) | (rw [Option.bind_eq_some_iff] at h; obtain ⟨_, hbb, h⟩ := h; try (simp only [Option.some.injEq] at hbb; subst hbb)) | (cases h; done) | (simp only [Option.some.injEq, Prod.mk.injEq] at h; subst h) | (simp only [Option.some.injEq, Prod.mk.injEq] at h; (have h1 := h.1; have h2 := h.2; clear h; subst h1; first | subst h2 | (obtain ⟨h3, h4⟩ := h2; subst h3; subst h4))))
        all_goals
          repeat' (first | refine WP_seq ?_ | refine WP_block ?_ | refine regA 64 fun KQ hKQ => ?_ | refine regD 64 fun KQ hKQ => ?_ | refine opsA rfl rfl rfl rfl (nrmA ?_) | refine callA rfl rfl rfl (nrmA ?_) (hs := ref_limb.snd _ _ _ _ (by first | assumption | omega | rfl | (simp; omega))) | refine opsW_skip rfl (nrmA ?_) | (refine opsW_nil ⟨by kernel_rfl, hKQ _ _ _ (nrmB ?_)⟩; clear hKQ KQ) | (refine opsW_nil (hKQ _ _ _ (nrmB ?_)); clear hKQ KQ) | refine condT rfl ?_ | refine condF rfl ?_ | refine WP_skip (nrmB ?_) | refine WP_ret (nrmC ?_) | refine WP_exit (nrmC ?_))
          first
          | exact endA
          | (refine ih _ _ _ _ (_, _) (Nat.lt_succ_self _) h ?_; exact wkA)
end Go.Proofs.YtalklhbdpmggjaaDoor.Pw
