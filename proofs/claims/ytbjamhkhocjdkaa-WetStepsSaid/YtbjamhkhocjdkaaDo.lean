/- One step on the way to the rows: contracts of the program's functions, each for every argument that its statement names. -/
import Derived.Test.YtbjamhkhocjdkaaDn
import Derived.Outline
import Derived.Deep.RegionHeld3
namespace Go.Proofs.Ytbjamhkhocjdkaa.Px
open Go.RowKit Go.Proofs.YtbjamhkhocjdkaaW.PrintWords Go.Proofs.YtbjamhkhocjdkaaW.PrintLast Go.Proofs.YtbjamhkhocjdkaaW.PrintMore Go.Proofs.Ytbjamhkhocjdkaa.Mat
set_option linter.unusedVariables false
set_option linter.unusedSimpArgs false
theorem same_l0 (a b : List Int) (hl : a.length = b.length) (hs : Sml a) : ∀ (m i : Nat), i + m = a.length → papermillref02_Same.l0 (m + 1) a b (i : Int) = some (decide (a.drop i = b.drop i)) := by
  unfold Sml at hs
  intro m
  induction m with
  | zero =>
    intro i hi
    unfold papermillref02_Same.l0
    rw [if_neg (by omega), List.drop_eq_nil_of_le (by omega), List.drop_eq_nil_of_le (by omega)]
    simp
  | succ m ih =>
    intro i hi
    unfold papermillref02_Same.l0
    rw [if_pos (by omega), if_pos (by omega), if_pos (by omega), rd_lt Z20, rd_lt Z20]
    have e1 : a.drop i = a[i]'(by omega) :: a.drop (i + 1) := List.drop_eq_getElem_cons (by omega)
    have e2 : b.drop i = b[i]'(by omega) :: b.drop (i + 1) := List.drop_eq_getElem_cons (by omega)
    simp only [Int.toNat_natCast]
    rw [e1, e2]
    by_cases h : a[i]'(by omega) = b[i]'(by omega)
    · rw [if_pos h, w64 (by omega) (by omega)]
      have := ih (i + 1) (by omega)
      rw [show ((i : Int) + 1) = ((i + 1 : Nat) : Int) by omega, this, h]
      simp only [List.cons.injEq, true_and]
    · rw [if_neg h]
      simp only [List.cons.injEq, h, false_and, decide_false]
theorem limbs_l0 (a b : List Int) (hl : a.length = b.length) (hs : Sml a) : ∀ (m i : Nat), i + m = a.length → papermillref03_limbs.l0 (m + 1) a b (i : Int) = some (decide (a.drop i = b.drop i)) := by
  unfold Sml at hs
  intro m
  induction m with
  | zero =>
    intro i hi
    unfold papermillref03_limbs.l0
    rw [if_neg (by omega), List.drop_eq_nil_of_le (by omega), List.drop_eq_nil_of_le (by omega)]
    simp
  | succ m ih =>
    intro i hi
    unfold papermillref03_limbs.l0
    rw [if_pos (by omega), if_pos (by omega), if_pos (by omega), rd_lt Z20, rd_lt Z20]
    have e1 : a.drop i = a[i]'(by omega) :: a.drop (i + 1) := List.drop_eq_getElem_cons (by omega)
    have e2 : b.drop i = b[i]'(by omega) :: b.drop (i + 1) := List.drop_eq_getElem_cons (by omega)
    simp only [Int.toNat_natCast]
    rw [e1, e2]
    by_cases h : a[i]'(by omega) = b[i]'(by omega)
    · rw [if_pos h, w64 (by omega) (by omega)]
      have := ih (i + 1) (by omega)
      rw [show ((i : Int) + 1) = ((i + 1 : Nat) : Int) by omega, this, h]
      simp only [List.cons.injEq, true_and]
    · rw [if_neg h]
      simp only [List.cons.injEq, h, false_and, decide_false]
theorem sem_Same2 {w : World} {v v' : Value} {a b : List Int} (h : Sl w v a) (h' : Sl w v' b) : Calls Try.prog 34 #[v, v'] w fun e w' => e = .returned (.bool (decide (a = b))) ∧ Drawn0 w w' := by
  have hs := h.sml
  obtain ⟨A, c, rfl, hc, hr⟩ := h
  obtain ⟨A', c', rfl, hc', hr'⟩ := h'
  refine papermillref02_Same.calls (a.length + 1) A c a A' c' b _ w hr hc hr' hc' ?_
  unfold papermillref02_Same.f
  by_cases hl : a.length = b.length
  · rw [if_pos (by omega)]
    have := same_l0 a b hl hs a.length 0 (by omega)
    simpa using this
  · rw [if_neg (by omega)]
    have : ¬ a = b := fun e => hl (by rw [e])
    simp [this]
theorem sem_limbs {w : World} {v v' : Value} {a b : List Int} (h : Sl w v a) (h' : Sl w v' b) : Calls Try.prog 43 #[v, v'] w fun e w' => e = .returned (.bool (decide (a = b))) ∧ Drawn0 w w' := by
  have hs := h.sml
  obtain ⟨A, c, rfl, hc, hr⟩ := h
  obtain ⟨A', c', rfl, hc', hr'⟩ := h'
  refine papermillref03_limbs.calls (a.length + 1) A c a A' c' b _ w hr hc hr' hc' ?_
  unfold papermillref03_limbs.f
  by_cases hl : a.length = b.length
  · rw [if_pos (by omega)]
    have := limbs_l0 a b hl hs a.length 0 (by omega)
    simpa using this
  · rw [if_neg (by omega)]
    have : ¬ a = b := fun e => hl (by rw [e])
    simp [this]
set_option maxHeartbeats 1000000 in
theorem sem_Reduce (neg : Bool) {A1 A2 : Option Addr} {c1 c2 : Nat} {p q : List Int} {w : World} {B : Nat} (hB : B ≤ w.heap.size) (h1 : Fr B w (.slice A1 p.length c1) p) (h2 : Fr B w (.slice A2 q.length c2) q) (hp : okN p = true) (hq : okN q = true) (hq0 : q ≠ []) :
    Calls Try.prog 46 #[.bool neg, .slice A1 p.length c1, .slice A2 q.length c2] w (GiveV B w (redS neg p q)) := by
  obtain ⟨hg1, hg2, hg3⟩ := gcd_facts hp hq hq0
  have e1 : gcdS p q = (dg (gcdI (val p) (val q)), 0) := by unfold gcdS; rw [if_pos ⟨hp, hq⟩]
  have e2 : divS p (dg (gcdI (val p) (val q))) = (dg (val p / gcdI (val p) (val q)), dg (val p % gcdI (val p) (val q)), 0) := by unfold divS; rw [if_pos ⟨hp, hg1⟩, if_neg hg2, hg3]
  have e3 : divS q (dg (gcdI (val p) (val q))) = (dg (val q / gcdI (val p) (val q)), dg (val q % gcdI (val p) (val q)), 0) := by unfold divS; rw [if_pos ⟨hq, hg1⟩, if_neg hg2, hg3]
  unfold redS
  obtain ⟨g, hg⟩ : ∃ g, dg (gcdI (val p) (val q)) = g := ⟨_, rfl⟩
  obtain ⟨up, hup⟩ : ∃ u, dg (val p / gcdI (val p) (val q)) = u := ⟨_, rfl⟩
  obtain ⟨dn, hdn⟩ : ∃ u, dg (val q / gcdI (val p) (val q)) = u := ⟨_, rfl⟩
  obtain ⟨m1, hm1⟩ : ∃ u, dg (val p % gcdI (val p) (val q)) = u := ⟨_, rfl⟩
  obtain ⟨m2, hm2⟩ : ∃ u, dg (val q % gcdI (val p) (val q)) = u := ⟨_, rfl⟩
  rw [hg] at e1 e2 e3
  rw [hup] at e2 ⊢
  rw [hdn] at e3 ⊢
  rw [hm1] at e2
  rw [hm2] at e3
  have E1 := Aside0.mk e1
  have E2 := Aside0.mk e2
  have E3 := Aside0.mk e3
  have HE := Aside0.mk ((Env.nil B w).cons h2 |>.cons h1)
  have HB := Aside0.mk (Below.refl w.heap.size w)
  clear hg1 hg2 hg3 e1 e2 e3 hg hup hdn hm1 hm2 h1 h2 hp hq hq0
  cases neg
  all_goals
    go_enter Try.func46, Try.ntmps46
    go_wp2_with (first | (go_at_call 42; refine (sem_ref_Gcd (a := p) (b := q) ?_ ?_).mono ?_; exact Fr.sl (B := B) Xf; exact Fr.sl (B := B) Xf; rw [E1.out]; rintro e w1 ⟨v1, rfl, hs, hb⟩; obtain ⟨Ag, cg, rfl, hs1⟩ := (hs B).open; have n_ := Aside0.mk (Env.cons (Env.below Xe hb) (hs1)); have nb_ := Aside0.mk (below_step (w := w) Xb hb); have hz1 := hb.size; (try simp at hz1); clear HE HB; have HE := n_; have HB := nb_; clear n_ nb_; have HR := Aside0.mk (Vr.below (g := w.heap.size) Z5 hb); obtain ⟨hc_HR, hf_HR, hl_HR⟩ := Vr.q3 HR.out; clear hb) | (have q2_ := hz2; clear q2_; go_at_call 55; refine (sem_ref_DivMod (a := q) (b := g) ?_ ?_).mono ?_; exact Fr.sl (B := B) Xf; exact Fr.sl (B := B) Xf; rw [E3.out]; rintro e w3 ⟨vd, vy, rfl, hs, hs', hb⟩; obtain ⟨Ad, cd, rfl, hs2⟩ := (hs B).open; have n_ := Aside0.mk (Env.cons (Env.below Xe hb) (hs2)); have nb_ := Aside0.mk (below_step (w := w) Xb hb); have hz3 := hb.size; (try simp at hz3); clear HE HB; have HE := n_; have HB := nb_; clear n_ nb_; replace HR := Aside0.mk (Vr.below (g := w.heap.size) Z5 hb); (try clear hc_HR hf_HR hl_HR); obtain ⟨hc_HR, hf_HR, hl_HR⟩ := Vr.q3 HR.out; clear hb) | (go_at_call 55; refine (sem_ref_DivMod (a := p) (b := g) ?_ ?_).mono ?_; exact Fr.sl (B := B) Xf; exact Fr.sl (B := B) Xf; rw [E2.out]; rintro e w2 ⟨vu, vx, rfl, hs, hs', hb⟩; obtain ⟨Au, cu, rfl, hs2⟩ := (hs B).open; have n_ := Aside0.mk (Env.cons (Env.below Xe hb) (hs2)); have nb_ := Aside0.mk (below_step (w := w) Xb hb); have hz2 := hb.size; (try simp at hz2); clear HE HB; have HE := n_; have HB := nb_; clear n_ nb_; replace HR := Aside0.mk (Vr.below (g := w.heap.size) Z5 hb); (try clear hc_HR hf_HR hl_HR); obtain ⟨hc_HR, hf_HR, hl_HR⟩ := Vr.q3 HR.out; clear hb))
    all_goals
      refine bodyPost_ret (results_single rfl (vals_vr Xv rfl Try.underlying27 rfl Z6 .nil)) rfl ?_
      exact ⟨Au, cu, Ad, cd, (by simp), Xf, Xf, Xb⟩
theorem rMake_a {p q : Int} (h : ¬ (inR p = true ∧ inR q = true)) {w : World} {B : Nat} (hB : B ≤ w.heap.size) : Calls Try.prog 27 #[.int .i64 p, .int .i64 q] w (GiveQ B w zR 1) := by
  have HE := Aside0.mk (Env.nil B w)
  have HB := Aside0.mk (Below.refl w.heap.size w)
  have h' : p < -1125899906842624 ∨ 1125899906842624 < p ∨ q < -1125899906842624 ∨ 1125899906842624 < q := by
    simp [inR] at h
    omega
  clear h
  by_cases h1 : p < -1125899906842624
  · go_enter Try.func27, Try.ntmps27
    go_wp2
    all_goals first
      | (refine bodyPost_ret (results_list (rs := [.cell 4 27, .tmp 5]) rfl (by simp) (vals_vr Xv rfl Try.underlying27 rfl Z6 (.tmp .nil))) rfl ?_; exact ⟨_, _, _, _, rfl, Xf, Xf, Xb⟩)
      | (exfalso; omega)
  by_cases h2 : 1125899906842624 < p
  · go_enter Try.func27, Try.ntmps27
    go_wp2
    all_goals first
      | (refine bodyPost_ret (results_list (rs := [.cell 4 27, .tmp 5]) rfl (by simp) (vals_vr Xv rfl Try.underlying27 rfl Z6 (.tmp .nil))) rfl ?_; exact ⟨_, _, _, _, rfl, Xf, Xf, Xb⟩)
      | (exfalso; omega)
  by_cases h3 : q < -1125899906842624
  · go_enter Try.func27, Try.ntmps27
    go_wp2
    all_goals first
      | (refine bodyPost_ret (results_list (rs := [.cell 4 27, .tmp 5]) rfl (by simp) (vals_vr Xv rfl Try.underlying27 rfl Z6 (.tmp .nil))) rfl ?_; exact ⟨_, _, _, _, rfl, Xf, Xf, Xb⟩)
      | (exfalso; omega)
  by_cases h4 : 1125899906842624 < q
  · go_enter Try.func27, Try.ntmps27
    go_wp2
    all_goals first
      | (refine bodyPost_ret (results_list (rs := [.cell 4 27, .tmp 5]) rfl (by simp) (vals_vr Xv rfl Try.underlying27 rfl Z6 (.tmp .nil))) rfl ?_; exact ⟨_, _, _, _, rfl, Xf, Xf, Xb⟩)
      | (exfalso; omega)
  exfalso
  omega
theorem rMake_b {p : Int} (h : inR p = true) {w : World} {B : Nat} (hB : B ≤ w.heap.size) : Calls Try.prog 27 #[.int .i64 p, .int .i64 0] w (GiveQ B w zR 16) := by
  have HE := Aside0.mk (Env.nil B w)
  have HB := Aside0.mk (Below.refl w.heap.size w)
  have h1 : -1125899906842624 ≤ p ∧ p ≤ 1125899906842624 := by simpa [inR] using h
  clear h
  · go_enter Try.func27, Try.ntmps27
    go_wp2
    all_goals first
      | (refine bodyPost_ret (results_list (rs := [.cell 4 27, .tmp 5]) rfl (by simp) (vals_vr Xv rfl Try.underlying27 rfl Z6 (.tmp .nil))) rfl ?_; exact ⟨_, _, _, _, rfl, Xf, Xf, Xb⟩)
      | (exfalso; omega)
set_option maxHeartbeats 1000000 in
theorem rMake_c {p q : Int} (hp : inR p = true) (hq : inR q = true) (h0 : ¬ q = 0) {r : Rt} (hr : redS (!(decide (p < 0) == decide (q < 0))) (dg (absI p)) (dg (absI q)) = r) {w : World} {B : Nat} (hB : B ≤ w.heap.size) : Calls Try.prog 27 #[.int .i64 p, .int .i64 q] w (GiveQ B w r 0) := by
  have HE := Aside0.mk (Env.nil B w)
  have HB := Aside0.mk (Below.refl w.heap.size w)
  have h1 : -1125899906842624 ≤ p ∧ p ≤ 1125899906842624 := by simpa [inR] using hp
  have h2 : -1125899906842624 ≤ q ∧ q ≤ 1125899906842624 := by simpa [inR] using hq
  have HN := Aside0.mk (And.intro (absI_ok hp).1 (And.intro (absI_ok hq).1 ((absI_ok hq).2 h0)))
  have k1 : ofS (absI p) = (dg (absI p), 0) := by unfold ofS; rw [if_neg (by unfold absI; split <;> omega)]
  have k2 : ofS (absI q) = (dg (absI q), 0) := by unfold ofS; rw [if_neg (by unfold absI; split <;> omega)]
  have b1 : absI p ≤ 1125899906842624 := by unfold absI; split <;> omega
  have b2 : absI q ≤ 1125899906842624 := by unfold absI; split <;> omega
  have M1 : (if -p ≤ p then p else -p) = absI p := by unfold absI; split <;> split <;> omega
  have M2 : (if p < -p then -p else p) = absI p := by unfold absI; split <;> split <;> omega
  have M3 : max p (-p) = absI p := by unfold absI; split <;> omega
  have L1 : (if -q ≤ q then q else -q) = absI q := by unfold absI; split <;> split <;> omega
  have L2 : (if q < -q then -q else q) = absI q := by unfold absI; split <;> split <;> omega
  have L3 : max q (-q) = absI q := by unfold absI; split <;> omega
  obtain ⟨m1, hm1⟩ : ∃ m, absI p = m := ⟨_, rfl⟩
  obtain ⟨m2, hm2⟩ : ∃ m, absI q = m := ⟨_, rfl⟩
  rw [hm1] at k1 b1 M1 M2 M3 hr HN
  rw [hm2] at k2 b2 L1 L2 L3 hr HN
  have K1 := Aside0.mk k1
  have K2 := Aside0.mk k2
  have HR0 := Aside0.mk hr
  clear k1 k2 hr hp hq hm1 hm2
  go_enter Try.func27, Try.ntmps27
  go_wp2_with (first | (have q1_ := hz1; clear q1_; go_at_call 47; refine (sem_ref_Of m2 (by omega)).mono ?_; rw [K2.out]; rintro e w2 ⟨v2, rfl, hs, hb⟩; obtain ⟨A2, c2, rfl, hs1⟩ := (hs B).open; have n_ := Aside0.mk (Env.cons (Env.below Xe hb) (hs1)); have nb_ := Aside0.mk (below_step (w := w) Xb hb); have hz2 := hb.size; (try simp at hz2); clear HE HB; have HE := n_; have HB := nb_; clear n_ nb_; replace HR := Aside0.mk (Vr.below (g := w.heap.size) Z5 hb); (try clear hc_HR hf_HR hl_HR); obtain ⟨hc_HR, hf_HR, hl_HR⟩ := Vr.q3 HR.out; clear hb) | (go_at_call 47; refine (sem_ref_Of m1 (by omega)).mono ?_; rw [K1.out]; rintro e w1 ⟨v1, rfl, hs, hb⟩; obtain ⟨A1, c1, rfl, hs1⟩ := (hs B).open; have n_ := Aside0.mk (Env.cons (Env.below Xe hb) (hs1)); have nb_ := Aside0.mk (below_step (w := w) Xb hb); have hz1 := hb.size; (try simp at hz1); clear HE HB; have HE := n_; have HB := nb_; clear n_ nb_; have HR := Aside0.mk (Vr.below (g := w.heap.size) Z5 hb); obtain ⟨hc_HR, hf_HR, hl_HR⟩ := Vr.q3 HR.out; clear hb) | (go_at_call 46; refine (sem_Reduce (B := B) _ (p := dg m1) (q := dg m2) (A1 := A1) (c1 := c1) (A2 := A2) (c2 := c2) Z10 ?_ ?_ HN.out.1 HN.out.2.1 HN.out.2.2).mono ?_; exact Xf; exact Xf; rw [HR0.out]; rintro e w3 ⟨A3, c3, A4, c4, rfl, hs1, hs2, hb⟩; have n_ := Aside0.mk (Env.cons (Env.cons (Env.below Xe hb) (hs1)) (hs2)); have nb_ := Aside0.mk (below_step (w := w) Xb hb); have hz3 := hb.size; (try simp at hz3); clear HE HB; have HE := n_; have HB := nb_; clear n_ nb_; replace HR := Aside0.mk (Vr.below (g := w.heap.size) Z5 hb); (try clear hc_HR hf_HR hl_HR); obtain ⟨hc_HR, hf_HR, hl_HR⟩ := Vr.q3 HR.out; clear hb))
  all_goals
    refine bodyPost_ret (results_list (rs := [.cell 4 27, .tmp 5]) rfl (by simp) (vals_vr Xv rfl Try.underlying27 rfl Z6 (.tmp .nil))) rfl ?_
    exact ⟨_, _, _, _, rfl, Xf, Xf, Xb⟩
theorem q_rMake {p q : Int} {r : Rt} {er : Int} (h : makeS p q = (r, er)) {w : World} {B : Nat} (hB : B ≤ w.heap.size) : Calls Try.prog 27 #[.int .i64 p, .int .i64 q] w (GiveQ B w r er) := by
  unfold makeS at h
  by_cases hv : inR p = true ∧ inR q = true
  · rw [if_pos hv] at h
    by_cases h0 : q = 0
    · rw [if_pos h0] at h
      injection h with h1 h2
      subst h1 h2 h0
      exact rMake_b hv.1 hB
    · rw [if_neg h0] at h
      injection h with h1 h2
      subst h2
      exact rMake_c hv.1 hv.2 h0 h1 hB
  · rw [if_neg hv] at h
    injection h with h1 h2
    subst h1 h2
    exact rMake_a hv hB
set_option maxHeartbeats 400000 in
theorem q_rOf {n : Int} {r : Rt} {er : Int} (h : makeS n 1 = (r, er)) {w : World} {B : Nat} (hB : B ≤ w.heap.size) : Calls Try.prog 33 #[.int .i64 n] w (GiveQ B w r er) := by
  have HE := Aside0.mk (Env.nil B w)
  have HB := Aside0.mk (Below.refl w.heap.size w)
  have HM := Aside0.mk h
  clear h
  go_enter Try.func33, Try.ntmps33
  go_wp2_with (first | (go_at_call 27; refine (q_rMake (B := B) (r := r) (er := er) HM.out Z10).mono ?_; rintro e w1 ⟨A1, c1, A2, c2, rfl, hs1, hs2, hb⟩; have n_ := Aside0.mk (Env.cons (Env.cons (Env.below Xe hb) (hs1)) (hs2)); have nb_ := Aside0.mk (below_step (w := w) Xb hb); have hz1 := hb.size; (try simp at hz1); clear HE HB; have HE := n_; have HB := nb_; clear n_ nb_; have HR := Aside0.mk (Vr.below (g := w.heap.size) Z5 hb); obtain ⟨hc_HR, hf_HR, hl_HR⟩ := Vr.q3 HR.out; clear hb))
  all_goals
    refine bodyPost_ret (results_list (rs := [.cell 2 27, .tmp 3]) rfl (by simp) (vals_vr Xv rfl Try.underlying27 rfl Z6 (.tmp .nil))) rfl ?_
    exact ⟨_, _, _, _, rfl, Xf, Xf, Xb⟩
theorem Sl.of_block {w : World} {g t : Nat} {a : Int} (h : Vr w g #[.int .i64 a] t) : Sl w (.slice (some ⟨g, 0, none⟩) 1 1) [a] := by
  refine ⟨some ⟨g, 0, none⟩, 1, rfl, Nat.le_refl _, Kd.C_of_reads (enc := Value.int .i64) (d := (0 : Int)) ⟨rfl, by simp, fun _ => ⟨_, rfl, fun j hj => ?_⟩⟩⟩
  have e : j = 0 := by simp at hj; omega
  subst e
  exact h.cell 0
set_option maxHeartbeats 400000 in
theorem rValid_a (x : Rt) {v : Value} {w : World} {B : Nat} (h : RaF B w v x) (hx : okN x.p = false) : Calls Try.prog 23 #[v] w fun e w' => e = .returned (.bool (rvB x)) ∧ Below w.heap.size w w' := by
  obtain ⟨A1, c1, A2, c2, rfl, h1, h2⟩ := h
  obtain ⟨neg, p, q⟩ := x
  simp only at hx h1 h2 ⊢
  have HE := Aside0.mk (((Env.nil B w).cons h2).cons h1)
  have HB := Aside0.mk (Below.refl w.heap.size w)
  clear h1 h2
  cases neg
  all_goals
    go_enter Try.func23, Try.ntmps23
    go_wp2_with (first | (go_at_call_of 41 (Value.slice A1 p.length c1); refine (sem_ref_Valid (a := p) ?_).mono ?_; exact Fr.sl (B := B) Xf; rintro e w1 ⟨rfl, hd⟩; obtain ⟨m1, rfl⟩ := hd.out; clear hd) | (go_at_call_of 41 (Value.slice A2 q.length c2); refine (sem_ref_Valid (a := q) ?_).mono ?_; exact Fr.sl (B := B) Xf; rintro e w2 ⟨rfl, hd⟩; obtain ⟨m2, rfl⟩ := hd.out; clear hd))
    all_goals
      go_ret
      exact ⟨by simp [rvB, *], Xb⟩
set_option maxHeartbeats 400000 in
theorem rValid_b (x : Rt) {v : Value} {w : World} {B : Nat} (h : RaF B w v x) (hx : okN x.p = true) (hy : okN x.q = false) : Calls Try.prog 23 #[v] w fun e w' => e = .returned (.bool (rvB x)) ∧ Below w.heap.size w w' := by
  obtain ⟨A1, c1, A2, c2, rfl, h1, h2⟩ := h
  obtain ⟨neg, p, q⟩ := x
  simp only at hx hy h1 h2 ⊢
  have HE := Aside0.mk (((Env.nil B w).cons h2).cons h1)
  have HB := Aside0.mk (Below.refl w.heap.size w)
  clear h1 h2
  cases neg
  all_goals
    go_enter Try.func23, Try.ntmps23
    go_wp2_with (first | (go_at_call_of 41 (Value.slice A1 p.length c1); refine (sem_ref_Valid (a := p) ?_).mono ?_; exact Fr.sl (B := B) Xf; rintro e w1 ⟨rfl, hd⟩; obtain ⟨m1, rfl⟩ := hd.out; clear hd) | (go_at_call_of 41 (Value.slice A2 q.length c2); refine (sem_ref_Valid (a := q) ?_).mono ?_; exact Fr.sl (B := B) Xf; rintro e w2 ⟨rfl, hd⟩; obtain ⟨m2, rfl⟩ := hd.out; clear hd))
    all_goals
      go_ret
      exact ⟨by simp [rvB, *], Xb⟩
set_option maxHeartbeats 400000 in
theorem rValid_c (x : Rt) {v : Value} {w : World} {B : Nat} (h : RaF B w v x) (hx : okN x.p = true) (hy : okN x.q = true) (h0 : x.q.length = 0) : Calls Try.prog 23 #[v] w fun e w' => e = .returned (.bool (rvB x)) ∧ Below w.heap.size w w' := by
  obtain ⟨A1, c1, A2, c2, rfl, h1, h2⟩ := h
  obtain ⟨neg, p, q⟩ := x
  have h0 : q = [] := List.eq_nil_of_length_eq_zero h0
  subst h0
  simp only at hx hy h1 h2 ⊢
  have HE := Aside0.mk (((Env.nil B w).cons h2).cons h1)
  have HB := Aside0.mk (Below.refl w.heap.size w)
  clear h1 h2
  cases neg
  all_goals
    go_enter Try.func23, Try.ntmps23
    go_wp2_with (first | (go_at_call_of 41 (Value.slice A1 p.length c1); refine (sem_ref_Valid (a := p) ?_).mono ?_; exact Fr.sl (B := B) Xf; rintro e w1 ⟨rfl, hd⟩; obtain ⟨m1, rfl⟩ := hd.out; clear hd) | (go_at_call_of 41 (Value.slice A2 0 c2); refine (sem_ref_Valid (a := []) ?_).mono ?_; exact Fr.sl (B := B) Xf; rintro e w2 ⟨rfl, hd⟩; obtain ⟨m2, rfl⟩ := hd.out; clear hd))
    all_goals
      go_ret
      exact ⟨by simp [rvB, *], Xb⟩
set_option maxHeartbeats 400000 in
theorem rValid_d (x : Rt) {v : Value} {w : World} {B : Nat} (h : RaF B w v x) (hx : okN x.p = true) (hy : okN x.q = true) (h0 : x.q.length ≠ 0) (h3 : x.neg = true) (h4 : x.p.length = 0) : Calls Try.prog 23 #[v] w fun e w' => e = .returned (.bool (rvB x)) ∧ Below w.heap.size w w' := by
  obtain ⟨A1, c1, A2, c2, rfl, h1, h2⟩ := h
  obtain ⟨neg, p, q⟩ := x
  have h4 : p = [] := List.eq_nil_of_length_eq_zero h4
  subst h4
  simp only at hx hy h1 h2 h0 h3 ⊢
  subst h3
  have HE := Aside0.mk (((Env.nil B w).cons h2).cons h1)
  have HB := Aside0.mk (Below.refl w.heap.size w)
  have h0' : (q.length : Int) ≠ 0 := by omega
  have h0n : ¬ q = [] := by rintro rfl; exact h0 rfl
  have h0b : ((q.length : Int) == 0) = false := beq_false_of_ne h0'
  clear h1 h2
  go_enter Try.func23, Try.ntmps23
  go_wp2_with (first | (go_at_call_of 41 (Value.slice A1 0 c1); refine (sem_ref_Valid (a := []) ?_).mono ?_; exact Fr.sl (B := B) Xf; rintro e w1 ⟨rfl, hd⟩; obtain ⟨m1, rfl⟩ := hd.out; clear hd) | (go_at_call_of 41 (Value.slice A2 q.length c2); refine (sem_ref_Valid (a := q) ?_).mono ?_; exact Fr.sl (B := B) Xf; rintro e w2 ⟨rfl, hd⟩; obtain ⟨m2, rfl⟩ := hd.out; clear hd))
  all_goals
    go_ret
    exact ⟨by simp [rvB, *], Xb⟩
set_option maxHeartbeats 1000000 in
set_option maxRecDepth 100000 in
theorem rValid_e (neg : Bool) (p q g : List Int) {A1 A2 : Option Addr} {c1 c2 : Nat} {w : World} {B : Nat} (h1 : Fr B w (.slice A1 p.length c1) p) (h2 : Fr B w (.slice A2 q.length c2) q) (hx : okN p = true) (hy : okN q = true) (h0 : ¬ (q.length : Int) = 0) (h3 : (neg = false ∨ ¬ (p.length : Int) = 0)) (hG : gcdS p q = (g, 0)) :
    Calls Try.prog 23 #[.agg #[.bool neg, .slice A1 p.length c1, .slice A2 q.length c2]] w fun e w' => e = .returned (.bool (decide (g = [1]))) ∧ Below w.heap.size w w' := by
  have HE := Aside0.mk (((Env.nil B w).cons h2).cons h1)
  have HB := Aside0.mk (Below.refl w.heap.size w)
  have HG := Aside0.mk hG
  have h0' : ¬ q = [] := by rintro rfl; exact h0 rfl
  have hq0 : ((q.length : Int) == 0) = false := beq_false_of_ne h0
  clear h1 h2 hG
  by_cases hp : (p.length : Int) = 0
  · have hn : neg = false := h3.resolve_right (fun h => h hp)
    subst hn
    have hp' : p = [] := List.eq_nil_of_length_eq_zero (by omega)
    subst hp'
    clear h3 hp
    go_enter Try.func23, Try.ntmps23
    go_wp2_with (first | (go_at_call_of 41 (Value.slice A1 0 c1); refine (sem_ref_Valid (a := []) ?_).mono ?_; exact Fr.sl (B := B) Xf; rintro e w1 ⟨rfl, hd⟩; obtain ⟨m1, rfl⟩ := hd.out; clear hd) | (go_at_call_of 41 (Value.slice A2 q.length c2); refine (sem_ref_Valid (a := q) ?_).mono ?_; exact Fr.sl (B := B) Xf; rintro e w2 ⟨rfl, hd⟩; obtain ⟨m2, rfl⟩ := hd.out; clear hd) | (go_at_call 42; refine (sem_ref_Gcd (a := []) (b := q) ?_ ?_).mono ?_; exact Fr.sl (B := B) Xf; exact Fr.sl (B := B) Xf; rw [HG.out]; rintro e w3 ⟨v3, rfl, hs, hb⟩; obtain ⟨Ag, cg, rfl, hs3⟩ := (hs B).open; have n_ := Aside0.mk (Env.cons (Env.below Xe hb) (hs3)); have nb_ := Aside0.mk (below_step (w := w) Xb hb); have hz3 := hb.size; (try simp at hz3); clear HE HB; have HE := n_; have HB := nb_; clear n_ nb_; have HX := Aside0.mk (Vr.below (g := w.heap.size) Z5 hb); obtain ⟨hc_HX, hf_HX, hl_HX⟩ := Vr.q3 HX.out; clear hb) | (go_at_call 43; refine (sem_limbs (a := g) (b := [1]) ?_ ?_).mono ?_; exact Fr.sl (B := B) Xf; exact Sl.of_block (g := w3.heap.size) Xv; rintro e w4 ⟨rfl, hd⟩; obtain ⟨m4, rfl⟩ := hd.out; clear hd))
    all_goals
      go_ret
      exact ⟨by simp, Xb⟩
  · have hp' : ¬ p = [] := by rintro rfl; exact hp rfl
    have hp1 : ((p.length : Int) == 0) = false := beq_false_of_ne hp
    clear h3
    cases neg
    · go_enter Try.func23, Try.ntmps23
      go_wp2_with (first | (go_at_call_of 41 (Value.slice A1 p.length c1); refine (sem_ref_Valid (a := p) ?_).mono ?_; exact Fr.sl (B := B) Xf; rintro e w1 ⟨rfl, hd⟩; obtain ⟨m1, rfl⟩ := hd.out; clear hd) | (go_at_call_of 41 (Value.slice A2 q.length c2); refine (sem_ref_Valid (a := q) ?_).mono ?_; exact Fr.sl (B := B) Xf; rintro e w2 ⟨rfl, hd⟩; obtain ⟨m2, rfl⟩ := hd.out; clear hd) | (go_at_call 42; refine (sem_ref_Gcd (a := p) (b := q) ?_ ?_).mono ?_; exact Fr.sl (B := B) Xf; exact Fr.sl (B := B) Xf; rw [HG.out]; rintro e w3 ⟨v3, rfl, hs, hb⟩; obtain ⟨Ag, cg, rfl, hs3⟩ := (hs B).open; have n_ := Aside0.mk (Env.cons (Env.below Xe hb) (hs3)); have nb_ := Aside0.mk (below_step (w := w) Xb hb); have hz3 := hb.size; (try simp at hz3); clear HE HB; have HE := n_; have HB := nb_; clear n_ nb_; have HX := Aside0.mk (Vr.below (g := w.heap.size) Z5 hb); obtain ⟨hc_HX, hf_HX, hl_HX⟩ := Vr.q3 HX.out; clear hb) | (go_at_call 43; refine (sem_limbs (a := g) (b := [1]) ?_ ?_).mono ?_; exact Fr.sl (B := B) Xf; exact Sl.of_block (g := w3.heap.size) Xv; rintro e w4 ⟨rfl, hd⟩; obtain ⟨m4, rfl⟩ := hd.out; clear hd))
      all_goals
        go_ret
        exact ⟨by simp, Xb⟩
    · go_enter Try.func23, Try.ntmps23
      go_wp2_with (first | (go_at_call_of 41 (Value.slice A1 p.length c1); refine (sem_ref_Valid (a := p) ?_).mono ?_; exact Fr.sl (B := B) Xf; rintro e w1 ⟨rfl, hd⟩; obtain ⟨m1, rfl⟩ := hd.out; clear hd) | (go_at_call_of 41 (Value.slice A2 q.length c2); refine (sem_ref_Valid (a := q) ?_).mono ?_; exact Fr.sl (B := B) Xf; rintro e w2 ⟨rfl, hd⟩; obtain ⟨m2, rfl⟩ := hd.out; clear hd) | (go_at_call 42; refine (sem_ref_Gcd (a := p) (b := q) ?_ ?_).mono ?_; exact Fr.sl (B := B) Xf; exact Fr.sl (B := B) Xf; rw [HG.out]; rintro e w3 ⟨v3, rfl, hs, hb⟩; obtain ⟨Ag, cg, rfl, hs3⟩ := (hs B).open; have n_ := Aside0.mk (Env.cons (Env.below Xe hb) (hs3)); have nb_ := Aside0.mk (below_step (w := w) Xb hb); have hz3 := hb.size; (try simp at hz3); clear HE HB; have HE := n_; have HB := nb_; clear n_ nb_; have HX := Aside0.mk (Vr.below (g := w.heap.size) Z5 hb); obtain ⟨hc_HX, hf_HX, hl_HX⟩ := Vr.q3 HX.out; clear hb) | (go_at_call 43; refine (sem_limbs (a := g) (b := [1]) ?_ ?_).mono ?_; exact Fr.sl (B := B) Xf; exact Sl.of_block (g := w3.heap.size) Xv; rintro e w4 ⟨rfl, hd⟩; obtain ⟨m4, rfl⟩ := hd.out; clear hd))
      all_goals
        go_ret
        exact ⟨by simp, Xb⟩
theorem sem_rValid {x : Rt} {v : Value} {w : World} {B : Nat} (h : RaF B w v x) : Calls Try.prog 23 #[v] w fun e w' => e = .returned (.bool (rvB x)) ∧ Below w.heap.size w w' := by
  by_cases hx : okN x.p = true
  rotate_left
  · exact rValid_a x h (by simpa using hx)
  by_cases hy : okN x.q = true
  rotate_left
  · exact rValid_b x h hx (by simpa using hy)
  by_cases h0 : x.q.length = 0
  · exact rValid_c x h hx hy h0
  by_cases h3 : x.neg = true ∧ x.p.length = 0
  · exact rValid_d x h hx hy h0 h3.1 h3.2
  have hq0 : x.q ≠ [] := by intro e; rw [e] at h0; exact h0 rfl
  obtain ⟨g1, g2, g3⟩ := gcd_facts hx hy hq0
  have hG : gcdS x.p x.q = (dg (gcdI (val x.p) (val x.q)), 0) := by unfold gcdS; rw [if_pos ⟨hx, hy⟩]
  obtain ⟨A1, c1, A2, c2, rfl, h1, h2⟩ := h
  refine (rValid_e x.neg x.p x.q _ h1 h2 hx hy (by omega) ?_ hG).mono fun e w' h => ⟨?_, h.2⟩
  · by_cases hn : x.neg = true
    · exact .inr (fun h => h3 ⟨hn, by omega⟩)
    · exact .inl (by simpa using hn)
  · rw [h.1]
    have e1 : (dg (gcdI (val x.p) (val x.q)) = [1]) = (gcdI (val x.p) (val x.q) = 1) := propext (dg_one_iff (gcdI_nonneg _ _))
    have e2 : rvB x = decide (gcdI (val x.p) (val x.q) = 1) := by
      unfold rvB
      rw [hx, hy]
      have : (x.neg && decide (x.p.length = 0)) = false := by
        cases hn : x.neg
        · rfl
        · have : ¬ x.p.length = 0 := fun h => h3 ⟨hn, h⟩
          simp [this]
      rw [this]
      simp [hq0]
    rw [e2]
    simp only [e1]
end Go.Proofs.Ytbjamhkhocjdkaa.Px
