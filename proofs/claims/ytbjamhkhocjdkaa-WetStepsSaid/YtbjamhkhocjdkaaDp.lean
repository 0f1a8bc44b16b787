/- One step on the way to the rows: contracts of the program's functions, each for every argument that its statement names. -/
import Derived.Test.YtbjamhkhocjdkaaDo
import Derived.Outline
import Derived.Deep.RegionHeld3
namespace Go.Proofs.Ytbjamhkhocjdkaa.Px
open Go.RowKit Go.Proofs.YtbjamhkhocjdkaaW.PrintWords Go.Proofs.YtbjamhkhocjdkaaW.PrintLast Go.Proofs.YtbjamhkhocjdkaaW.PrintMore Go.Proofs.Ytbjamhkhocjdkaa.Mat
set_option linter.unusedVariables false
set_option linter.unusedSimpArgs false
set_option maxHeartbeats 2000000 in
theorem rMul_a {x y : Rt} {v v' : Value} {w : World} {B : Nat} {b1 b2 : Bool} (hv1 : rvB x = b1) (hv2 : rvB y = b2) (hb12 : (b1 && b2) = false) (hB : B ≤ w.heap.size) (h : RaF B w v x) (h' : RaF B w v' y) : Calls Try.prog 29 #[v, v'] w (GiveQ B w zR 3) := by
  obtain ⟨A1, c1, A2, c2, rfl, h1, h2⟩ := h
  obtain ⟨A3, c3, A4, c4, rfl, h3, h4⟩ := h'
  have HE := Aside0.mk (((((Env.nil B w).cons h4).cons h3).cons h2).cons h1)
  have HB := Aside0.mk (Below.refl w.heap.size w)
  have HV := Aside0.mk (And.intro hv1 hv2)
  clear h1 h2 h3 h4 hv1 hv2
  cases b1 <;> cases b2
  all_goals (try (simp at hb12; done))
  all_goals
    go_enter Try.func29, Try.ntmps29
    go_wp2_with (first | (have q1_ := hz1; clear q1_; go_at_call 23; refine (sem_rValid (B := B) (x := y) ?_).mono ?_; exact ⟨_, _, _, _, rfl, Xf, Xf⟩; rw [HV.out.2]; rintro e w2 ⟨rfl, hb⟩; have n_ := Aside0.mk (Env.below Xe hb); have nb_ := Aside0.mk (below_step (w := w) Xb hb); have hz2 := hb.size; (try simp at hz2); clear HE HB; have HE := n_; have HB := nb_; clear n_ nb_; replace HX := Aside0.mk (Vr.below (g := w.heap.size) Z5 hb); replace HY := Aside0.mk (Vr.below (g := w.heap.size + 1) Z5 hb); replace HR := Aside0.mk (Vr.below (g := w.heap.size + 1 + 1) Z5 hb); (try clear hc_HX hf_HX hl_HX); (try clear hc_HY hf_HY hl_HY); (try clear hc_HR hf_HR hl_HR); obtain ⟨hc_HX, hf_HX, hl_HX⟩ := Vr.q3 HX.out; obtain ⟨hc_HY, hf_HY, hl_HY⟩ := Vr.q3 HY.out; obtain ⟨hc_HR, hf_HR, hl_HR⟩ := Vr.q3 HR.out; clear hb) | (go_at_call 23; refine (sem_rValid (B := B) (x := x) ?_).mono ?_; exact ⟨_, _, _, _, rfl, Xf, Xf⟩; rw [HV.out.1]; rintro e w1 ⟨rfl, hb⟩; have n_ := Aside0.mk (Env.below Xe hb); have nb_ := Aside0.mk (below_step (w := w) Xb hb); have hz1 := hb.size; (try simp at hz1); clear HE HB; have HE := n_; have HB := nb_; clear n_ nb_; have HX := Aside0.mk (Vr.below (g := w.heap.size) Z5 hb); have HY := Aside0.mk (Vr.below (g := w.heap.size + 1) Z5 hb); have HR := Aside0.mk (Vr.below (g := w.heap.size + 1 + 1) Z5 hb); obtain ⟨hc_HX, hf_HX, hl_HX⟩ := Vr.q3 HX.out; obtain ⟨hc_HY, hf_HY, hl_HY⟩ := Vr.q3 HY.out; obtain ⟨hc_HR, hf_HR, hl_HR⟩ := Vr.q3 HR.out; clear hb))
    all_goals
      refine bodyPost_ret (results_list (rs := [.cell 4 27, .tmp 5]) rfl (by simp) (vals_vr Xv rfl Try.underlying27 rfl Z6 (.tmp .nil))) rfl ?_
      exact ⟨_, _, _, _, rfl, Xf, Xf, Xb⟩
set_option maxHeartbeats 2000000 in
theorem rMul_c {x y : Rt} {v v' : Value} {w : World} {B : Nat} (hv1 : rvB x = true) (hv2 : rvB y = true) {m1 m2 : List Int} {e1 e2 : Int} (hm1 : mulS x.p y.p = (m1, e1)) (hm2 : mulS x.q y.q = (m2, e2)) (he : ¬ e1 = 0 ∨ (e1 = 0 ∧ ¬ e2 = 0)) (hB : B ≤ w.heap.size) (h : RaF B w v x) (h' : RaF B w v' y) : Calls Try.prog 29 #[v, v'] w (GiveQ B w zR 2) := by
  obtain ⟨A1, c1, A2, c2, rfl, h1, h2⟩ := h
  obtain ⟨A3, c3, A4, c4, rfl, h3, h4⟩ := h'
  have HE := Aside0.mk (((((Env.nil B w).cons h4).cons h3).cons h2).cons h1)
  have HB := Aside0.mk (Below.refl w.heap.size w)
  have HV := Aside0.mk (And.intro hv1 hv2)
  clear h1 h2 h3 h4 hv1 hv2
  have HM := Aside0.mk (And.intro hm1 hm2)
  clear hm1 hm2
  rcases he with he | ⟨rfl, he⟩
  all_goals have he' := beq_false_of_ne he
  all_goals
    go_enter Try.func29, Try.ntmps29
    go_wp2_with (first | (have q1_ := hz1; clear q1_; go_at_call 23; refine (sem_rValid (B := B) (x := y) ?_).mono ?_; exact ⟨_, _, _, _, rfl, Xf, Xf⟩; rw [HV.out.2]; rintro e w2 ⟨rfl, hb⟩; have n_ := Aside0.mk (Env.below Xe hb); have nb_ := Aside0.mk (below_step (w := w) Xb hb); have hz2 := hb.size; (try simp at hz2); clear HE HB; have HE := n_; have HB := nb_; clear n_ nb_; replace HX := Aside0.mk (Vr.below (g := w.heap.size) Z5 hb); replace HY := Aside0.mk (Vr.below (g := w.heap.size + 1) Z5 hb); replace HR := Aside0.mk (Vr.below (g := w.heap.size + 1 + 1) Z5 hb); (try clear hc_HX hf_HX hl_HX); (try clear hc_HY hf_HY hl_HY); (try clear hc_HR hf_HR hl_HR); obtain ⟨hc_HX, hf_HX, hl_HX⟩ := Vr.q3 HX.out; obtain ⟨hc_HY, hf_HY, hl_HY⟩ := Vr.q3 HY.out; obtain ⟨hc_HR, hf_HR, hl_HR⟩ := Vr.q3 HR.out; clear hb) | (go_at_call 23; refine (sem_rValid (B := B) (x := x) ?_).mono ?_; exact ⟨_, _, _, _, rfl, Xf, Xf⟩; rw [HV.out.1]; rintro e w1 ⟨rfl, hb⟩; have n_ := Aside0.mk (Env.below Xe hb); have nb_ := Aside0.mk (below_step (w := w) Xb hb); have hz1 := hb.size; (try simp at hz1); clear HE HB; have HE := n_; have HB := nb_; clear n_ nb_; have HX := Aside0.mk (Vr.below (g := w.heap.size) Z5 hb); have HY := Aside0.mk (Vr.below (g := w.heap.size + 1) Z5 hb); have HR := Aside0.mk (Vr.below (g := w.heap.size + 1 + 1) Z5 hb); obtain ⟨hc_HX, hf_HX, hl_HX⟩ := Vr.q3 HX.out; obtain ⟨hc_HY, hf_HY, hl_HY⟩ := Vr.q3 HY.out; obtain ⟨hc_HR, hf_HR, hl_HR⟩ := Vr.q3 HR.out; clear hb) | (have q3_ := hz3; clear q3_; go_at_call 44; refine (sem_ref_Mul (a := x.q) (b := y.q) ?_ ?_).mono ?_; exact Fr.sl (B := B) Xf; exact Fr.sl (B := B) Xf; rw [HM.out.2]; rintro e w4 ⟨v0, rfl, hs, hb⟩; obtain ⟨MA2, mc2, rfl, hs1⟩ := (hs B).open; have n_ := Aside0.mk (Env.cons (Env.below Xe hb) (hs1)); have nb_ := Aside0.mk (below_step (w := w) Xb hb); have hz4 := hb.size; (try simp at hz4); clear HE HB; have HE := n_; have HB := nb_; clear n_ nb_; replace HX := Aside0.mk (Vr.below (g := w.heap.size) Z5 hb); replace HY := Aside0.mk (Vr.below (g := w.heap.size + 1) Z5 hb); replace HR := Aside0.mk (Vr.below (g := w.heap.size + 1 + 1) Z5 hb); (try clear hc_HX hf_HX hl_HX); (try clear hc_HY hf_HY hl_HY); (try clear hc_HR hf_HR hl_HR); obtain ⟨hc_HX, hf_HX, hl_HX⟩ := Vr.q3 HX.out; obtain ⟨hc_HY, hf_HY, hl_HY⟩ := Vr.q3 HY.out; obtain ⟨hc_HR, hf_HR, hl_HR⟩ := Vr.q3 HR.out; clear hb) | (go_at_call 44; refine (sem_ref_Mul (a := x.p) (b := y.p) ?_ ?_).mono ?_; exact Fr.sl (B := B) Xf; exact Fr.sl (B := B) Xf; rw [HM.out.1]; rintro e w3 ⟨v0, rfl, hs, hb⟩; obtain ⟨MA1, mc1, rfl, hs1⟩ := (hs B).open; have n_ := Aside0.mk (Env.cons (Env.below Xe hb) (hs1)); have nb_ := Aside0.mk (below_step (w := w) Xb hb); have hz3 := hb.size; (try simp at hz3); clear HE HB; have HE := n_; have HB := nb_; clear n_ nb_; replace HX := Aside0.mk (Vr.below (g := w.heap.size) Z5 hb); replace HY := Aside0.mk (Vr.below (g := w.heap.size + 1) Z5 hb); replace HR := Aside0.mk (Vr.below (g := w.heap.size + 1 + 1) Z5 hb); (try clear hc_HX hf_HX hl_HX); (try clear hc_HY hf_HY hl_HY); (try clear hc_HR hf_HR hl_HR); obtain ⟨hc_HX, hf_HX, hl_HX⟩ := Vr.q3 HX.out; obtain ⟨hc_HY, hf_HY, hl_HY⟩ := Vr.q3 HY.out; obtain ⟨hc_HR, hf_HR, hl_HR⟩ := Vr.q3 HR.out; clear hb))
    all_goals
      refine bodyPost_ret (results_list (rs := [.cell 4 27, .tmp 5]) rfl (by simp) (vals_vr Xv rfl Try.underlying27 rfl Z6 (.tmp .nil))) rfl ?_
      exact ⟨_, _, _, _, rfl, Xf, Xf, Xb⟩
set_option maxHeartbeats 2000000 in
theorem rMul_e {x y : Rt} {v v' : Value} {w : World} {B : Nat} {n : Bool} (hn : (!(x.neg == y.neg)) = n) (hv1 : rvB x = true) (hv2 : rvB y = true) {m1 m2 : List Int} (hm1 : mulS x.p y.p = (m1, 0)) (hm2 : mulS x.q y.q = (m2, 0)) (ho : okN m1 = true ∧ okN m2 = true ∧ m2 ≠ []) {r : Rt} (hr : redS n m1 m2 = r) (hB : B ≤ w.heap.size) (h : RaF B w v x) (h' : RaF B w v' y) : Calls Try.prog 29 #[v, v'] w (GiveQ B w r 0) := by
  obtain ⟨A1, c1, A2, c2, rfl, h1, h2⟩ := h
  obtain ⟨A3, c3, A4, c4, rfl, h3, h4⟩ := h'
  have HE := Aside0.mk (((((Env.nil B w).cons h4).cons h3).cons h2).cons h1)
  have HB := Aside0.mk (Below.refl w.heap.size w)
  have HV := Aside0.mk (And.intro hv1 hv2)
  clear h1 h2 h3 h4 hv1 hv2
  have HM := Aside0.mk (And.intro hm1 hm2)
  have HO := Aside0.mk ho
  have HRR := Aside0.mk hr
  clear hm1 hm2 ho hr
  cases hn1 : x.neg <;> cases hn2 : y.neg
  all_goals
    simp [hn1, hn2] at hn
    subst hn
  all_goals
    go_enter Try.func29, Try.ntmps29
    go_wp2_with (first | (have q1_ := hz1; clear q1_; go_at_call 23; refine (sem_rValid (B := B) (x := y) ?_).mono ?_; exact ⟨_, _, _, _, (by first | rfl | rw [hn1] | rw [hn2]), Xf, Xf⟩; rw [HV.out.2]; rintro e w2 ⟨rfl, hb⟩; have n_ := Aside0.mk (Env.below Xe hb); have nb_ := Aside0.mk (below_step (w := w) Xb hb); have hz2 := hb.size; (try simp at hz2); clear HE HB; have HE := n_; have HB := nb_; clear n_ nb_; replace HX := Aside0.mk (Vr.below (g := w.heap.size) Z5 hb); replace HY := Aside0.mk (Vr.below (g := w.heap.size + 1) Z5 hb); replace HR := Aside0.mk (Vr.below (g := w.heap.size + 1 + 1) Z5 hb); (try clear hc_HX hf_HX hl_HX); (try clear hc_HY hf_HY hl_HY); (try clear hc_HR hf_HR hl_HR); obtain ⟨hc_HX, hf_HX, hl_HX⟩ := Vr.q3 HX.out; obtain ⟨hc_HY, hf_HY, hl_HY⟩ := Vr.q3 HY.out; obtain ⟨hc_HR, hf_HR, hl_HR⟩ := Vr.q3 HR.out; clear hb) | (go_at_call 23; refine (sem_rValid (B := B) (x := x) ?_).mono ?_; exact ⟨_, _, _, _, (by first | rfl | rw [hn1] | rw [hn2]), Xf, Xf⟩; rw [HV.out.1]; rintro e w1 ⟨rfl, hb⟩; have n_ := Aside0.mk (Env.below Xe hb); have nb_ := Aside0.mk (below_step (w := w) Xb hb); have hz1 := hb.size; (try simp at hz1); clear HE HB; have HE := n_; have HB := nb_; clear n_ nb_; have HX := Aside0.mk (Vr.below (g := w.heap.size) Z5 hb); have HY := Aside0.mk (Vr.below (g := w.heap.size + 1) Z5 hb); have HR := Aside0.mk (Vr.below (g := w.heap.size + 1 + 1) Z5 hb); obtain ⟨hc_HX, hf_HX, hl_HX⟩ := Vr.q3 HX.out; obtain ⟨hc_HY, hf_HY, hl_HY⟩ := Vr.q3 HY.out; obtain ⟨hc_HR, hf_HR, hl_HR⟩ := Vr.q3 HR.out; clear hb) | (have q3_ := hz3; clear q3_; go_at_call 44; refine (sem_ref_Mul (a := x.q) (b := y.q) ?_ ?_).mono ?_; exact Fr.sl (B := B) Xf; exact Fr.sl (B := B) Xf; rw [HM.out.2]; rintro e w4 ⟨v0, rfl, hs, hb⟩; obtain ⟨MA2, mc2, rfl, hs1⟩ := (hs B).open; have n_ := Aside0.mk (Env.cons (Env.below Xe hb) (hs1)); have nb_ := Aside0.mk (below_step (w := w) Xb hb); have hz4 := hb.size; (try simp at hz4); clear HE HB; have HE := n_; have HB := nb_; clear n_ nb_; replace HX := Aside0.mk (Vr.below (g := w.heap.size) Z5 hb); replace HY := Aside0.mk (Vr.below (g := w.heap.size + 1) Z5 hb); replace HR := Aside0.mk (Vr.below (g := w.heap.size + 1 + 1) Z5 hb); (try clear hc_HX hf_HX hl_HX); (try clear hc_HY hf_HY hl_HY); (try clear hc_HR hf_HR hl_HR); obtain ⟨hc_HX, hf_HX, hl_HX⟩ := Vr.q3 HX.out; obtain ⟨hc_HY, hf_HY, hl_HY⟩ := Vr.q3 HY.out; obtain ⟨hc_HR, hf_HR, hl_HR⟩ := Vr.q3 HR.out; clear hb) | (go_at_call 44; refine (sem_ref_Mul (a := x.p) (b := y.p) ?_ ?_).mono ?_; exact Fr.sl (B := B) Xf; exact Fr.sl (B := B) Xf; rw [HM.out.1]; rintro e w3 ⟨v0, rfl, hs, hb⟩; obtain ⟨MA1, mc1, rfl, hs1⟩ := (hs B).open; have n_ := Aside0.mk (Env.cons (Env.below Xe hb) (hs1)); have nb_ := Aside0.mk (below_step (w := w) Xb hb); have hz3 := hb.size; (try simp at hz3); clear HE HB; have HE := n_; have HB := nb_; clear n_ nb_; replace HX := Aside0.mk (Vr.below (g := w.heap.size) Z5 hb); replace HY := Aside0.mk (Vr.below (g := w.heap.size + 1) Z5 hb); replace HR := Aside0.mk (Vr.below (g := w.heap.size + 1 + 1) Z5 hb); (try clear hc_HX hf_HX hl_HX); (try clear hc_HY hf_HY hl_HY); (try clear hc_HR hf_HR hl_HR); obtain ⟨hc_HX, hf_HX, hl_HX⟩ := Vr.q3 HX.out; obtain ⟨hc_HY, hf_HY, hl_HY⟩ := Vr.q3 HY.out; obtain ⟨hc_HR, hf_HR, hl_HR⟩ := Vr.q3 HR.out; clear hb) | (go_at_call 46; refine (sem_Reduce (B := B) _ (p := m1) (q := m2) (A1 := MA1) (c1 := mc1) (A2 := MA2) (c2 := mc2) Z10 ?_ ?_ HO.out.1 HO.out.2.1 HO.out.2.2).mono ?_; exact Xf; exact Xf; rw [HRR.out]; rintro e w5 ⟨A7, c7, A8, c8, rfl, hs1, hs2, hb⟩; have n_ := Aside0.mk (Env.cons (Env.cons (Env.below Xe hb) (hs1)) (hs2)); have nb_ := Aside0.mk (below_step (w := w) Xb hb); have hz5 := hb.size; (try simp at hz5); clear HE HB; have HE := n_; have HB := nb_; clear n_ nb_; replace HX := Aside0.mk (Vr.below (g := w.heap.size) Z5 hb); replace HY := Aside0.mk (Vr.below (g := w.heap.size + 1) Z5 hb); replace HR := Aside0.mk (Vr.below (g := w.heap.size + 1 + 1) Z5 hb); (try clear hc_HX hf_HX hl_HX); (try clear hc_HY hf_HY hl_HY); (try clear hc_HR hf_HR hl_HR); obtain ⟨hc_HX, hf_HX, hl_HX⟩ := Vr.q3 HX.out; obtain ⟨hc_HY, hf_HY, hl_HY⟩ := Vr.q3 HY.out; obtain ⟨hc_HR, hf_HR, hl_HR⟩ := Vr.q3 HR.out; clear hb))
    all_goals
      refine bodyPost_ret (results_list (rs := [.cell 4 27, .tmp 5]) rfl (by simp) (vals_vr Xv rfl Try.underlying27 rfl Z6 (.tmp .nil))) rfl ?_
      exact ⟨_, _, _, _, rfl, Xf, Xf, Xb⟩
theorem q_rMul {x y r : Rt} {er : Int} {v v' : Value} {w : World} {B : Nat} (hz : mulR x y = (r, er)) (hB : B ≤ w.heap.size) (h : RaF B w v x) (h' : RaF B w v' y) : Calls Try.prog 29 #[v, v'] w (GiveQ B w r er) := by
  unfold mulR at hz
  by_cases hv1 : rvB x = true
  rotate_left
  · rw [if_neg (fun h => hv1 h.1)] at hz
    injection hz with z1 z2
    subst z1 z2
    exact rMul_a (b1 := false) (by simpa using hv1) rfl rfl hB h h'
  by_cases hv2 : rvB y = true
  rotate_left
  · rw [if_neg (fun h => hv2 h.2)] at hz
    injection hz with z1 z2
    subst z1 z2
    exact rMul_a (b2 := false) hv1 (by simpa using hv2) rfl hB h h'
  rw [if_pos ⟨hv1, hv2⟩] at hz
  obtain ⟨x1, x2, x3, x4, x5⟩ := rvB_iff.1 hv1
  obtain ⟨y1, y2, y3, y4, y5⟩ := rvB_iff.1 hv2
  have n1 := (okN_iff.1 x1).nonneg
  have n2 := (okN_iff.1 y1).nonneg
  have q1 := val_pos (okN_iff.1 x2).2 x3
  have q2 := val_pos (okN_iff.1 y2).2 y3
  have m1 := mulS_ok x1 y1
  have m2 := mulS_ok x2 y2
  rcases fitS_cases (val x.p * val y.p) with e1 | e1
  · rw [e1] at m1
    rw [m1, if_pos rfl] at hz
    rcases fitS_cases (val x.q * val y.q) with e2 | e2
    · rw [e2] at m2
      rw [m2, if_pos rfl] at hz
      injection hz with z1 z2
      subst z2
      have f1 := fit_facts (Int.mul_nonneg n1 n2) e1
      have f2 := fit_facts (Int.mul_nonneg (Int.le_of_lt q1) (Int.le_of_lt q2)) e2
      have ho : okN (dg (val x.p * val y.p)) = true ∧ okN (dg (val x.q * val y.q)) = true ∧ dg (val x.q * val y.q) ≠ [] := ⟨f1.1, f2.1, f2.2.2.1 (by have := Int.mul_pos q1 q2; omega)⟩
      exact rMul_e rfl hv1 hv2 m1 m2 ho z1 hB h h'
    · rw [e2] at m2
      rw [m2, if_neg (by decide)] at hz
      injection hz with z1 z2
      subst z1 z2
      exact rMul_c hv1 hv2 m1 m2 (.inr ⟨rfl, by decide⟩) hB h h'
  · rw [e1] at m1
    rw [m1, if_neg (by decide)] at hz
    injection hz with z1 z2
    subst z1 z2
    obtain ⟨m, e, hm⟩ : ∃ m e, mulS x.q y.q = (m, e) := ⟨_, _, rfl⟩
    exact rMul_c hv1 hv2 m1 hm (.inl (by decide)) hB h h'
theorem Rt.same {x y : Rt} : x = y ↔ x.neg = y.neg ∧ x.p = y.p ∧ x.q = y.q := by
  cases x; cases y; simp
set_option maxHeartbeats 400000 in
theorem sem_Same {x y : Rt} {v v' : Value} {w : World} {B : Nat} (b : Bool) (hb : b = true ↔ x = y) (h : RaF B w v x) (h' : RaF B w v' y) : Calls Try.prog 14 #[v, v'] w fun e w' => e = .returned (.bool b) ∧ Below w.heap.size w w' := by
  obtain ⟨A1, c1, A2, c2, rfl, h1, h2⟩ := h
  obtain ⟨A3, c3, A4, c4, rfl, h3, h4⟩ := h'
  rw [Rt.same] at hb
  have HE := Aside0.mk (((((Env.nil B w).cons h4).cons h3).cons h2).cons h1)
  have HB := Aside0.mk (Below.refl w.heap.size w)
  obtain ⟨bp, hp⟩ : ∃ z, decide (x.p = y.p) = z := ⟨_, rfl⟩
  obtain ⟨bq, hq⟩ : ∃ z, decide (x.q = y.q) = z := ⟨_, rfl⟩
  have HP := Aside0.mk hp
  have HQ := Aside0.mk hq
  have e1 : (x.p = y.p) ↔ bp = true := by rw [← hp]; simp
  have e2 : (x.q = y.q) ↔ bq = true := by rw [← hq]; simp
  rw [e1, e2] at hb
  obtain ⟨nx, hx⟩ : ∃ n, x.neg = n := ⟨_, rfl⟩
  obtain ⟨ny, hy⟩ : ∃ n, y.neg = n := ⟨_, rfl⟩
  rw [hx, hy] at hb ⊢
  clear h1 h2 h3 h4 hp hq e1 e2 hx hy
  have hb' : b = (decide (nx = ny) && (bp && bq)) := by
    cases b <;> cases nx <;> cases ny <;> cases bp <;> cases bq <;> simp_all
  subst hb'
  clear hb
  cases nx <;> cases ny <;> cases bp
  all_goals
    go_enter Try.func14, Try.ntmps14
    go_wp2_with (first | (go_at_call_of 34 (Value.slice A1 x.p.length c1); refine (sem_Same2 (a := x.p) (b := y.p) ?_ ?_).mono ?_; exact Fr.sl (B := B) Xf; exact Fr.sl (B := B) Xf; rw [HP.out]; rintro e w1 ⟨rfl, hd⟩; obtain ⟨m1, rfl⟩ := hd.out; clear hd) | (go_at_call_of 34 (Value.slice A2 x.q.length c2); refine (sem_Same2 (a := x.q) (b := y.q) ?_ ?_).mono ?_; exact Fr.sl (B := B) Xf; exact Fr.sl (B := B) Xf; rw [HQ.out]; rintro e w2 ⟨rfl, hd⟩; obtain ⟨m2, rfl⟩ := hd.out; clear hd))
    all_goals
      go_ret
      exact ⟨by simp, Xb⟩
def Q (a b : Int) : Rt := ⟨false, [a], [b]⟩
def lim (n : Int) : Prop := 0 < n ∧ n < 1000000000
theorem dg_small {n : Int} (h : lim n) : dg n = [n] := by
  rw [dg_pos h.1, Int.emod_eq_of_lt (by have := h.1; omega) h.2, Int.ediv_eq_zero_of_lt (by have := h.1; omega) h.2, dg_zero]
theorem val_one (n : Int) : val [n] = n := by simp [val]
theorem ok_small {n : Int} (h : lim n) : okN [n] = true := by
  rw [← dg_small h]
  exact okN_iff.2 (ok_dg (by have := h.1; omega) (by have := h.2; have : (1000000000 : Int) < pw 48 := by decide
                                                     omega))
theorem fit_small {n : Int} (h : lim n) : fitS n = ([n], 0) := by
  have := fit_val (ok_small h)
  rwa [val_one] at this
theorem rv_Q {a b : Int} (ha : lim a) (hb : lim b) (g : gcdI a b = 1) : rvB (Q a b) = true :=
  rvB_iff.2 ⟨ok_small ha, ok_small hb, by simp [Q], by simp [Q], by show gcdI (val [a]) (val [b]) = 1; rw [val_one, val_one]; exact g⟩
theorem red_Q {N M n m : Int} (hN : lim N) (hM : lim M) (hn : lim n) (hm : lim m) (g : gcdI n m = 1) (h : N * m = n * M) : redS false [N] [M] = Q n m := by
  have r := redS_ok false (ok_small hN) (ok_small hM) (by simp)
  refine canon r.1 (rv_Q hn hm g) ?_
  have r2 := r.2
  rw [val_one, val_one] at r2
  simp only [Bool.false_eq_true, if_false] at r2
  have e1 : dd (Q n m) = m := val_one m
  have e2 : nn (Q n m) = n := val_one n
  rw [e1, e2]
  have hM0 : M ≠ 0 := by have := hM.1; omega
  refine Int.eq_of_mul_eq_mul_right hM0 ?_
  grind
theorem mul_small {a c : Int} (ha : lim a) (hc : lim c) (h : lim (a * c)) : mulS [a] [c] = ([a * c], 0) := by rw [mulS_ok (ok_small ha) (ok_small hc), val_one, val_one, fit_small h]
theorem mul_Q {a b c d n m : Int} (ha : lim a) (hb : lim b) (hc : lim c) (hd : lim d) (g1 : gcdI a b = 1) (g2 : gcdI c d = 1) (h1 : lim (a * c)) (h2 : lim (b * d)) (hn : lim n) (hm : lim m) (g : gcdI n m = 1) (h : a * c * m = n * (b * d)) : mulR (Q a b) (Q c d) = (Q n m, 0) := by
  unfold mulR
  rw [if_pos ⟨rv_Q ha hb g1, rv_Q hc hd g2⟩]
  have e1 : mulS (Q a b).p (Q c d).p = ([a * c], 0) := mul_small ha hc h1
  have e2 : mulS (Q a b).q (Q c d).q = ([b * d], 0) := mul_small hb hd h2
  rw [e1, e2, if_pos rfl, if_pos rfl]
  show (redS false [a * c] [b * d], (0 : Int)) = _
  rw [red_Q h1 h2 hn hm g h]
theorem add_Q {a b c d n m : Int} (ha : lim a) (hb : lim b) (hc : lim c) (hd : lim d) (g1 : gcdI a b = 1) (g2 : gcdI c d = 1) (h1 : lim (a * d)) (h2 : lim (c * b)) (h3 : lim (b * d)) (h4 : lim (a * d + c * b)) (hn : lim n) (hm : lim m) (g : gcdI n m = 1) (h : (a * d + c * b) * m = n * (b * d)) : addR (Q a b) (Q c d) = (Q n m, 0) := by
  unfold addR
  rw [if_pos ⟨rv_Q ha hb g1, rv_Q hc hd g2⟩]
  have e1 : mulS (Q a b).p (Q c d).q = ([a * d], 0) := mul_small ha hd h1
  have e2 : mulS (Q c d).p (Q a b).q = ([c * b], 0) := mul_small hc hb h2
  have e3 : mulS (Q a b).q (Q c d).q = ([b * d], 0) := mul_small hb hd h3
  have e4 : plusS (Q a b).neg [a * d] (Q c d).neg [c * b] = (false, [a * d + c * b], 0) := by
    show plusS false [a * d] false [c * b] = _
    unfold plusS
    rw [if_pos rfl]
    have : addS [a * d] [c * b] = ([a * d + c * b], 0) := by unfold addS; rw [if_pos ⟨ok_small h1, ok_small h2⟩, val_one, val_one, fit_small h4]
    rw [this]
  rw [e1, e2, e3, e4, if_pos ⟨rfl, rfl, rfl, rfl⟩]
  show (redS false [a * d + c * b] [b * d], (0 : Int)) = _
  rw [red_Q h4 h3 hn hm g h]
theorem sub_Q {a b c d n m : Int} (ha : lim a) (hb : lim b) (hc : lim c) (hd : lim d) (g1 : gcdI a b = 1) (g2 : gcdI c d = 1) (h1 : lim (a * d)) (h2 : lim (c * b)) (h3 : lim (b * d)) (h4 : lim (a * d - c * b)) (hn : lim n) (hm : lim m) (g : gcdI n m = 1) (h : (a * d - c * b) * m = n * (b * d)) : subR (Q a b) (Q c d) = (Q n m, 0) := by
  unfold subR
  rw [if_pos ⟨rv_Q ha hb g1, rv_Q hc hd g2⟩]
  have hv := (negR_ok (rv_Q hc hd g2)).1
  have en : negR (Q c d) = ⟨true, [c], [d]⟩ := rfl
  rw [en] at hv ⊢
  unfold addR
  rw [if_pos ⟨rv_Q ha hb g1, hv⟩]
  have e1 : mulS (Q a b).p [d] = ([a * d], 0) := mul_small ha hd h1
  have e2 : mulS [c] (Q a b).q = ([c * b], 0) := mul_small hc hb h2
  have e3 : mulS (Q a b).q [d] = ([b * d], 0) := mul_small hb hd h3
  have e4 : plusS (Q a b).neg [a * d] true [c * b] = (false, [a * d - c * b], 0) := by
    show plusS false [a * d] true [c * b] = _
    unfold plusS
    have l4 := h4.1
    rw [if_neg (by decide), val_one, val_one, if_neg (by unfold cmpS; rw [if_neg (by omega)]; split <;> omega)]
    have : subS [a * d] [c * b] = ([a * d - c * b], 0) := by unfold subS; rw [if_pos ⟨ok_small h1, ok_small h2⟩, val_one, val_one, if_neg (by omega), dg_small h4]
    rw [this]
  simp only [e1, e2, e3, e4, and_self, if_true]
  rw [red_Q h4 h3 hn hm g h]
theorem make_Q {p q n m : Int} (hp : lim p) (hq : lim q) (hn : lim n) (hm : lim m) (g : gcdI n m = 1) (h : p * m = n * q) : makeS p q = (Q n m, 0) := by
  have i1 : inR p = true := inR_of (by have := hp.1; omega) (by have := hp.2; omega)
  have i2 : inR q = true := inR_of (by have := hq.1; omega) (by have := hq.2; omega)
  unfold makeS
  rw [if_pos ⟨i1, i2⟩, if_neg (by have := hq.1; omega)]
  have a1 : absI p = p := by unfold absI; rw [if_neg (by have := hp.1; omega)]
  have a2 : absI q = q := by unfold absI; rw [if_neg (by have := hq.1; omega)]
  have b1 : decide (p < 0) = false := by simp; have := hp.1; omega
  have b2 : decide (q < 0) = false := by simp; have := hq.1; omega
  rw [a1, a2, b1, b2, dg_small hp, dg_small hq]
  show (redS false [p] [q], (0 : Int)) = _
  rw [red_Q hp hq hn hm g h]
theorem add_0Q {c d : Int} (hc : lim c) (hd : lim d) (g2 : gcdI c d = 1) : addR ⟨false, [], [1]⟩ (Q c d) = (Q c d, 0) := by
  have h0 : rvB ⟨false, [], [1]⟩ = true := by
    refine rvB_iff.2 ⟨by decide, by decide, by decide, by simp, ?_⟩
    show gcdI (val []) (val [1]) = 1
    decide
  have l1 : lim 1 := by constructor <;> decide
  unfold addR
  rw [if_pos ⟨h0, rv_Q hc hd g2⟩]
  have e1 : mulS [] (Q c d).q = ([], 0) := by show mulS [] [d] = _; rw [mulS_ok (by decide) (ok_small hd), show val [] = 0 from rfl, Int.zero_mul]; exact fit_val (l := []) (by decide)
  have e2 : mulS (Q c d).p [1] = ([c], 0) := by show mulS [c] [1] = _; rw [mulS_ok (ok_small hc) (ok_small l1), val_one, val_one, Int.mul_one, fit_small hc]
  have e3 : mulS [1] (Q c d).q = ([d], 0) := by show mulS [1] [d] = _; rw [mulS_ok (ok_small l1) (ok_small hd), val_one, val_one, Int.one_mul, fit_small hd]
  have e4 : plusS false [] (Q c d).neg [c] = (false, [c], 0) := by
    show plusS false [] false [c] = _
    unfold plusS
    rw [if_pos rfl]
    have : addS [] [c] = ([c], 0) := by unfold addS; rw [if_pos ⟨by decide, ok_small hc⟩, val_one, show val [] = 0 from rfl, Int.zero_add, fit_small hc]
    rw [this]
  simp only [e1, e2, e3, e4, and_self, if_true]
  rw [red_Q hc hd hc hd g2 rfl]
theorem w_make (n : Int) (h : lim n) : makeS n 1 = (Q n 1, 0) := make_Q h ⟨by decide, by decide⟩ h ⟨by decide, by decide⟩ (by unfold gcdI; simp) rfl
theorem t_600 : makeS 600 1000 = (Q 3 5, 0) := make_Q ⟨by decide, by decide⟩ ⟨by decide, by decide⟩ ⟨by decide, by decide⟩ ⟨by decide, by decide⟩ (by decide) (by decide)
theorem t_500 : makeS 500 1000 = (Q 1 2, 0) := make_Q ⟨by decide, by decide⟩ ⟨by decide, by decide⟩ ⟨by decide, by decide⟩ ⟨by decide, by decide⟩ (by decide) (by decide)
theorem done_100 : doneR 900 600 500 (Q 100 1) = (Q 600 1, Q 200 1, Q 200 1) := by
  unfold doneR timesR
  simp only [w_make 900 ⟨by decide, by decide⟩, t_600, t_500, (add_Q (a := 900) (b := 1) (c := 100) (d := 1) (n := 1000) (m := 1) ⟨by decide, by decide⟩ ⟨by decide, by decide⟩ ⟨by decide, by decide⟩ ⟨by decide, by decide⟩ (by decide) (by decide) ⟨by decide, by decide⟩ ⟨by decide, by decide⟩ ⟨by decide, by decide⟩ ⟨by decide, by decide⟩ ⟨by decide, by decide⟩ ⟨by decide, by decide⟩ (by decide) (by decide)), (mul_Q (a := 1000) (b := 1) (c := 3) (d := 5) (n := 600) (m := 1) ⟨by decide, by decide⟩ ⟨by decide, by decide⟩ ⟨by decide, by decide⟩ ⟨by decide, by decide⟩ (by decide) (by decide) ⟨by decide, by decide⟩ ⟨by decide, by decide⟩ ⟨by decide, by decide⟩ ⟨by decide, by decide⟩ (by decide) (by decide)), (sub_Q (a := 1000) (b := 1) (c := 600) (d := 1) (n := 400) (m := 1) ⟨by decide, by decide⟩ ⟨by decide, by decide⟩ ⟨by decide, by decide⟩ ⟨by decide, by decide⟩ (by decide) (by decide) ⟨by decide, by decide⟩ ⟨by decide, by decide⟩ ⟨by decide, by decide⟩ ⟨by decide, by decide⟩ ⟨by decide, by decide⟩ ⟨by decide, by decide⟩ (by decide) (by decide)), (mul_Q (a := 400) (b := 1) (c := 1) (d := 2) (n := 200) (m := 1) ⟨by decide, by decide⟩ ⟨by decide, by decide⟩ ⟨by decide, by decide⟩ ⟨by decide, by decide⟩ (by decide) (by decide) ⟨by decide, by decide⟩ ⟨by decide, by decide⟩ ⟨by decide, by decide⟩ ⟨by decide, by decide⟩ (by decide) (by decide)), (sub_Q (a := 400) (b := 1) (c := 200) (d := 1) (n := 200) (m := 1) ⟨by decide, by decide⟩ ⟨by decide, by decide⟩ ⟨by decide, by decide⟩ ⟨by decide, by decide⟩ (by decide) (by decide) ⟨by decide, by decide⟩ ⟨by decide, by decide⟩ ⟨by decide, by decide⟩ ⟨by decide, by decide⟩ ⟨by decide, by decide⟩ ⟨by decide, by decide⟩ (by decide) (by decide))]
theorem done_225 : doneR 900 600 500 (Q 225 1) = (Q 675 1, Q 225 1, Q 225 1) := by
  unfold doneR timesR
  simp only [w_make 900 ⟨by decide, by decide⟩, t_600, t_500, (add_Q (a := 900) (b := 1) (c := 225) (d := 1) (n := 1125) (m := 1) ⟨by decide, by decide⟩ ⟨by decide, by decide⟩ ⟨by decide, by decide⟩ ⟨by decide, by decide⟩ (by decide) (by decide) ⟨by decide, by decide⟩ ⟨by decide, by decide⟩ ⟨by decide, by decide⟩ ⟨by decide, by decide⟩ ⟨by decide, by decide⟩ ⟨by decide, by decide⟩ (by decide) (by decide)), (mul_Q (a := 1125) (b := 1) (c := 3) (d := 5) (n := 675) (m := 1) ⟨by decide, by decide⟩ ⟨by decide, by decide⟩ ⟨by decide, by decide⟩ ⟨by decide, by decide⟩ (by decide) (by decide) ⟨by decide, by decide⟩ ⟨by decide, by decide⟩ ⟨by decide, by decide⟩ ⟨by decide, by decide⟩ (by decide) (by decide)), (sub_Q (a := 1125) (b := 1) (c := 675) (d := 1) (n := 450) (m := 1) ⟨by decide, by decide⟩ ⟨by decide, by decide⟩ ⟨by decide, by decide⟩ ⟨by decide, by decide⟩ (by decide) (by decide) ⟨by decide, by decide⟩ ⟨by decide, by decide⟩ ⟨by decide, by decide⟩ ⟨by decide, by decide⟩ ⟨by decide, by decide⟩ ⟨by decide, by decide⟩ (by decide) (by decide)), (mul_Q (a := 450) (b := 1) (c := 1) (d := 2) (n := 225) (m := 1) ⟨by decide, by decide⟩ ⟨by decide, by decide⟩ ⟨by decide, by decide⟩ ⟨by decide, by decide⟩ (by decide) (by decide) ⟨by decide, by decide⟩ ⟨by decide, by decide⟩ ⟨by decide, by decide⟩ ⟨by decide, by decide⟩ (by decide) (by decide)), (sub_Q (a := 450) (b := 1) (c := 225) (d := 1) (n := 225) (m := 1) ⟨by decide, by decide⟩ ⟨by decide, by decide⟩ ⟨by decide, by decide⟩ ⟨by decide, by decide⟩ (by decide) (by decide) ⟨by decide, by decide⟩ ⟨by decide, by decide⟩ ⟨by decide, by decide⟩ ⟨by decide, by decide⟩ ⟨by decide, by decide⟩ ⟨by decide, by decide⟩ (by decide) (by decide))]
theorem steady_end : timesR (makeS 900 1).1 ((1000 - 600) * 500) (1000000 - (1000 - 600) * 500) = Q 225 1 := by
  have e : makeS ((1000 - 600) * 500) (1000000 - (1000 - 600) * 500) = (Q 1 4, 0) := make_Q ⟨by decide, by decide⟩ ⟨by decide, by decide⟩ ⟨by decide, by decide⟩ ⟨by decide, by decide⟩ (by decide) (by decide)
  unfold timesR
  simp only [e, w_make 900 ⟨by decide, by decide⟩, (mul_Q (a := 900) (b := 1) (c := 1) (d := 4) (n := 225) (m := 1) ⟨by decide, by decide⟩ ⟨by decide, by decide⟩ ⟨by decide, by decide⟩ ⟨by decide, by decide⟩ (by decide) (by decide) ⟨by decide, by decide⟩ ⟨by decide, by decide⟩ ⟨by decide, by decide⟩ ⟨by decide, by decide⟩ (by decide) (by decide))]
theorem all_1 : addR ⟨false, [], [1]⟩ (Q 675 1) = (Q 675 1, 0) := add_0Q ⟨by decide, by decide⟩ ⟨by decide, by decide⟩ (by decide)
theorem all_2 : addR (Q 675 1) (Q 675 1) = (Q 1350 1, 0) := (add_Q (a := 675) (b := 1) (c := 675) (d := 1) (n := 1350) (m := 1) ⟨by decide, by decide⟩ ⟨by decide, by decide⟩ ⟨by decide, by decide⟩ ⟨by decide, by decide⟩ (by decide) (by decide) ⟨by decide, by decide⟩ ⟨by decide, by decide⟩ ⟨by decide, by decide⟩ ⟨by decide, by decide⟩ ⟨by decide, by decide⟩ ⟨by decide, by decide⟩ (by decide) (by decide))
theorem all_3 : addR (Q 1350 1) (Q 675 1) = (Q 2025 1, 0) := (add_Q (a := 1350) (b := 1) (c := 675) (d := 1) (n := 2025) (m := 1) ⟨by decide, by decide⟩ ⟨by decide, by decide⟩ ⟨by decide, by decide⟩ ⟨by decide, by decide⟩ (by decide) (by decide) ⟨by decide, by decide⟩ ⟨by decide, by decide⟩ ⟨by decide, by decide⟩ ⟨by decide, by decide⟩ ⟨by decide, by decide⟩ ⟨by decide, by decide⟩ (by decide) (by decide))
end Go.Proofs.Ytbjamhkhocjdkaa.Px
