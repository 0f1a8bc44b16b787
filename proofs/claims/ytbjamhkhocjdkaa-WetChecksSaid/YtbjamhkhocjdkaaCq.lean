/- One step on the way to the rows: contracts of the program's functions, each for every argument that its statement names. -/
import Derived.Test.YtbjamhkhocjdkaaCo
import Derived.Test.YtbjamhkhocjdkaaCp
import Derived.Outline
import Derived.Deep.RegionHeld3
namespace Go.Proofs.Ytbjamhkhocjdkaa.Px
open Go.RowKit Go.Proofs.YtbjamhkhocjdkaaW.PrintWords Go.Proofs.YtbjamhkhocjdkaaW.PrintLast Go.Proofs.YtbjamhkhocjdkaaW.PrintMore Go.Proofs.Ytbjamhkhocjdkaa.Mat
set_option linter.unusedVariables false
set_option linter.unusedSimpArgs false
set_option maxHeartbeats 1000000 in
theorem sem_After {f r c n er : Int} {x y a : Rt} {v : Value} {w : World} {B : Nat} (hrun : ∀ {W : World} {A1 A2 : Option Addr} {c1 c2 : Nat}, B ≤ W.heap.size → Fr B W (.slice A1 x.p.length c1) x.p → Fr B W (.slice A2 x.q.length c2) x.q → Calls Try.prog 39 #[.agg #[.int .i64 f, .int .i64 r, .int .i64 c], .agg #[.bool x.neg, .slice A1 x.p.length c1, .slice A2 x.q.length c2], .int .i64 n] W (GiveQ2 B W y a er)) (hB : B ≤ w.heap.size) (h : RaF B w v x) :
    Calls Try.prog 19 #[.agg #[.int .i64 f, .int .i64 r, .int .i64 c], v, .int .i64 n] w (GiveQ B w y er) := by
  obtain ⟨A1, c1, A2, c2, rfl, h1, h2⟩ := h
  have HE := Aside0.mk (((Env.nil B w).cons h2).cons h1)
  have HB := Aside0.mk (Below.refl w.heap.size w)
  have HC : Aside0 (∀ {W : World} {A1 A2 : Option Addr} {c1 c2 : Nat}, B ≤ W.heap.size → Fr B W (.slice A1 x.p.length c1) x.p → Fr B W (.slice A2 x.q.length c2) x.q → Calls Try.prog 39 #[.agg #[.int .i64 f, .int .i64 r, .int .i64 c], .agg #[.bool x.neg, .slice A1 x.p.length c1, .slice A2 x.q.length c2], .int .i64 n] W (GiveQ2 B W y a er)) := Aside0.mk hrun
  clear h1 h2 hrun
  go_enter Try.func19, Try.ntmps19
  go_wp2_with (first | (go_at_call 39; refine (HC.out (A1 := A1) (c1 := c1) (A2 := A2) (c2 := c2) Z12 ?_ ?_).mono ?_; exact Xf; exact Xf; rintro e w1 ⟨A3, c3, D3, d3, A4, c4, D4, d4, rfl, hs1, hs2, hs3, hs4, hb⟩; have n_ := Aside0.mk (Env.cons (Env.cons (Env.cons (Env.cons (Env.below Xe hb) (hs1)) (hs2)) (hs3)) (hs4)); have nb_ := Aside0.mk (below_step (w := w) Xb hb); have nx_HW := Aside0.mk (Vr.below (g := w.heap.size) Z5 hb); have nx_HX := Aside0.mk (Vr.below (g := w.heap.size + 1) Z5 hb); have nx_HR := Aside0.mk (Vr.below (g := w.heap.size + 1 + 1) Z5 hb); have hz1 := hb.size; (try simp at hz1); clear HE HB; have HE := n_; have HB := nb_; clear n_ nb_; have HW := nx_HW; clear nx_HW; (first | obtain ⟨hc_HW, hf_HW, hl_HW⟩ := Vr.q3 HW.out | (obtain ⟨hc_HW, hf_HW, hl_HW⟩ := Vr.p3 HW.out; (try simp at hc_HW))); have HX := nx_HX; clear nx_HX; (first | obtain ⟨hc_HX, hf_HX, hl_HX⟩ := Vr.q3 HX.out | (obtain ⟨hc_HX, hf_HX, hl_HX⟩ := Vr.p3 HX.out; (try simp at hc_HX))); have HR := nx_HR; clear nx_HR; (first | obtain ⟨hc_HR, hf_HR, hl_HR⟩ := Vr.q3 HR.out | (obtain ⟨hc_HR, hf_HR, hl_HR⟩ := Vr.p3 HR.out; (try simp at hc_HR))); clear hb; have hq_ : w.heap.size ≠ w1.heap.size ∧ w1.heap.size ≠ w.heap.size ∧ w.heap.size < w1.heap.size ∧ w.heap.size ≤ w1.heap.size ∧ w.heap.size ≠ w1.heap.size + 1 ∧ w1.heap.size + 1 ≠ w.heap.size ∧ w.heap.size < w1.heap.size + 1 ∧ w.heap.size ≤ w1.heap.size + 1 ∧ w.heap.size ≠ w1.heap.size + 1 + 1 ∧ w1.heap.size + 1 + 1 ≠ w.heap.size ∧ w.heap.size < w1.heap.size + 1 + 1 ∧ w.heap.size ≤ w1.heap.size + 1 + 1 ∧ w.heap.size + 1 ≠ w1.heap.size ∧ w1.heap.size ≠ w.heap.size + 1 ∧ w.heap.size + 1 < w1.heap.size ∧ w.heap.size + 1 ≤ w1.heap.size ∧ w.heap.size + 1 ≠ w1.heap.size + 1 ∧ w1.heap.size + 1 ≠ w.heap.size + 1 ∧ w.heap.size + 1 < w1.heap.size + 1 ∧ w.heap.size + 1 ≤ w1.heap.size + 1 ∧ w.heap.size + 1 ≠ w1.heap.size + 1 + 1 ∧ w1.heap.size + 1 + 1 ≠ w.heap.size + 1 ∧ w.heap.size + 1 < w1.heap.size + 1 + 1 ∧ w.heap.size + 1 ≤ w1.heap.size + 1 + 1 ∧ w.heap.size + 1 + 1 ≠ w1.heap.size ∧ w1.heap.size ≠ w.heap.size + 1 + 1 ∧ w.heap.size + 1 + 1 < w1.heap.size ∧ w.heap.size + 1 + 1 ≤ w1.heap.size ∧ w.heap.size + 1 + 1 ≠ w1.heap.size + 1 ∧ w1.heap.size + 1 ≠ w.heap.size + 1 + 1 ∧ w.heap.size + 1 + 1 < w1.heap.size + 1 ∧ w.heap.size + 1 + 1 ≤ w1.heap.size + 1 ∧ w.heap.size + 1 + 1 ≠ w1.heap.size + 1 + 1 ∧ w1.heap.size + 1 + 1 ≠ w.heap.size + 1 + 1 ∧ w.heap.size + 1 + 1 < w1.heap.size + 1 + 1 ∧ w.heap.size + 1 + 1 ≤ w1.heap.size + 1 + 1 := by omega))
  all_goals
    refine bodyPost_ret (results_list (rs := [.cell 6 27, .tmp 7]) rfl (by simp) (vals_vr Xv rfl Try.underlying27 rfl Z6 (.tmp .nil))) rfl ?_
    exact ⟨_, _, _, _, rfl, Xf, Xf, Xb⟩
set_option maxHeartbeats 1000000 in
theorem sem_Paper {f r c n er : Int} {x y a : Rt} {v : Value} {w : World} {B : Nat} (hrun : ∀ {W : World} {A1 A2 : Option Addr} {c1 c2 : Nat}, B ≤ W.heap.size → Fr B W (.slice A1 x.p.length c1) x.p → Fr B W (.slice A2 x.q.length c2) x.q → Calls Try.prog 39 #[.agg #[.int .i64 f, .int .i64 r, .int .i64 c], .agg #[.bool x.neg, .slice A1 x.p.length c1, .slice A2 x.q.length c2], .int .i64 n] W (GiveQ2 B W y a er)) (hB : B ≤ w.heap.size) (h : RaF B w v x) :
    Calls Try.prog 21 #[.agg #[.int .i64 f, .int .i64 r, .int .i64 c], v, .int .i64 n] w (GiveQ B w a er) := by
  obtain ⟨A1, c1, A2, c2, rfl, h1, h2⟩ := h
  have HE := Aside0.mk (((Env.nil B w).cons h2).cons h1)
  have HB := Aside0.mk (Below.refl w.heap.size w)
  have HC : Aside0 (∀ {W : World} {A1 A2 : Option Addr} {c1 c2 : Nat}, B ≤ W.heap.size → Fr B W (.slice A1 x.p.length c1) x.p → Fr B W (.slice A2 x.q.length c2) x.q → Calls Try.prog 39 #[.agg #[.int .i64 f, .int .i64 r, .int .i64 c], .agg #[.bool x.neg, .slice A1 x.p.length c1, .slice A2 x.q.length c2], .int .i64 n] W (GiveQ2 B W y a er)) := Aside0.mk hrun
  clear h1 h2 hrun
  go_enter Try.func21, Try.ntmps21
  go_wp2_with (first | (go_at_call 39; refine (HC.out (A1 := A1) (c1 := c1) (A2 := A2) (c2 := c2) Z12 ?_ ?_).mono ?_; exact Xf; exact Xf; rintro e w1 ⟨A3, c3, D3, d3, A4, c4, D4, d4, rfl, hs1, hs2, hs3, hs4, hb⟩; have n_ := Aside0.mk (Env.cons (Env.cons (Env.cons (Env.cons (Env.below Xe hb) (hs1)) (hs2)) (hs3)) (hs4)); have nb_ := Aside0.mk (below_step (w := w) Xb hb); have nx_HW := Aside0.mk (Vr.below (g := w.heap.size) Z5 hb); have nx_HX := Aside0.mk (Vr.below (g := w.heap.size + 1) Z5 hb); have nx_HR := Aside0.mk (Vr.below (g := w.heap.size + 1 + 1) Z5 hb); have hz1 := hb.size; (try simp at hz1); clear HE HB; have HE := n_; have HB := nb_; clear n_ nb_; have HW := nx_HW; clear nx_HW; (first | obtain ⟨hc_HW, hf_HW, hl_HW⟩ := Vr.q3 HW.out | (obtain ⟨hc_HW, hf_HW, hl_HW⟩ := Vr.p3 HW.out; (try simp at hc_HW))); have HX := nx_HX; clear nx_HX; (first | obtain ⟨hc_HX, hf_HX, hl_HX⟩ := Vr.q3 HX.out | (obtain ⟨hc_HX, hf_HX, hl_HX⟩ := Vr.p3 HX.out; (try simp at hc_HX))); have HR := nx_HR; clear nx_HR; (first | obtain ⟨hc_HR, hf_HR, hl_HR⟩ := Vr.q3 HR.out | (obtain ⟨hc_HR, hf_HR, hl_HR⟩ := Vr.p3 HR.out; (try simp at hc_HR))); clear hb; have hq_ : w.heap.size ≠ w1.heap.size ∧ w1.heap.size ≠ w.heap.size ∧ w.heap.size < w1.heap.size ∧ w.heap.size ≤ w1.heap.size ∧ w.heap.size ≠ w1.heap.size + 1 ∧ w1.heap.size + 1 ≠ w.heap.size ∧ w.heap.size < w1.heap.size + 1 ∧ w.heap.size ≤ w1.heap.size + 1 ∧ w.heap.size ≠ w1.heap.size + 1 + 1 ∧ w1.heap.size + 1 + 1 ≠ w.heap.size ∧ w.heap.size < w1.heap.size + 1 + 1 ∧ w.heap.size ≤ w1.heap.size + 1 + 1 ∧ w.heap.size + 1 ≠ w1.heap.size ∧ w1.heap.size ≠ w.heap.size + 1 ∧ w.heap.size + 1 < w1.heap.size ∧ w.heap.size + 1 ≤ w1.heap.size ∧ w.heap.size + 1 ≠ w1.heap.size + 1 ∧ w1.heap.size + 1 ≠ w.heap.size + 1 ∧ w.heap.size + 1 < w1.heap.size + 1 ∧ w.heap.size + 1 ≤ w1.heap.size + 1 ∧ w.heap.size + 1 ≠ w1.heap.size + 1 + 1 ∧ w1.heap.size + 1 + 1 ≠ w.heap.size + 1 ∧ w.heap.size + 1 < w1.heap.size + 1 + 1 ∧ w.heap.size + 1 ≤ w1.heap.size + 1 + 1 ∧ w.heap.size + 1 + 1 ≠ w1.heap.size ∧ w1.heap.size ≠ w.heap.size + 1 + 1 ∧ w.heap.size + 1 + 1 < w1.heap.size ∧ w.heap.size + 1 + 1 ≤ w1.heap.size ∧ w.heap.size + 1 + 1 ≠ w1.heap.size + 1 ∧ w1.heap.size + 1 ≠ w.heap.size + 1 + 1 ∧ w.heap.size + 1 + 1 < w1.heap.size + 1 ∧ w.heap.size + 1 + 1 ≤ w1.heap.size + 1 ∧ w.heap.size + 1 + 1 ≠ w1.heap.size + 1 + 1 ∧ w1.heap.size + 1 + 1 ≠ w.heap.size + 1 + 1 ∧ w.heap.size + 1 + 1 < w1.heap.size + 1 + 1 ∧ w.heap.size + 1 + 1 ≤ w1.heap.size + 1 + 1 := by omega))
  all_goals
    refine bodyPost_ret (results_list (rs := [.cell 6 27, .tmp 7]) rfl (by simp) (vals_vr Xv rfl Try.underlying27 rfl Z6 (.tmp .nil))) rfl ?_
    exact ⟨_, _, _, _, rfl, Xf, Xf, Xb⟩
set_option maxHeartbeats 400000 in
theorem sem_whole {n : Int} {r : Rt} {er : Int} (h : makeS n 1 = (r, er)) {w : World} {B : Nat} (hB : B ≤ w.heap.size) : Calls Try.prog 26 #[.int .i64 n] w (GiveV B w r) := by
  have HE := Aside0.mk (Env.nil B w)
  have HB := Aside0.mk (Below.refl w.heap.size w)
  have HM := Aside0.mk h
  clear h
  go_enter Try.func26, Try.ntmps26
  go_wp2_with (first | (go_at_call 33; refine (q_rOf (B := B) (r := r) (er := er) HM.out Z12).mono ?_; rintro e w1 ⟨A1, c1, A2, c2, rfl, hs1, hs2, hb⟩; have n_ := Aside0.mk (Env.cons (Env.cons (Env.below Xe hb) (hs1)) (hs2)); have nb_ := Aside0.mk (below_step (w := w) Xb hb); have nx_HR := Aside0.mk (Vr.below (g := w.heap.size) Z5 hb); have hz1 := hb.size; (try simp at hz1); clear HE HB; have HE := n_; have HB := nb_; clear n_ nb_; have HR := nx_HR; clear nx_HR; (first | obtain ⟨hc_HR, hf_HR, hl_HR⟩ := Vr.q3 HR.out | (obtain ⟨hc_HR, hf_HR, hl_HR⟩ := Vr.p3 HR.out; (try simp at hc_HR))); clear hb; have hq_ : w.heap.size ≠ w1.heap.size ∧ w1.heap.size ≠ w.heap.size ∧ w.heap.size < w1.heap.size ∧ w.heap.size ≤ w1.heap.size ∧ w.heap.size ≠ w1.heap.size + 1 ∧ w1.heap.size + 1 ≠ w.heap.size ∧ w.heap.size < w1.heap.size + 1 ∧ w.heap.size ≤ w1.heap.size + 1 := by omega))
  all_goals
    refine bodyPost_ret (results_single rfl (vals_vr Xv rfl Try.underlying27 rfl Z6 .nil)) rfl ?_
    exact ⟨_, _, _, _, rfl, Xf, Xf, Xb⟩
theorem sem_end {w : World} : Calls Try.prog 35 #[] w fun e w' => e = .returned (.agg #[.int .i64 900, .int .i64 600, .int .i64 500]) ∧ Below w.heap.size w w' := by
  have HB := Aside0.mk (Below.refl w.heap.size w)
  go_enter Try.func35, Try.ntmps35
  go_wp2_with (fail)
  all_goals
    refine bodyPost_ret (results_single rfl (vals_vr Xv rfl Try.underlying23 rfl Z6 .nil)) rfl ?_
    exact ⟨rfl, Xb⟩
set_option maxHeartbeats 1000000 in
theorem sem_rSteady_bad {f r c er : Int} {w : World} {B : Nat} (hc : checkS f r c = er) (he : ¬ er = 0) (hB : B ≤ w.heap.size) : Calls Try.prog 11 #[.agg #[.int .i64 f, .int .i64 r, .int .i64 c]] w (GiveQ B w zR er) := by
  have HE := Aside0.mk (Env.nil B w)
  have HB := Aside0.mk (Below.refl w.heap.size w)
  have HC := Aside0.mk hc
  have he' : (er == 0) = false := beq_false_of_ne he
  clear hc
  go_enter Try.func11, Try.ntmps11
  go_wp2_with (first | (go_at_call 13; refine (sem_rCheck f r c).mono ?_; rw [HC.out]; rintro e w1 ⟨rfl, hb⟩; have n_ := Aside0.mk (Env.below Xe hb); have nb_ := Aside0.mk (below_step (w := w) Xb hb); have nx_HW := Aside0.mk (Vr.below (g := w.heap.size) Z5 hb); have nx_HR := Aside0.mk (Vr.below (g := w.heap.size + 1) Z5 hb); have hz1 := hb.size; (try simp at hz1); clear HE HB; have HE := n_; have HB := nb_; clear n_ nb_; have HW := nx_HW; clear nx_HW; (first | obtain ⟨hc_HW, hf_HW, hl_HW⟩ := Vr.q3 HW.out | (obtain ⟨hc_HW, hf_HW, hl_HW⟩ := Vr.p3 HW.out; (try simp at hc_HW))); have HR := nx_HR; clear nx_HR; (first | obtain ⟨hc_HR, hf_HR, hl_HR⟩ := Vr.q3 HR.out | (obtain ⟨hc_HR, hf_HR, hl_HR⟩ := Vr.p3 HR.out; (try simp at hc_HR))); clear hb))
  all_goals
    refine bodyPost_ret (results_list (rs := [.cell 2 27, .tmp 3]) rfl (by simp) (vals_vr Xv rfl Try.underlying27 rfl Z6 (.tmp .nil))) rfl ?_
    exact ⟨_, _, _, _, rfl, Xf, Xf, Xb⟩
set_option maxHeartbeats 1000000 in
theorem sem_rSteady_ok {f r c : Int} {w : World} {B : Nat} (hc : checkS f r c = 0) (hB : B ≤ w.heap.size) : Calls Try.prog 11 #[.agg #[.int .i64 f, .int .i64 r, .int .i64 c]] w (GiveQ B w (steadyR f r c) 0) := by
  obtain ⟨⟨f1, f2⟩, ⟨r1, r2⟩, c1, c2⟩ := checkS_zero hc
  unfold steadyR timesR
  have hk0 : 0 ≤ (1000 - r) * c := Int.mul_nonneg (by omega) c1
  have hk1 : (1000 - r) * c ≤ 999000 := by
    have := Int.mul_le_mul (show 1000 - r ≤ 999 by omega) c2 c1 (by decide)
    omega
  obtain ⟨k, hk⟩ : ∃ k, (1000 - r) * c = k := ⟨_, rfl⟩
  rw [hk] at hk0 hk1 ⊢
  obtain ⟨r1, e1, h1⟩ : ∃ r e, makeS f 1 = (r, e) := ⟨_, _, rfl⟩
  obtain ⟨r2, e2, h2⟩ : ∃ r e, makeS k (1000000 - k) = (r, e) := ⟨_, _, rfl⟩
  rw [h1, h2]
  obtain ⟨r3, e3, h3⟩ : ∃ r e, mulR r1 r2 = (r, e) := ⟨_, _, rfl⟩
  simp only
  rw [h3]
  simp only
  have H1 := Aside0.mk h1
  have H2 := Aside0.mk h2
  have H3 := Aside0.mk h3
  have HE := Aside0.mk (Env.nil B w)
  have HB := Aside0.mk (Below.refl w.heap.size w)
  have HC := Aside0.mk hc
  have hw1 : (-9223372036854775808 : Int) ≤ 1000 - r ∧ 1000 - r ≤ 9223372036854775807 := by omega
  have hw2 : (-9223372036854775808 : Int) ≤ 1000000 - k ∧ 1000000 - k ≤ 9223372036854775807 := by omega
  clear hc h1 h2 h3
  go_enter Try.func11, Try.ntmps11
  go_wp2_with (first | (go_at_call 13; refine (sem_rCheck f r c).mono ?_; rw [HC.out]; rintro e w1 ⟨rfl, hb⟩; have n_ := Aside0.mk (Env.below Xe hb); have nb_ := Aside0.mk (below_step (w := w) Xb hb); have nx_HW := Aside0.mk (Vr.below (g := w.heap.size) Z5 hb); have nx_HR := Aside0.mk (Vr.below (g := w.heap.size + 1) Z5 hb); have hz1 := hb.size; (try simp at hz1); clear HE HB; have HE := n_; have HB := nb_; clear n_ nb_; have HW := nx_HW; clear nx_HW; (first | obtain ⟨hc_HW, hf_HW, hl_HW⟩ := Vr.q3 HW.out | (obtain ⟨hc_HW, hf_HW, hl_HW⟩ := Vr.p3 HW.out; (try simp at hc_HW))); have HR := nx_HR; clear nx_HR; (first | obtain ⟨hc_HR, hf_HR, hl_HR⟩ := Vr.q3 HR.out | (obtain ⟨hc_HR, hf_HR, hl_HR⟩ := Vr.p3 HR.out; (try simp at hc_HR))); clear hb) | (go_at_call 27; refine (q_rMake (B := B) (r := r2) (er := e2) H2.out Z12).mono ?_; rintro e w2 ⟨A3, c3, D3, d3, rfl, hs1, hs2, hb⟩; have n_ := Aside0.mk (Env.cons (Env.cons (Env.below Xe hb) (hs1)) (hs2)); have nb_ := Aside0.mk (below_step (w := w) Xb hb); have nx_HW := Aside0.mk (Vr.below (g := w.heap.size) Z5 hb); have nx_HR := Aside0.mk (Vr.below (g := w.heap.size + 1) Z5 hb); have hz2 := hb.size; (try simp at hz2); clear HE HB HW HR; have HE := n_; have HB := nb_; clear n_ nb_; (try clear hc_HW); (try clear hc_HR); (try clear hf_HW); (try clear hf_HR); (try clear hl_HW); (try clear hl_HR); have HW := nx_HW; clear nx_HW; (first | obtain ⟨hc_HW, hf_HW, hl_HW⟩ := Vr.q3 HW.out | (obtain ⟨hc_HW, hf_HW, hl_HW⟩ := Vr.p3 HW.out; (try simp at hc_HW))); have HR := nx_HR; clear nx_HR; (first | obtain ⟨hc_HR, hf_HR, hl_HR⟩ := Vr.q3 HR.out | (obtain ⟨hc_HR, hf_HR, hl_HR⟩ := Vr.p3 HR.out; (try simp at hc_HR))); clear hb; have hq_ : w.heap.size ≠ w2.heap.size ∧ w2.heap.size ≠ w.heap.size ∧ w.heap.size < w2.heap.size ∧ w.heap.size ≤ w2.heap.size ∧ w.heap.size ≠ w2.heap.size + 1 ∧ w2.heap.size + 1 ≠ w.heap.size ∧ w.heap.size < w2.heap.size + 1 ∧ w.heap.size ≤ w2.heap.size + 1 ∧ w.heap.size + 1 ≠ w2.heap.size ∧ w2.heap.size ≠ w.heap.size + 1 ∧ w.heap.size + 1 < w2.heap.size ∧ w.heap.size + 1 ≤ w2.heap.size ∧ w.heap.size + 1 ≠ w2.heap.size + 1 ∧ w2.heap.size + 1 ≠ w.heap.size + 1 ∧ w.heap.size + 1 < w2.heap.size + 1 ∧ w.heap.size + 1 ≤ w2.heap.size + 1 := by omega) | (go_at_call 33; refine (q_rOf (B := B) (r := r1) (er := e1) H1.out Z12).mono ?_; rintro e w3 ⟨A4, c4, D4, d4, rfl, hs1, hs2, hb⟩; have n_ := Aside0.mk (Env.cons (Env.cons (Env.below Xe hb) (hs1)) (hs2)); have nb_ := Aside0.mk (below_step (w := w) Xb hb); have nx_HW := Aside0.mk (Vr.below (g := w.heap.size) Z5 hb); have nx_HR := Aside0.mk (Vr.below (g := w.heap.size + 1) Z5 hb); have nx_HP := Aside0.mk (Vr.below (g := w2.heap.size) Z5 hb); have hz3 := hb.size; (try simp at hz3); clear HE HB HW HR; have HE := n_; have HB := nb_; clear n_ nb_; (try clear hc_HW); (try clear hc_HR); (try clear hf_HW); (try clear hf_HR); (try clear hl_HW); (try clear hl_HR); have HW := nx_HW; clear nx_HW; (first | obtain ⟨hc_HW, hf_HW, hl_HW⟩ := Vr.q3 HW.out | (obtain ⟨hc_HW, hf_HW, hl_HW⟩ := Vr.p3 HW.out; (try simp at hc_HW))); have HR := nx_HR; clear nx_HR; (first | obtain ⟨hc_HR, hf_HR, hl_HR⟩ := Vr.q3 HR.out | (obtain ⟨hc_HR, hf_HR, hl_HR⟩ := Vr.p3 HR.out; (try simp at hc_HR))); have HP := nx_HP; clear nx_HP; (first | obtain ⟨hc_HP, hf_HP, hl_HP⟩ := Vr.q3 HP.out | (obtain ⟨hc_HP, hf_HP, hl_HP⟩ := Vr.p3 HP.out; (try simp at hc_HP))); clear hb; clear hq_; have hq_ : w.heap.size ≠ w3.heap.size ∧ w3.heap.size ≠ w.heap.size ∧ w.heap.size < w3.heap.size ∧ w.heap.size ≤ w3.heap.size ∧ w.heap.size ≠ w3.heap.size + 1 ∧ w3.heap.size + 1 ≠ w.heap.size ∧ w.heap.size < w3.heap.size + 1 ∧ w.heap.size ≤ w3.heap.size + 1 ∧ w.heap.size + 1 ≠ w3.heap.size ∧ w3.heap.size ≠ w.heap.size + 1 ∧ w.heap.size + 1 < w3.heap.size ∧ w.heap.size + 1 ≤ w3.heap.size ∧ w.heap.size + 1 ≠ w3.heap.size + 1 ∧ w3.heap.size + 1 ≠ w.heap.size + 1 ∧ w.heap.size + 1 < w3.heap.size + 1 ∧ w.heap.size + 1 ≤ w3.heap.size + 1 ∧ w2.heap.size ≠ w3.heap.size ∧ w3.heap.size ≠ w2.heap.size ∧ w2.heap.size < w3.heap.size ∧ w2.heap.size ≤ w3.heap.size ∧ w2.heap.size ≠ w3.heap.size + 1 ∧ w3.heap.size + 1 ≠ w2.heap.size ∧ w2.heap.size < w3.heap.size + 1 ∧ w2.heap.size ≤ w3.heap.size + 1 := by omega) | (go_at_call 29; refine (q_rMul (B := B) (x := r1) (y := r2) (r := r3) (er := e3) H3.out Z12 ?_ ?_).mono ?_; exact ⟨_, _, _, _, rfl, Xf, Xf⟩; exact ⟨_, _, _, _, rfl, Xf, Xf⟩; rintro e w4 ⟨A5, c5, D5, d5, rfl, hs1, hs2, hb⟩; have n_ := Aside0.mk (Env.cons (Env.cons (Env.below Xe hb) (hs1)) (hs2)); have nb_ := Aside0.mk (below_step (w := w) Xb hb); have nx_HW := Aside0.mk (Vr.below (g := w.heap.size) Z5 hb); have nx_HR := Aside0.mk (Vr.below (g := w.heap.size + 1) Z5 hb); have nx_HP := Aside0.mk (Vr.below (g := w2.heap.size) Z5 hb); have hz4 := hb.size; (try simp at hz4); clear HE HB HW HR HP; have HE := n_; have HB := nb_; clear n_ nb_; (try clear hc_HW); (try clear hc_HR); (try clear hc_HP); (try clear hf_HW); (try clear hf_HR); (try clear hf_HP); (try clear hl_HW); (try clear hl_HR); (try clear hl_HP); have HW := nx_HW; clear nx_HW; (first | obtain ⟨hc_HW, hf_HW, hl_HW⟩ := Vr.q3 HW.out | (obtain ⟨hc_HW, hf_HW, hl_HW⟩ := Vr.p3 HW.out; (try simp at hc_HW))); have HR := nx_HR; clear nx_HR; (first | obtain ⟨hc_HR, hf_HR, hl_HR⟩ := Vr.q3 HR.out | (obtain ⟨hc_HR, hf_HR, hl_HR⟩ := Vr.p3 HR.out; (try simp at hc_HR))); have HP := nx_HP; clear nx_HP; (first | obtain ⟨hc_HP, hf_HP, hl_HP⟩ := Vr.q3 HP.out | (obtain ⟨hc_HP, hf_HP, hl_HP⟩ := Vr.p3 HP.out; (try simp at hc_HP))); clear hb; clear hq_; have hq_ : w.heap.size ≠ w4.heap.size ∧ w4.heap.size ≠ w.heap.size ∧ w.heap.size < w4.heap.size ∧ w.heap.size ≤ w4.heap.size ∧ w.heap.size ≠ w4.heap.size + 1 ∧ w4.heap.size + 1 ≠ w.heap.size ∧ w.heap.size < w4.heap.size + 1 ∧ w.heap.size ≤ w4.heap.size + 1 ∧ w.heap.size + 1 ≠ w4.heap.size ∧ w4.heap.size ≠ w.heap.size + 1 ∧ w.heap.size + 1 < w4.heap.size ∧ w.heap.size + 1 ≤ w4.heap.size ∧ w.heap.size + 1 ≠ w4.heap.size + 1 ∧ w4.heap.size + 1 ≠ w.heap.size + 1 ∧ w.heap.size + 1 < w4.heap.size + 1 ∧ w.heap.size + 1 ≤ w4.heap.size + 1 := by omega))
  all_goals
    refine bodyPost_ret (results_list (rs := [.cell 2 27, .tmp 3]) rfl (by simp) (vals_vr Xv rfl Try.underlying27 rfl Z6 (.tmp .nil))) rfl ?_
    exact ⟨_, _, _, _, rfl, Xf, Xf, Xb⟩
end Go.Proofs.Ytbjamhkhocjdkaa.Px
