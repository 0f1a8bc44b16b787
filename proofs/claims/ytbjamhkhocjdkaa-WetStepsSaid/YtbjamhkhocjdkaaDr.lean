/- One step on the way to the rows: contracts of the program's functions, each for every argument that its statement names. -/
import Derived.Test.YtbjamhkhocjdkaaDp
import Derived.Test.YtbjamhkhocjdkaaDq
import Derived.Outline
import Derived.Deep.RegionHeld3
namespace Go.Proofs.Ytbjamhkhocjdkaa.Px
open Go.RowKit Go.Proofs.YtbjamhkhocjdkaaW.PrintWords Go.Proofs.YtbjamhkhocjdkaaW.PrintLast Go.Proofs.YtbjamhkhocjdkaaW.PrintMore Go.Proofs.Ytbjamhkhocjdkaa.Mat
set_option linter.unusedVariables false
set_option linter.unusedSimpArgs false
set_option maxHeartbeats 1000000 in
theorem sem_After {f r c n er : Int} {x y a : Rt} {v : Value} {w : World} {B : Nat} (hrun : ∀ {W : World} {A1 A2 : Option Addr} {c1 c2 : Nat}, B ≤ W.heap.size → Fr B W (.slice A1 x.p.length c1) x.p → Fr B W (.slice A2 x.q.length c2) x.q → Calls Try.prog 39 #[.agg #[.int .i64 f, .int .i64 r, .int .i64 c], .agg #[.bool x.neg, .slice A1 x.p.length c1, .slice A2 x.q.length c2], .int .i64 n] W (GiveQ2 B W y a er)) (hB : B ≤ w.heap.size) (h : RaF B w v x) :
    Calls Try.prog 19 #[.agg #[.int .i64 f, .int .i64 r, .int .i64 c], v, .int .i64 n] w (GiveQ B w y er) := by
  obtain ⟨A1, c1, A2, c2, rfl, h1, h2⟩ := h
  have HE := Aside0.mk (((Env.nil B w).cons h2).cons h1)
  have HB := Aside0.mk (Below.refl w.heap.size w)
  have HC : Aside0 (∀ {W : World} {A1 A2 : Option Addr} {c1 c2 : Nat}, B ≤ W.heap.size → Fr B W (.slice A1 x.p.length c1) x.p → Fr B W (.slice A2 x.q.length c2) x.q → Calls Try.prog 39 #[.agg #[.int .i64 f, .int .i64 r, .int .i64 c], .agg #[.bool x.neg, .slice A1 x.p.length c1, .slice A2 x.q.length c2], .int .i64 n] W (GiveQ2 B W y a er)) := Aside0.mk hrun
  clear h1 h2 hrun
  go_enter Try.func19, Try.ntmps19
  go_wp2_with (first | (go_at_call 39; refine (HC.out (A1 := A1) (c1 := c1) (A2 := A2) (c2 := c2) Z10 ?_ ?_).mono ?_; exact Xf; exact Xf; rintro e w1 ⟨A3, c3, D3, d3, A4, c4, D4, d4, rfl, hs1, hs2, hs3, hs4, hb⟩; have n_ := Aside0.mk (Env.cons (Env.cons (Env.cons (Env.cons (Env.below Xe hb) (hs1)) (hs2)) (hs3)) (hs4)); have nb_ := Aside0.mk (below_step (w := w) Xb hb); have hz1 := hb.size; (try simp at hz1); clear HE HB; have HE := n_; have HB := nb_; clear n_ nb_; have HW := Aside0.mk (Vr.below (g := w.heap.size) Z5 hb); have HX := Aside0.mk (Vr.below (g := w.heap.size + 1) Z5 hb); have HR := Aside0.mk (Vr.below (g := w.heap.size + 1 + 1) Z5 hb); obtain ⟨hc_HW, hf_HW, hl_HW⟩ := Vr.q3 HW.out; obtain ⟨hc_HX, hf_HX, hl_HX⟩ := Vr.q3 HX.out; obtain ⟨hc_HR, hf_HR, hl_HR⟩ := Vr.q3 HR.out; clear hb; have hq_ : w.heap.size ≠ w1.heap.size ∧ w1.heap.size ≠ w.heap.size ∧ w.heap.size < w1.heap.size ∧ w.heap.size ≤ w1.heap.size ∧ w.heap.size ≠ w1.heap.size + 1 ∧ w1.heap.size + 1 ≠ w.heap.size ∧ w.heap.size < w1.heap.size + 1 ∧ w.heap.size ≤ w1.heap.size + 1 ∧ w.heap.size ≠ w1.heap.size + 1 + 1 ∧ w1.heap.size + 1 + 1 ≠ w.heap.size ∧ w.heap.size < w1.heap.size + 1 + 1 ∧ w.heap.size ≤ w1.heap.size + 1 + 1 ∧ w.heap.size + 1 ≠ w1.heap.size ∧ w1.heap.size ≠ w.heap.size + 1 ∧ w.heap.size + 1 < w1.heap.size ∧ w.heap.size + 1 ≤ w1.heap.size ∧ w.heap.size + 1 ≠ w1.heap.size + 1 ∧ w1.heap.size + 1 ≠ w.heap.size + 1 ∧ w.heap.size + 1 < w1.heap.size + 1 ∧ w.heap.size + 1 ≤ w1.heap.size + 1 ∧ w.heap.size + 1 ≠ w1.heap.size + 1 + 1 ∧ w1.heap.size + 1 + 1 ≠ w.heap.size + 1 ∧ w.heap.size + 1 < w1.heap.size + 1 + 1 ∧ w.heap.size + 1 ≤ w1.heap.size + 1 + 1 ∧ w.heap.size + 1 + 1 ≠ w1.heap.size ∧ w1.heap.size ≠ w.heap.size + 1 + 1 ∧ w.heap.size + 1 + 1 < w1.heap.size ∧ w.heap.size + 1 + 1 ≤ w1.heap.size ∧ w.heap.size + 1 + 1 ≠ w1.heap.size + 1 ∧ w1.heap.size + 1 ≠ w.heap.size + 1 + 1 ∧ w.heap.size + 1 + 1 < w1.heap.size + 1 ∧ w.heap.size + 1 + 1 ≤ w1.heap.size + 1 ∧ w.heap.size + 1 + 1 ≠ w1.heap.size + 1 + 1 ∧ w1.heap.size + 1 + 1 ≠ w.heap.size + 1 + 1 ∧ w.heap.size + 1 + 1 < w1.heap.size + 1 + 1 ∧ w.heap.size + 1 + 1 ≤ w1.heap.size + 1 + 1 := by omega))
  all_goals
    refine bodyPost_ret (results_list (rs := [.cell 6 27, .tmp 7]) rfl (by simp) (vals_vr Xv rfl Try.underlying27 rfl Z6 (.tmp .nil))) rfl ?_
    exact ⟨_, _, _, _, rfl, Xf, Xf, Xb⟩
set_option maxHeartbeats 1000000 in
theorem sem_Paper {f r c n er : Int} {x y a : Rt} {v : Value} {w : World} {B : Nat} (hrun : ∀ {W : World} {A1 A2 : Option Addr} {c1 c2 : Nat}, B ≤ W.heap.size → Fr B W (.slice A1 x.p.length c1) x.p → Fr B W (.slice A2 x.q.length c2) x.q → Calls Try.prog 39 #[.agg #[.int .i64 f, .int .i64 r, .int .i64 c], .agg #[.bool x.neg, .slice A1 x.p.length c1, .slice A2 x.q.length c2], .int .i64 n] W (GiveQ2 B W y a er)) (hB : B ≤ w.heap.size) (h : RaF B w v x) :
    Calls Try.prog 21 #[.agg #[.int .i64 f, .int .i64 r, .int .i64 c], v, .int .i64 n] w (GiveQ B w a er) := by
  obtain ⟨A1, c1, A2, c2, rfl, h1, h2⟩ := h
  have HE := Aside0.mk (((Env.nil B w).cons h2).cons h1)
  have HB := Aside0.mk (Below.refl w.heap.size w)
  have HC : Aside0 (∀ {W : World} {A1 A2 : Option Addr} {c1 c2 : Nat}, B ≤ W.heap.size → Fr B W (.slice A1 x.p.length c1) x.p → Fr B W (.slice A2 x.q.length c2) x.q → Calls Try.prog 39 #[.agg #[.int .i64 f, .int .i64 r, .int .i64 c], .agg #[.bool x.neg, .slice A1 x.p.length c1, .slice A2 x.q.length c2], .int .i64 n] W (GiveQ2 B W y a er)) := Aside0.mk hrun
  clear h1 h2 hrun
  go_enter Try.func21, Try.ntmps21
  go_wp2_with (first | (go_at_call 39; refine (HC.out (A1 := A1) (c1 := c1) (A2 := A2) (c2 := c2) Z10 ?_ ?_).mono ?_; exact Xf; exact Xf; rintro e w1 ⟨A3, c3, D3, d3, A4, c4, D4, d4, rfl, hs1, hs2, hs3, hs4, hb⟩; have n_ := Aside0.mk (Env.cons (Env.cons (Env.cons (Env.cons (Env.below Xe hb) (hs1)) (hs2)) (hs3)) (hs4)); have nb_ := Aside0.mk (below_step (w := w) Xb hb); have hz1 := hb.size; (try simp at hz1); clear HE HB; have HE := n_; have HB := nb_; clear n_ nb_; have HW := Aside0.mk (Vr.below (g := w.heap.size) Z5 hb); have HX := Aside0.mk (Vr.below (g := w.heap.size + 1) Z5 hb); have HR := Aside0.mk (Vr.below (g := w.heap.size + 1 + 1) Z5 hb); obtain ⟨hc_HW, hf_HW, hl_HW⟩ := Vr.q3 HW.out; obtain ⟨hc_HX, hf_HX, hl_HX⟩ := Vr.q3 HX.out; obtain ⟨hc_HR, hf_HR, hl_HR⟩ := Vr.q3 HR.out; clear hb; have hq_ : w.heap.size ≠ w1.heap.size ∧ w1.heap.size ≠ w.heap.size ∧ w.heap.size < w1.heap.size ∧ w.heap.size ≤ w1.heap.size ∧ w.heap.size ≠ w1.heap.size + 1 ∧ w1.heap.size + 1 ≠ w.heap.size ∧ w.heap.size < w1.heap.size + 1 ∧ w.heap.size ≤ w1.heap.size + 1 ∧ w.heap.size ≠ w1.heap.size + 1 + 1 ∧ w1.heap.size + 1 + 1 ≠ w.heap.size ∧ w.heap.size < w1.heap.size + 1 + 1 ∧ w.heap.size ≤ w1.heap.size + 1 + 1 ∧ w.heap.size + 1 ≠ w1.heap.size ∧ w1.heap.size ≠ w.heap.size + 1 ∧ w.heap.size + 1 < w1.heap.size ∧ w.heap.size + 1 ≤ w1.heap.size ∧ w.heap.size + 1 ≠ w1.heap.size + 1 ∧ w1.heap.size + 1 ≠ w.heap.size + 1 ∧ w.heap.size + 1 < w1.heap.size + 1 ∧ w.heap.size + 1 ≤ w1.heap.size + 1 ∧ w.heap.size + 1 ≠ w1.heap.size + 1 + 1 ∧ w1.heap.size + 1 + 1 ≠ w.heap.size + 1 ∧ w.heap.size + 1 < w1.heap.size + 1 + 1 ∧ w.heap.size + 1 ≤ w1.heap.size + 1 + 1 ∧ w.heap.size + 1 + 1 ≠ w1.heap.size ∧ w1.heap.size ≠ w.heap.size + 1 + 1 ∧ w.heap.size + 1 + 1 < w1.heap.size ∧ w.heap.size + 1 + 1 ≤ w1.heap.size ∧ w.heap.size + 1 + 1 ≠ w1.heap.size + 1 ∧ w1.heap.size + 1 ≠ w.heap.size + 1 + 1 ∧ w.heap.size + 1 + 1 < w1.heap.size + 1 ∧ w.heap.size + 1 + 1 ≤ w1.heap.size + 1 ∧ w.heap.size + 1 + 1 ≠ w1.heap.size + 1 + 1 ∧ w1.heap.size + 1 + 1 ≠ w.heap.size + 1 + 1 ∧ w.heap.size + 1 + 1 < w1.heap.size + 1 + 1 ∧ w.heap.size + 1 + 1 ≤ w1.heap.size + 1 + 1 := by omega))
  all_goals
    refine bodyPost_ret (results_list (rs := [.cell 6 27, .tmp 7]) rfl (by simp) (vals_vr Xv rfl Try.underlying27 rfl Z6 (.tmp .nil))) rfl ?_
    exact ⟨_, _, _, _, rfl, Xf, Xf, Xb⟩
set_option maxHeartbeats 400000 in
theorem sem_whole {n : Int} {r : Rt} {er : Int} (h : makeS n 1 = (r, er)) {w : World} {B : Nat} (hB : B ≤ w.heap.size) : Calls Try.prog 26 #[.int .i64 n] w (GiveV B w r) := by
  have HE := Aside0.mk (Env.nil B w)
  have HB := Aside0.mk (Below.refl w.heap.size w)
  have HM := Aside0.mk h
  clear h
  go_enter Try.func26, Try.ntmps26
  go_wp2_with (first | (go_at_call 33; refine (q_rOf (B := B) (r := r) (er := er) HM.out Z10).mono ?_; rintro e w1 ⟨A1, c1, A2, c2, rfl, hs1, hs2, hb⟩; have n_ := Aside0.mk (Env.cons (Env.cons (Env.below Xe hb) (hs1)) (hs2)); have nb_ := Aside0.mk (below_step (w := w) Xb hb); have hz1 := hb.size; (try simp at hz1); clear HE HB; have HE := n_; have HB := nb_; clear n_ nb_; have HR := Aside0.mk (Vr.below (g := w.heap.size) Z5 hb); obtain ⟨hc_HR, hf_HR, hl_HR⟩ := Vr.q3 HR.out; clear hb; have hq_ : w.heap.size ≠ w1.heap.size ∧ w1.heap.size ≠ w.heap.size ∧ w.heap.size < w1.heap.size ∧ w.heap.size ≤ w1.heap.size ∧ w.heap.size ≠ w1.heap.size + 1 ∧ w1.heap.size + 1 ≠ w.heap.size ∧ w.heap.size < w1.heap.size + 1 ∧ w.heap.size ≤ w1.heap.size + 1 := by omega))
  all_goals
    refine bodyPost_ret (results_single rfl (vals_vr Xv rfl Try.underlying27 rfl Z6 .nil)) rfl ?_
    exact ⟨_, _, _, _, rfl, Xf, Xf, Xb⟩
theorem sem_end {w : World} : Calls Try.prog 35 #[] w fun e w' => e = .returned (.agg #[.int .i64 900, .int .i64 600, .int .i64 500]) ∧ Below w.heap.size w w' := by
  have HB := Aside0.mk (Below.refl w.heap.size w)
  go_enter Try.func35, Try.ntmps35
  go_wp2_with (fail)
  all_goals
    refine bodyPost_ret (results_single rfl (vals_vr Xv rfl Try.underlying23 rfl Z6 .nil)) rfl ?_
    exact ⟨rfl, Xb⟩
end Go.Proofs.Ytbjamhkhocjdkaa.Px
