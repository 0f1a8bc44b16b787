/- One step on the way to the rows: contracts of the program's functions, each for every argument that its statement names. -/
import Derived.Test.YtbjamhkhocjdkaaDu
import Derived.Outline
import Derived.Deep.RegionHeld3
namespace Go.Proofs.Ytbjamhkhocjdkaa.Px
open Go.RowKit Go.Proofs.YtbjamhkhocjdkaaW.PrintWords Go.Proofs.YtbjamhkhocjdkaaW.PrintLast Go.Proofs.YtbjamhkhocjdkaaW.PrintMore Go.Proofs.Ytbjamhkhocjdkaa.Mat
set_option linter.unusedVariables false
set_option linter.unusedSimpArgs false
set_option maxHeartbeats 1000000 in
theorem sem_of {x : Rt} {v : Value} {w : World} {B : Nat} (n : Int) (hB : B ≤ w.heap.size) (h : RaF B w v x) : Calls Try.prog 54 #[v, .int .i64 n] w (GiveV B w (timesR x n 1000)) := by
  unfold timesR
  obtain ⟨A8, c8, A9, c9, rfl, h1, h2⟩ := h
  obtain ⟨r1, e1, hm⟩ : ∃ r e, makeS n 1000 = (r, e) := ⟨_, _, rfl⟩
  obtain ⟨r2, e2, hu⟩ : ∃ r e, mulR x r1 = (r, e) := ⟨_, _, rfl⟩
  rw [hm, hu]
  have H1 := Aside0.mk hm
  have H2 := Aside0.mk hu
  simp only
  have HE := Aside0.mk (((Env.nil B w).cons h2).cons h1)
  have HB := Aside0.mk (Below.refl w.heap.size w)
  clear h1 h2 hm hu
  go_enter Try.func54, Try.ntmps54
  go_wp2_with (first | (go_at_call 27; refine (q_rMake (B := B) (r := r1) (er := e1) H1.out Z10).mono ?_; rintro e w1 ⟨A1, c1, D1, d1, rfl, hs1, hs2, hb⟩; have n_ := Aside0.mk (Env.cons (Env.cons (Env.below Xe hb) (hs1)) (hs2)); have nb_ := Aside0.mk (below_step (w := w) Xb hb); have hz1 := hb.size; (try simp at hz1); clear HE HB; have HE := n_; have HB := nb_; clear n_ nb_; have HX := Aside0.mk (Vr.below (g := w.heap.size) Z5 hb); have HR := Aside0.mk (Vr.below (g := w.heap.size + 1) Z5 hb); obtain ⟨hc_HX, hf_HX, hl_HX⟩ := Vr.q3 HX.out; obtain ⟨hc_HR, hf_HR, hl_HR⟩ := Vr.q3 HR.out; clear hb) | (go_at_call 29; refine (q_rMul (B := B) (x := x) (y := r1) (r := r2) (er := e2) H2.out Z10 ?_ ?_).mono ?_; exact ⟨_, _, _, _, rfl, Xf, Xf⟩; exact ⟨_, _, _, _, rfl, Xf, Xf⟩; rintro e w2 ⟨A2, c2, D2, d2, rfl, hs1, hs2, hb⟩; have n_ := Aside0.mk (Env.cons (Env.cons (Env.below Xe hb) (hs1)) (hs2)); have nb_ := Aside0.mk (below_step (w := w) Xb hb); have hz2 := hb.size; (try simp at hz2); clear HE HB; have HE := n_; have HB := nb_; clear n_ nb_; replace HX := Aside0.mk (Vr.below (g := w.heap.size) Z5 hb); replace HR := Aside0.mk (Vr.below (g := w.heap.size + 1) Z5 hb); have HT := Aside0.mk (Vr.below (g := w1.heap.size) (cs := #[.bool r1.neg, .slice A1 r1.p.length c1, .slice D1 r1.q.length d1]) Z3 hb); (try clear hc_HX hf_HX hl_HX); (try clear hc_HR hf_HR hl_HR); obtain ⟨hc_HX, hf_HX, hl_HX⟩ := Vr.q3 HX.out; obtain ⟨hc_HR, hf_HR, hl_HR⟩ := Vr.q3 HR.out; obtain ⟨hc_HT, hf_HT, hl_HT⟩ := Vr.q3 HT.out; clear hb))
  all_goals
    refine bodyPost_ret (results_single rfl (vals_vr Xv rfl Try.underlying27 rfl Z6 .nil)) rfl ?_
    exact ⟨_, _, _, _, rfl, Xf, Xf, Xb⟩
set_option maxHeartbeats 4000000 in
set_option maxRecDepth 100000 in
theorem sem_step (f r c : Int) {x pp sw wh : Rt} {v : Value} {w : World} {B : Nat} (hd0 : doneR f r c x = (pp, sw, wh)) (hB : B ≤ w.heap.size) (h : RaF B w v x) : Calls Try.prog 38 #[.agg #[.int .i64 f, .int .i64 r, .int .i64 c], v] w (GiveT B w pp sw wh) := by
  obtain ⟨A8, c8, A9, c9, rfl, h1, h2⟩ := h
  unfold doneR at hd0
  obtain ⟨r1, e1, g1⟩ : ∃ r e, makeS f 1 = (r, e) := ⟨_, _, rfl⟩
  simp only [g1] at hd0
  obtain ⟨hd, e2, g2⟩ : ∃ r e, addR r1 x = (r, e) := ⟨_, _, rfl⟩
  simp only [g2] at hd0
  obtain ⟨pq, g3⟩ : ∃ z, timesR hd r 1000 = z := ⟨_, rfl⟩
  simp only [g3] at hd0
  obtain ⟨rs, e3, g4⟩ : ∃ r e, subR hd pq = (r, e) := ⟨_, _, rfl⟩
  simp only [g4] at hd0
  obtain ⟨wq, g5⟩ : ∃ z, timesR rs c 1000 = z := ⟨_, rfl⟩
  simp only [g5] at hd0
  obtain ⟨sq, e4, g6⟩ : ∃ r e, subR rs wq = (r, e) := ⟨_, _, rfl⟩
  simp only [g6] at hd0
  injection hd0 with i1 i2
  injection i2 with i2 i3
  subst i1 i2 i3
  have H1 := Aside0.mk g1
  have H2 := Aside0.mk g2
  have H3 := Aside0.mk g3
  have H4 := Aside0.mk g4
  have H5 := Aside0.mk g5
  have H6 := Aside0.mk g6
  have HE := Aside0.mk (((Env.nil B w).cons h2).cons h1)
  have HB := Aside0.mk (Below.refl w.heap.size w)
  clear h1 h2 g1 g2 g3 g4 g5 g6
  go_enter Try.func38, Try.ntmps38
  go_wp2_with (first | (go_at_call 33; refine (q_rOf (B := B) (r := r1) (er := e1) H1.out Z10).mono ?_; rintro e w1 ⟨A1, c1, D1, d1, rfl, hs1, hs2, hb⟩; have n_ := Aside0.mk (Env.cons (Env.cons (Env.below Xe hb) (hs1)) (hs2)); have nb_ := Aside0.mk (below_step (w := w) Xb hb); have hz1 := hb.size; (try simp at hz1); clear HE HB; have HE := n_; have HB := nb_; clear n_ nb_; have HW := Aside0.mk (Vr.below (g := w.heap.size) Z5 hb); have HX := Aside0.mk (Vr.below (g := w.heap.size + 1) Z5 hb); have HP := Aside0.mk (Vr.below (g := w.heap.size + 1 + 1) Z5 hb); have HSW := Aside0.mk (Vr.below (g := w.heap.size + 1 + 1 + 1) Z5 hb); have HWH := Aside0.mk (Vr.below (g := w.heap.size + 1 + 1 + 1 + 1) Z5 hb); obtain ⟨hc_HW, hf_HW, hl_HW⟩ := Vr.q3 HW.out; obtain ⟨hc_HX, hf_HX, hl_HX⟩ := Vr.q3 HX.out; obtain ⟨hc_HP, hf_HP, hl_HP⟩ := Vr.q3 HP.out; obtain ⟨hc_HSW, hf_HSW, hl_HSW⟩ := Vr.q3 HSW.out; obtain ⟨hc_HWH, hf_HWH, hl_HWH⟩ := Vr.q3 HWH.out; clear hb) | (go_at_call 25; refine (q_rAdd (B := B) (x := r1) (y := x) (r := hd) (er := e2) H2.out Z10 ?_ ?_).mono ?_; exact ⟨_, _, _, _, rfl, Xf, Xf⟩; exact ⟨_, _, _, _, rfl, Xf, Xf⟩; rintro e w2 ⟨A2, c2, D2, d2, rfl, hs1, hs2, hb⟩; have n_ := Aside0.mk (Env.cons (Env.cons (Env.below Xe hb) (hs1)) (hs2)); have nb_ := Aside0.mk (below_step (w := w) Xb hb); have hz2 := hb.size; (try simp at hz2); clear HE HB; have HE := n_; have HB := nb_; clear n_ nb_; replace HW := Aside0.mk (Vr.below (g := w.heap.size) Z5 hb); replace HX := Aside0.mk (Vr.below (g := w.heap.size + 1) Z5 hb); replace HP := Aside0.mk (Vr.below (g := w.heap.size + 1 + 1) Z5 hb); replace HSW := Aside0.mk (Vr.below (g := w.heap.size + 1 + 1 + 1) Z5 hb); replace HWH := Aside0.mk (Vr.below (g := w.heap.size + 1 + 1 + 1 + 1) Z5 hb); have T1 := Aside0.mk (Vr.below (g := w1.heap.size) (cs := #[.bool r1.neg, .slice A1 r1.p.length c1, .slice D1 r1.q.length d1]) Z3 hb); (try clear hc_HW hf_HW hl_HW); (try clear hc_HX hf_HX hl_HX); (try clear hc_HP hf_HP hl_HP); (try clear hc_HSW hf_HSW hl_HSW); (try clear hc_HWH hf_HWH hl_HWH); obtain ⟨hc_HW, hf_HW, hl_HW⟩ := Vr.q3 HW.out; obtain ⟨hc_HX, hf_HX, hl_HX⟩ := Vr.q3 HX.out; obtain ⟨hc_HP, hf_HP, hl_HP⟩ := Vr.q3 HP.out; obtain ⟨hc_HSW, hf_HSW, hl_HSW⟩ := Vr.q3 HSW.out; obtain ⟨hc_HWH, hf_HWH, hl_HWH⟩ := Vr.q3 HWH.out; obtain ⟨hc_T1, hf_T1, hl_T1⟩ := Vr.q3 T1.out; clear hb) | (have q4_ := hz4; clear q4_; go_at_call 54; refine (sem_of (B := B) (x := rs) c Z10 ?_).mono ?_; exact ⟨_, _, _, _, rfl, Xf, Xf⟩; rw [H5.out]; rintro e w5 ⟨A5, c5, D5, d5, rfl, hs1, hs2, hb⟩; have n_ := Aside0.mk (Env.cons (Env.cons (Env.below Xe hb) (hs1)) (hs2)); have nb_ := Aside0.mk (below_step (w := w) Xb hb); have hz5 := hb.size; (try simp at hz5); clear HE HB; have HE := n_; have HB := nb_; clear n_ nb_; replace HW := Aside0.mk (Vr.below (g := w.heap.size) Z5 hb); replace HX := Aside0.mk (Vr.below (g := w.heap.size + 1) Z5 hb); replace HP := Aside0.mk (Vr.below (g := w.heap.size + 1 + 1) Z5 hb); replace HSW := Aside0.mk (Vr.below (g := w.heap.size + 1 + 1 + 1) Z5 hb); replace HWH := Aside0.mk (Vr.below (g := w.heap.size + 1 + 1 + 1 + 1) Z5 hb); replace T1 := Aside0.mk (Vr.below (g := w1.heap.size) (cs := #[.bool r1.neg, .slice A1 r1.p.length c1, .slice D1 r1.q.length d1]) Z3 hb); replace T2 := Aside0.mk (Vr.below (g := w2.heap.size) (cs := #[.bool hd.neg, .slice A2 hd.p.length c2, .slice D2 hd.q.length d2]) Z3 hb); replace T3 := Aside0.mk (Vr.below (g := w3.heap.size) (cs := #[.bool pq.neg, .slice A3 pq.p.length c3, .slice D3 pq.q.length d3]) Z3 hb); have T4 := Aside0.mk (Vr.below (g := w4.heap.size) (cs := #[.bool rs.neg, .slice A4 rs.p.length c4, .slice D4 rs.q.length d4]) Z3 hb); (try clear hc_HW hf_HW hl_HW); (try clear hc_HX hf_HX hl_HX); (try clear hc_HP hf_HP hl_HP); (try clear hc_HSW hf_HSW hl_HSW); (try clear hc_HWH hf_HWH hl_HWH); (try clear hc_T1 hf_T1 hl_T1); (try clear hc_T2 hf_T2 hl_T2); (try clear hc_T3 hf_T3 hl_T3); obtain ⟨hc_HW, hf_HW, hl_HW⟩ := Vr.q3 HW.out; obtain ⟨hc_HX, hf_HX, hl_HX⟩ := Vr.q3 HX.out; obtain ⟨hc_HP, hf_HP, hl_HP⟩ := Vr.q3 HP.out; obtain ⟨hc_HSW, hf_HSW, hl_HSW⟩ := Vr.q3 HSW.out; obtain ⟨hc_HWH, hf_HWH, hl_HWH⟩ := Vr.q3 HWH.out; obtain ⟨hc_T1, hf_T1, hl_T1⟩ := Vr.q3 T1.out; obtain ⟨hc_T2, hf_T2, hl_T2⟩ := Vr.q3 T2.out; obtain ⟨hc_T3, hf_T3, hl_T3⟩ := Vr.q3 T3.out; obtain ⟨hc_T4, hf_T4, hl_T4⟩ := Vr.q3 T4.out; clear hb) | (go_at_call 54; refine (sem_of (B := B) (x := hd) r Z10 ?_).mono ?_; exact ⟨_, _, _, _, rfl, Xf, Xf⟩; rw [H3.out]; rintro e w3 ⟨A3, c3, D3, d3, rfl, hs1, hs2, hb⟩; have n_ := Aside0.mk (Env.cons (Env.cons (Env.below Xe hb) (hs1)) (hs2)); have nb_ := Aside0.mk (below_step (w := w) Xb hb); have hz3 := hb.size; (try simp at hz3); clear HE HB; have HE := n_; have HB := nb_; clear n_ nb_; replace HW := Aside0.mk (Vr.below (g := w.heap.size) Z5 hb); replace HX := Aside0.mk (Vr.below (g := w.heap.size + 1) Z5 hb); replace HP := Aside0.mk (Vr.below (g := w.heap.size + 1 + 1) Z5 hb); replace HSW := Aside0.mk (Vr.below (g := w.heap.size + 1 + 1 + 1) Z5 hb); replace HWH := Aside0.mk (Vr.below (g := w.heap.size + 1 + 1 + 1 + 1) Z5 hb); replace T1 := Aside0.mk (Vr.below (g := w1.heap.size) (cs := #[.bool r1.neg, .slice A1 r1.p.length c1, .slice D1 r1.q.length d1]) Z3 hb); have T2 := Aside0.mk (Vr.below (g := w2.heap.size) (cs := #[.bool hd.neg, .slice A2 hd.p.length c2, .slice D2 hd.q.length d2]) Z3 hb); (try clear hc_HW hf_HW hl_HW); (try clear hc_HX hf_HX hl_HX); (try clear hc_HP hf_HP hl_HP); (try clear hc_HSW hf_HSW hl_HSW); (try clear hc_HWH hf_HWH hl_HWH); (try clear hc_T1 hf_T1 hl_T1); obtain ⟨hc_HW, hf_HW, hl_HW⟩ := Vr.q3 HW.out; obtain ⟨hc_HX, hf_HX, hl_HX⟩ := Vr.q3 HX.out; obtain ⟨hc_HP, hf_HP, hl_HP⟩ := Vr.q3 HP.out; obtain ⟨hc_HSW, hf_HSW, hl_HSW⟩ := Vr.q3 HSW.out; obtain ⟨hc_HWH, hf_HWH, hl_HWH⟩ := Vr.q3 HWH.out; obtain ⟨hc_T1, hf_T1, hl_T1⟩ := Vr.q3 T1.out; obtain ⟨hc_T2, hf_T2, hl_T2⟩ := Vr.q3 T2.out; clear hb) | (have q5_ := hz5; clear q5_; go_at_call 28; refine (q_rSub (B := B) (x := rs) (y := wq) (r := sq) (er := e4) H6.out Z10 ?_ ?_).mono ?_; exact ⟨_, _, _, _, rfl, Xf, Xf⟩; exact ⟨_, _, _, _, rfl, Xf, Xf⟩; rintro e w6 ⟨A6, c6, D6, d6, rfl, hs1, hs2, hb⟩; have n_ := Aside0.mk (Env.cons (Env.cons (Env.below Xe hb) (hs1)) (hs2)); have nb_ := Aside0.mk (below_step (w := w) Xb hb); have hz6 := hb.size; (try simp at hz6); clear HE HB; have HE := n_; have HB := nb_; clear n_ nb_; replace HW := Aside0.mk (Vr.below (g := w.heap.size) Z5 hb); replace HX := Aside0.mk (Vr.below (g := w.heap.size + 1) Z5 hb); replace HP := Aside0.mk (Vr.below (g := w.heap.size + 1 + 1) Z5 hb); replace HSW := Aside0.mk (Vr.below (g := w.heap.size + 1 + 1 + 1) Z5 hb); replace HWH := Aside0.mk (Vr.below (g := w.heap.size + 1 + 1 + 1 + 1) Z5 hb); replace T1 := Aside0.mk (Vr.below (g := w1.heap.size) (cs := #[.bool r1.neg, .slice A1 r1.p.length c1, .slice D1 r1.q.length d1]) Z3 hb); replace T2 := Aside0.mk (Vr.below (g := w2.heap.size) (cs := #[.bool hd.neg, .slice A2 hd.p.length c2, .slice D2 hd.q.length d2]) Z3 hb); replace T3 := Aside0.mk (Vr.below (g := w3.heap.size) (cs := #[.bool pq.neg, .slice A3 pq.p.length c3, .slice D3 pq.q.length d3]) Z3 hb); replace T4 := Aside0.mk (Vr.below (g := w4.heap.size) (cs := #[.bool rs.neg, .slice A4 rs.p.length c4, .slice D4 rs.q.length d4]) Z3 hb); have T5 := Aside0.mk (Vr.below (g := w5.heap.size) (cs := #[.bool wq.neg, .slice A5 wq.p.length c5, .slice D5 wq.q.length d5]) Z3 hb); (try clear hc_HW hf_HW hl_HW); (try clear hc_HX hf_HX hl_HX); (try clear hc_HP hf_HP hl_HP); (try clear hc_HSW hf_HSW hl_HSW); (try clear hc_HWH hf_HWH hl_HWH); (try clear hc_T1 hf_T1 hl_T1); (try clear hc_T2 hf_T2 hl_T2); (try clear hc_T3 hf_T3 hl_T3); (try clear hc_T4 hf_T4 hl_T4); obtain ⟨hc_HW, hf_HW, hl_HW⟩ := Vr.q3 HW.out; obtain ⟨hc_HX, hf_HX, hl_HX⟩ := Vr.q3 HX.out; obtain ⟨hc_HP, hf_HP, hl_HP⟩ := Vr.q3 HP.out; obtain ⟨hc_HSW, hf_HSW, hl_HSW⟩ := Vr.q3 HSW.out; obtain ⟨hc_HWH, hf_HWH, hl_HWH⟩ := Vr.q3 HWH.out; obtain ⟨hc_T1, hf_T1, hl_T1⟩ := Vr.q3 T1.out; obtain ⟨hc_T2, hf_T2, hl_T2⟩ := Vr.q3 T2.out; obtain ⟨hc_T3, hf_T3, hl_T3⟩ := Vr.q3 T3.out; obtain ⟨hc_T4, hf_T4, hl_T4⟩ := Vr.q3 T4.out; obtain ⟨hc_T5, hf_T5, hl_T5⟩ := Vr.q3 T5.out; clear hb) | (go_at_call 28; refine (q_rSub (B := B) (x := hd) (y := pq) (r := rs) (er := e3) H4.out Z10 ?_ ?_).mono ?_; exact ⟨_, _, _, _, rfl, Xf, Xf⟩; exact ⟨_, _, _, _, rfl, Xf, Xf⟩; rintro e w4 ⟨A4, c4, D4, d4, rfl, hs1, hs2, hb⟩; have n_ := Aside0.mk (Env.cons (Env.cons (Env.below Xe hb) (hs1)) (hs2)); have nb_ := Aside0.mk (below_step (w := w) Xb hb); have hz4 := hb.size; (try simp at hz4); clear HE HB; have HE := n_; have HB := nb_; clear n_ nb_; replace HW := Aside0.mk (Vr.below (g := w.heap.size) Z5 hb); replace HX := Aside0.mk (Vr.below (g := w.heap.size + 1) Z5 hb); replace HP := Aside0.mk (Vr.below (g := w.heap.size + 1 + 1) Z5 hb); replace HSW := Aside0.mk (Vr.below (g := w.heap.size + 1 + 1 + 1) Z5 hb); replace HWH := Aside0.mk (Vr.below (g := w.heap.size + 1 + 1 + 1 + 1) Z5 hb); replace T1 := Aside0.mk (Vr.below (g := w1.heap.size) (cs := #[.bool r1.neg, .slice A1 r1.p.length c1, .slice D1 r1.q.length d1]) Z3 hb); replace T2 := Aside0.mk (Vr.below (g := w2.heap.size) (cs := #[.bool hd.neg, .slice A2 hd.p.length c2, .slice D2 hd.q.length d2]) Z3 hb); have T3 := Aside0.mk (Vr.below (g := w3.heap.size) (cs := #[.bool pq.neg, .slice A3 pq.p.length c3, .slice D3 pq.q.length d3]) Z3 hb); (try clear hc_HW hf_HW hl_HW); (try clear hc_HX hf_HX hl_HX); (try clear hc_HP hf_HP hl_HP); (try clear hc_HSW hf_HSW hl_HSW); (try clear hc_HWH hf_HWH hl_HWH); (try clear hc_T1 hf_T1 hl_T1); (try clear hc_T2 hf_T2 hl_T2); obtain ⟨hc_HW, hf_HW, hl_HW⟩ := Vr.q3 HW.out; obtain ⟨hc_HX, hf_HX, hl_HX⟩ := Vr.q3 HX.out; obtain ⟨hc_HP, hf_HP, hl_HP⟩ := Vr.q3 HP.out; obtain ⟨hc_HSW, hf_HSW, hl_HSW⟩ := Vr.q3 HSW.out; obtain ⟨hc_HWH, hf_HWH, hl_HWH⟩ := Vr.q3 HWH.out; obtain ⟨hc_T1, hf_T1, hl_T1⟩ := Vr.q3 T1.out; obtain ⟨hc_T2, hf_T2, hl_T2⟩ := Vr.q3 T2.out; obtain ⟨hc_T3, hf_T3, hl_T3⟩ := Vr.q3 T3.out; clear hb))
  go_region_held3 (fun w' => w'.cell? ⟨w3.heap.size, 0, none⟩ = some (.bool pq.neg) ∧ w'.cell? ⟨w3.heap.size, 1, none⟩ = some (.slice A3 pq.p.length c3) ∧ w'.cell? ⟨w3.heap.size, 2, none⟩ = some (.slice D3 pq.q.length d3) ∧ w'.cell? ⟨w6.heap.size, 0, none⟩ = some (.bool sq.neg) ∧ w'.cell? ⟨w6.heap.size, 1, none⟩ = some (.slice A6 sq.p.length c6) ∧ w'.cell? ⟨w6.heap.size, 2, none⟩ = some (.slice D6 sq.q.length d6) ∧ w'.cell? ⟨w5.heap.size, 0, none⟩ = some (.bool wq.neg) ∧ w'.cell? ⟨w5.heap.size, 1, none⟩ = some (.slice A5 wq.p.length c5) ∧ w'.cell? ⟨w5.heap.size, 2, none⟩ = some (.slice D5 wq.q.length d5)) ((repeat' apply And.intro) <;> (apply Vr.at; exact Xv; rfl)) (fail)
  all_goals
    (try go_wp2_with (fail))
    refine bodyPost_ret (results_list (rs := [.cell 4 27, .cell 5 27, .cell 6 27]) rfl (by simp) (vals_vr Xv rfl Try.underlying27 rfl Z6 (vals_vr Xv rfl Try.underlying27 rfl Z6 (vals_vr Xv rfl Try.underlying27 rfl Z6 .nil)))) rfl ?_
    exact ⟨_, _, _, _, _, _, _, _, _, _, _, _, rfl, Xf, Xf, Xf, Xf, Xf, Xf, Xb⟩
set_option maxHeartbeats 400000 in
theorem white_a {x : Rt} {v : Value} {w : World} {B : Nat} (hv : rvB x = false) (h : RaF B w v x) : Calls Try.prog 24 #[v] w fun e w' => e = .returned (.int .i64 3) ∧ Below w.heap.size w w' := by
  obtain ⟨A1, c1, A2, c2, rfl, h1, h2⟩ := h
  obtain ⟨ng, p, q⟩ := x
  simp only at *
  have HV := Aside0.mk hv
  clear hv
  have HE := Aside0.mk (((Env.nil B w).cons h2).cons h1)
  have HB := Aside0.mk (Below.refl w.heap.size w)
  clear h1 h2
  go_enter Try.func24, Try.ntmps24
  go_wp2_with (first | (go_at_call 23; refine (sem_rValid (B := B) (x := ⟨ng, p, q⟩) ?_).mono ?_; exact ⟨_, _, _, _, rfl, Xf, Xf⟩; rw [HV.out]; rintro e w1 ⟨rfl, hb⟩; have n_ := Aside0.mk (Env.below Xe hb); have nb_ := Aside0.mk (below_step (w := w) Xb hb); have hz1 := hb.size; (try simp at hz1); clear HE HB; have HE := n_; have HB := nb_; clear n_ nb_; have HX := Aside0.mk (Vr.below (g := w.heap.size) Z5 hb); obtain ⟨hc_HX, hf_HX, hl_HX⟩ := Vr.q3 HX.out; clear hb))
  all_goals
    go_ret
    exact ⟨rfl, Xb⟩
set_option maxHeartbeats 400000 in
theorem white_b {x : Rt} {v : Value} {w : World} {B : Nat} (hv : rvB x = true) (hn : x.neg = true) (h : RaF B w v x) : Calls Try.prog 24 #[v] w fun e w' => e = .returned (.int .i64 1) ∧ Below w.heap.size w w' := by
  obtain ⟨A1, c1, A2, c2, rfl, h1, h2⟩ := h
  obtain ⟨ng, p, q⟩ := x
  simp only at *
  subst hn
  have HV := Aside0.mk hv
  clear hv
  have HE := Aside0.mk (((Env.nil B w).cons h2).cons h1)
  have HB := Aside0.mk (Below.refl w.heap.size w)
  clear h1 h2
  go_enter Try.func24, Try.ntmps24
  go_wp2_with (first | (go_at_call 23; refine (sem_rValid (B := B) (x := ⟨true, p, q⟩) ?_).mono ?_; exact ⟨_, _, _, _, rfl, Xf, Xf⟩; rw [HV.out]; rintro e w1 ⟨rfl, hb⟩; have n_ := Aside0.mk (Env.below Xe hb); have nb_ := Aside0.mk (below_step (w := w) Xb hb); have hz1 := hb.size; (try simp at hz1); clear HE HB; have HE := n_; have HB := nb_; clear n_ nb_; have HX := Aside0.mk (Vr.below (g := w.heap.size) Z5 hb); obtain ⟨hc_HX, hf_HX, hl_HX⟩ := Vr.q3 HX.out; clear hb))
  all_goals
    go_ret
    exact ⟨rfl, Xb⟩
set_option maxHeartbeats 400000 in
theorem white_c {x : Rt} {v : Value} {w : World} {B : Nat} (hv : rvB x = true) (hn : x.neg = false) (hl : 8 < x.p.length) (h : RaF B w v x) : Calls Try.prog 24 #[v] w fun e w' => e = .returned (.int .i64 32) ∧ Below w.heap.size w w' := by
  obtain ⟨A1, c1, A2, c2, rfl, h1, h2⟩ := h
  obtain ⟨ng, p, q⟩ := x
  simp only at *
  subst hn
  have hl' : 8 < (p.length : Int) := by omega
  have HV := Aside0.mk hv
  clear hv
  have HE := Aside0.mk (((Env.nil B w).cons h2).cons h1)
  have HB := Aside0.mk (Below.refl w.heap.size w)
  clear h1 h2
  go_enter Try.func24, Try.ntmps24
  go_wp2_with (first | (go_at_call 23; refine (sem_rValid (B := B) (x := ⟨false, p, q⟩) ?_).mono ?_; exact ⟨_, _, _, _, rfl, Xf, Xf⟩; rw [HV.out]; rintro e w1 ⟨rfl, hb⟩; have n_ := Aside0.mk (Env.below Xe hb); have nb_ := Aside0.mk (below_step (w := w) Xb hb); have hz1 := hb.size; (try simp at hz1); clear HE HB; have HE := n_; have HB := nb_; clear n_ nb_; have HX := Aside0.mk (Vr.below (g := w.heap.size) Z5 hb); obtain ⟨hc_HX, hf_HX, hl_HX⟩ := Vr.q3 HX.out; clear hb))
  all_goals
    go_ret
    exact ⟨rfl, Xb⟩
set_option maxHeartbeats 400000 in
theorem white_d {x : Rt} {v : Value} {w : World} {B : Nat} (hv : rvB x = true) (hn : x.neg = false) (hl0 : ¬ 8 < x.p.length) (hl : 8 < x.q.length) (h : RaF B w v x) : Calls Try.prog 24 #[v] w fun e w' => e = .returned (.int .i64 32) ∧ Below w.heap.size w w' := by
  obtain ⟨A1, c1, A2, c2, rfl, h1, h2⟩ := h
  obtain ⟨ng, p, q⟩ := x
  simp only at *
  subst hn
  have hl0' : ¬ 8 < (p.length : Int) := by omega
  have hl' : 8 < (q.length : Int) := by omega
  have HV := Aside0.mk hv
  clear hv
  have HE := Aside0.mk (((Env.nil B w).cons h2).cons h1)
  have HB := Aside0.mk (Below.refl w.heap.size w)
  clear h1 h2
  go_enter Try.func24, Try.ntmps24
  go_wp2_with (first | (go_at_call 23; refine (sem_rValid (B := B) (x := ⟨false, p, q⟩) ?_).mono ?_; exact ⟨_, _, _, _, rfl, Xf, Xf⟩; rw [HV.out]; rintro e w1 ⟨rfl, hb⟩; have n_ := Aside0.mk (Env.below Xe hb); have nb_ := Aside0.mk (below_step (w := w) Xb hb); have hz1 := hb.size; (try simp at hz1); clear HE HB; have HE := n_; have HB := nb_; clear n_ nb_; have HX := Aside0.mk (Vr.below (g := w.heap.size) Z5 hb); obtain ⟨hc_HX, hf_HX, hl_HX⟩ := Vr.q3 HX.out; clear hb))
  all_goals
    go_ret
    exact ⟨rfl, Xb⟩
set_option maxHeartbeats 400000 in
theorem white_e {x : Rt} {v : Value} {w : World} {B : Nat} (hv : rvB x = true) (hn : x.neg = false) (hl0 : ¬ 8 < x.p.length) (hl : ¬ 8 < x.q.length) (h : RaF B w v x) : Calls Try.prog 24 #[v] w fun e w' => e = .returned (.int .i64 0) ∧ Below w.heap.size w w' := by
  obtain ⟨A1, c1, A2, c2, rfl, h1, h2⟩ := h
  obtain ⟨ng, p, q⟩ := x
  simp only at *
  subst hn
  have hl0' : ¬ 8 < (p.length : Int) := by omega
  have hl' : ¬ 8 < (q.length : Int) := by omega
  have HV := Aside0.mk hv
  clear hv
  have HE := Aside0.mk (((Env.nil B w).cons h2).cons h1)
  have HB := Aside0.mk (Below.refl w.heap.size w)
  clear h1 h2
  go_enter Try.func24, Try.ntmps24
  go_wp2_with (first | (go_at_call 23; refine (sem_rValid (B := B) (x := ⟨false, p, q⟩) ?_).mono ?_; exact ⟨_, _, _, _, rfl, Xf, Xf⟩; rw [HV.out]; rintro e w1 ⟨rfl, hb⟩; have n_ := Aside0.mk (Env.below Xe hb); have nb_ := Aside0.mk (below_step (w := w) Xb hb); have hz1 := hb.size; (try simp at hz1); clear HE HB; have HE := n_; have HB := nb_; clear n_ nb_; have HX := Aside0.mk (Vr.below (g := w.heap.size) Z5 hb); obtain ⟨hc_HX, hf_HX, hl_HX⟩ := Vr.q3 HX.out; clear hb))
  all_goals
    go_ret
    exact ⟨rfl, Xb⟩
theorem sem_White {x : Rt} {v : Value} {w : World} {B : Nat} (h : RaF B w v x) : Calls Try.prog 24 #[v] w fun e w' => e = .returned (.int .i64 (whiteS x)) ∧ Below w.heap.size w w' := by
  unfold whiteS
  by_cases hv : rvB x = true
  · rw [if_pos hv]
    by_cases hn : x.neg = true
    · rw [if_pos hn]
      exact white_b hv hn h
    · rw [if_neg hn]
      have hn' : x.neg = false := by simpa using hn
      by_cases h0 : 8 < x.p.length
      · rw [if_pos (.inl h0)]
        exact white_c hv hn' h0 h
      · by_cases h1 : 8 < x.q.length
        · rw [if_pos (.inr h1)]
          exact white_d hv hn' h0 h1 h
        · rw [if_neg (fun h => h.elim h0 h1)]
          exact white_e hv hn' h0 h1 h
  · rw [if_neg hv]
    exact white_a (by simpa using hv) h
set_option maxHeartbeats 4000000 in
set_option maxRecDepth 100000 in
theorem rStep_a {f r c : Int} {x : Rt} {v : Value} {w : World} {B : Nat} {er : Int} (hc : checkS f r c = er) (he : ¬ er = 0) (hB : B ≤ w.heap.size) (h : RaF B w v x) : Calls Try.prog 18 #[.agg #[.int .i64 f, .int .i64 r, .int .i64 c], v] w (GiveQ3 B w zR zR zR er) := by
  obtain ⟨A1, c1, A2, c2, rfl, h1, h2⟩ := h
  have HE := Aside0.mk (((Env.nil B w).cons h2).cons h1)
  have HB := Aside0.mk (Below.refl w.heap.size w)
  have HC := Aside0.mk hc
  have he' : (er == 0) = false := beq_false_of_ne he
  clear hc
  clear h1 h2
  go_enter Try.func18, Try.ntmps18
  go_wp2_with (first | (go_at_call 13; refine (sem_rCheck f r c).mono ?_; rw [HC.out]; rintro e w1 ⟨rfl, hb⟩; have n_ := Aside0.mk (Env.below Xe hb); have nb_ := Aside0.mk (below_step (w := w) Xb hb); have hz1 := hb.size; (try simp at hz1); clear HE HB; have HE := n_; have HB := nb_; clear n_ nb_; have HW := Aside0.mk (Vr.below (g := w.heap.size) Z5 hb); have HX := Aside0.mk (Vr.below (g := w.heap.size + 1) Z5 hb); have HP := Aside0.mk (Vr.below (g := w.heap.size + 1 + 1) Z5 hb); have HQ := Aside0.mk (Vr.below (g := w.heap.size + 1 + 1 + 1) Z5 hb); have HR := Aside0.mk (Vr.below (g := w.heap.size + 1 + 1 + 1 + 1) Z5 hb); obtain ⟨hc_HW, hf_HW, hl_HW⟩ := Vr.q3 HW.out; obtain ⟨hc_HX, hf_HX, hl_HX⟩ := Vr.q3 HX.out; obtain ⟨hc_HP, hf_HP, hl_HP⟩ := Vr.q3 HP.out; obtain ⟨hc_HQ, hf_HQ, hl_HQ⟩ := Vr.q3 HQ.out; obtain ⟨hc_HR, hf_HR, hl_HR⟩ := Vr.q3 HR.out; clear hb))
  all_goals
    (try go_wp2_with (fail))
    refine bodyPost_ret (results_list (rs := [.cell 4 27, .cell 5 27, .cell 6 27, .tmp 7]) rfl (by simp) (vals_vr Xv rfl Try.underlying27 rfl Z6 (vals_vr Xv rfl Try.underlying27 rfl Z6 (vals_vr Xv rfl Try.underlying27 rfl Z6 (.tmp .nil))))) rfl ?_
    exact ⟨_, _, _, _, _, _, _, _, _, _, _, _, rfl, Xf, Xf, Xf, Xf, Xf, Xf, Xb⟩
set_option maxHeartbeats 4000000 in
set_option maxRecDepth 100000 in
theorem rStep_b {f r c : Int} {x : Rt} {v : Value} {w : World} {B : Nat} {er : Int} (hc : checkS f r c = 0) (hw : whiteS x = er) (he : ¬ er = 0) (hB : B ≤ w.heap.size) (h : RaF B w v x) : Calls Try.prog 18 #[.agg #[.int .i64 f, .int .i64 r, .int .i64 c], v] w (GiveQ3 B w zR zR zR er) := by
  obtain ⟨A1, c1, A2, c2, rfl, h1, h2⟩ := h
  have HE := Aside0.mk (((Env.nil B w).cons h2).cons h1)
  have HB := Aside0.mk (Below.refl w.heap.size w)
  have HC := Aside0.mk hc
  have HW0 := Aside0.mk hw
  have he' : (er == 0) = false := beq_false_of_ne he
  clear hc hw
  clear h1 h2
  go_enter Try.func18, Try.ntmps18
  go_wp2_with (first | (go_at_call 13; refine (sem_rCheck f r c).mono ?_; rw [HC.out]; rintro e w1 ⟨rfl, hb⟩; have n_ := Aside0.mk (Env.below Xe hb); have nb_ := Aside0.mk (below_step (w := w) Xb hb); have hz1 := hb.size; (try simp at hz1); clear HE HB; have HE := n_; have HB := nb_; clear n_ nb_; have HW := Aside0.mk (Vr.below (g := w.heap.size) Z5 hb); have HX := Aside0.mk (Vr.below (g := w.heap.size + 1) Z5 hb); have HP := Aside0.mk (Vr.below (g := w.heap.size + 1 + 1) Z5 hb); have HQ := Aside0.mk (Vr.below (g := w.heap.size + 1 + 1 + 1) Z5 hb); have HR := Aside0.mk (Vr.below (g := w.heap.size + 1 + 1 + 1 + 1) Z5 hb); obtain ⟨hc_HW, hf_HW, hl_HW⟩ := Vr.q3 HW.out; obtain ⟨hc_HX, hf_HX, hl_HX⟩ := Vr.q3 HX.out; obtain ⟨hc_HP, hf_HP, hl_HP⟩ := Vr.q3 HP.out; obtain ⟨hc_HQ, hf_HQ, hl_HQ⟩ := Vr.q3 HQ.out; obtain ⟨hc_HR, hf_HR, hl_HR⟩ := Vr.q3 HR.out; clear hb) | (go_at_call 24; refine (sem_White (B := B) (x := x) ?_).mono ?_; exact ⟨_, _, _, _, rfl, Xf, Xf⟩; rw [HW0.out]; rintro e w2 ⟨rfl, hb⟩; have n_ := Aside0.mk (Env.below Xe hb); have nb_ := Aside0.mk (below_step (w := w) Xb hb); have hz2 := hb.size; (try simp at hz2); clear HE HB; have HE := n_; have HB := nb_; clear n_ nb_; replace HW := Aside0.mk (Vr.below (g := w.heap.size) Z5 hb); replace HX := Aside0.mk (Vr.below (g := w.heap.size + 1) Z5 hb); replace HP := Aside0.mk (Vr.below (g := w.heap.size + 1 + 1) Z5 hb); replace HQ := Aside0.mk (Vr.below (g := w.heap.size + 1 + 1 + 1) Z5 hb); replace HR := Aside0.mk (Vr.below (g := w.heap.size + 1 + 1 + 1 + 1) Z5 hb); (try clear hc_HW hf_HW hl_HW); (try clear hc_HX hf_HX hl_HX); (try clear hc_HP hf_HP hl_HP); (try clear hc_HQ hf_HQ hl_HQ); (try clear hc_HR hf_HR hl_HR); obtain ⟨hc_HW, hf_HW, hl_HW⟩ := Vr.q3 HW.out; obtain ⟨hc_HX, hf_HX, hl_HX⟩ := Vr.q3 HX.out; obtain ⟨hc_HP, hf_HP, hl_HP⟩ := Vr.q3 HP.out; obtain ⟨hc_HQ, hf_HQ, hl_HQ⟩ := Vr.q3 HQ.out; obtain ⟨hc_HR, hf_HR, hl_HR⟩ := Vr.q3 HR.out; clear hb))
  all_goals
    (try go_wp2_with (fail))
    refine bodyPost_ret (results_list (rs := [.cell 4 27, .cell 5 27, .cell 6 27, .tmp 7]) rfl (by simp) (vals_vr Xv rfl Try.underlying27 rfl Z6 (vals_vr Xv rfl Try.underlying27 rfl Z6 (vals_vr Xv rfl Try.underlying27 rfl Z6 (.tmp .nil))))) rfl ?_
    exact ⟨_, _, _, _, _, _, _, _, _, _, _, _, rfl, Xf, Xf, Xf, Xf, Xf, Xf, Xb⟩
set_option maxHeartbeats 4000000 in
set_option maxRecDepth 100000 in
theorem rStep_ok {f r c : Int} {x : Rt} {v : Value} {w : World} {B : Nat} (hc : checkS f r c = 0) (hw : whiteS x = 0) {pp sw wh : Rt} (hd : doneR f r c x = (pp, sw, wh)) (hB : B ≤ w.heap.size) (h : RaF B w v x) : Calls Try.prog 18 #[.agg #[.int .i64 f, .int .i64 r, .int .i64 c], v] w (GiveQ3 B w pp sw wh 0) := by
  obtain ⟨A1, c1, A2, c2, rfl, h1, h2⟩ := h
  have HE := Aside0.mk (((Env.nil B w).cons h2).cons h1)
  have HB := Aside0.mk (Below.refl w.heap.size w)
  have HC := Aside0.mk hc
  have HW0 := Aside0.mk hw
  have HD := Aside0.mk hd
  clear hc hw hd
  clear h1 h2
  go_enter Try.func18, Try.ntmps18
  go_wp2_with (first | (go_at_call 13; refine (sem_rCheck f r c).mono ?_; rw [HC.out]; rintro e w1 ⟨rfl, hb⟩; have n_ := Aside0.mk (Env.below Xe hb); have nb_ := Aside0.mk (below_step (w := w) Xb hb); have hz1 := hb.size; (try simp at hz1); clear HE HB; have HE := n_; have HB := nb_; clear n_ nb_; have HW := Aside0.mk (Vr.below (g := w.heap.size) Z5 hb); have HX := Aside0.mk (Vr.below (g := w.heap.size + 1) Z5 hb); have HP := Aside0.mk (Vr.below (g := w.heap.size + 1 + 1) Z5 hb); have HQ := Aside0.mk (Vr.below (g := w.heap.size + 1 + 1 + 1) Z5 hb); have HR := Aside0.mk (Vr.below (g := w.heap.size + 1 + 1 + 1 + 1) Z5 hb); obtain ⟨hc_HW, hf_HW, hl_HW⟩ := Vr.q3 HW.out; obtain ⟨hc_HX, hf_HX, hl_HX⟩ := Vr.q3 HX.out; obtain ⟨hc_HP, hf_HP, hl_HP⟩ := Vr.q3 HP.out; obtain ⟨hc_HQ, hf_HQ, hl_HQ⟩ := Vr.q3 HQ.out; obtain ⟨hc_HR, hf_HR, hl_HR⟩ := Vr.q3 HR.out; clear hb) | (go_at_call 24; refine (sem_White (B := B) (x := x) ?_).mono ?_; exact ⟨_, _, _, _, rfl, Xf, Xf⟩; rw [HW0.out]; rintro e w2 ⟨rfl, hb⟩; have n_ := Aside0.mk (Env.below Xe hb); have nb_ := Aside0.mk (below_step (w := w) Xb hb); have hz2 := hb.size; (try simp at hz2); clear HE HB; have HE := n_; have HB := nb_; clear n_ nb_; replace HW := Aside0.mk (Vr.below (g := w.heap.size) Z5 hb); replace HX := Aside0.mk (Vr.below (g := w.heap.size + 1) Z5 hb); replace HP := Aside0.mk (Vr.below (g := w.heap.size + 1 + 1) Z5 hb); replace HQ := Aside0.mk (Vr.below (g := w.heap.size + 1 + 1 + 1) Z5 hb); replace HR := Aside0.mk (Vr.below (g := w.heap.size + 1 + 1 + 1 + 1) Z5 hb); (try clear hc_HW hf_HW hl_HW); (try clear hc_HX hf_HX hl_HX); (try clear hc_HP hf_HP hl_HP); (try clear hc_HQ hf_HQ hl_HQ); (try clear hc_HR hf_HR hl_HR); obtain ⟨hc_HW, hf_HW, hl_HW⟩ := Vr.q3 HW.out; obtain ⟨hc_HX, hf_HX, hl_HX⟩ := Vr.q3 HX.out; obtain ⟨hc_HP, hf_HP, hl_HP⟩ := Vr.q3 HP.out; obtain ⟨hc_HQ, hf_HQ, hl_HQ⟩ := Vr.q3 HQ.out; obtain ⟨hc_HR, hf_HR, hl_HR⟩ := Vr.q3 HR.out; clear hb) | (go_at_call 38; refine (sem_step (B := B) f r c (x := x) (pp := pp) (sw := sw) (wh := wh) HD.out Z10 ?_).mono ?_; exact ⟨_, _, _, _, rfl, Xf, Xf⟩; rintro e w3 ⟨A3, c3, D3, d3, A4, c4, D4, d4, A5, c5, D5, d5, rfl, hs1, hs2, hs3, hs4, hs5, hs6, hb⟩; have n_ := Aside0.mk (Env.cons (Env.cons (Env.cons (Env.cons (Env.cons (Env.cons (Env.below Xe hb) (hs1)) (hs2)) (hs3)) (hs4)) (hs5)) (hs6)); have nb_ := Aside0.mk (below_step (w := w) Xb hb); have hz3 := hb.size; (try simp at hz3); clear HE HB; have HE := n_; have HB := nb_; clear n_ nb_; replace HW := Aside0.mk (Vr.below (g := w.heap.size) Z5 hb); replace HX := Aside0.mk (Vr.below (g := w.heap.size + 1) Z5 hb); replace HP := Aside0.mk (Vr.below (g := w.heap.size + 1 + 1) Z5 hb); replace HQ := Aside0.mk (Vr.below (g := w.heap.size + 1 + 1 + 1) Z5 hb); replace HR := Aside0.mk (Vr.below (g := w.heap.size + 1 + 1 + 1 + 1) Z5 hb); (try clear hc_HW hf_HW hl_HW); (try clear hc_HX hf_HX hl_HX); (try clear hc_HP hf_HP hl_HP); (try clear hc_HQ hf_HQ hl_HQ); (try clear hc_HR hf_HR hl_HR); obtain ⟨hc_HW, hf_HW, hl_HW⟩ := Vr.q3 HW.out; obtain ⟨hc_HX, hf_HX, hl_HX⟩ := Vr.q3 HX.out; obtain ⟨hc_HP, hf_HP, hl_HP⟩ := Vr.q3 HP.out; obtain ⟨hc_HQ, hf_HQ, hl_HQ⟩ := Vr.q3 HQ.out; obtain ⟨hc_HR, hf_HR, hl_HR⟩ := Vr.q3 HR.out; clear hb; have hq_ : w.heap.size ≠ w3.heap.size ∧ w3.heap.size ≠ w.heap.size ∧ w.heap.size < w3.heap.size ∧ w.heap.size ≤ w3.heap.size ∧ w.heap.size ≠ w3.heap.size + 1 ∧ w3.heap.size + 1 ≠ w.heap.size ∧ w.heap.size < w3.heap.size + 1 ∧ w.heap.size ≤ w3.heap.size + 1 ∧ w.heap.size ≠ w3.heap.size + 1 + 1 ∧ w3.heap.size + 1 + 1 ≠ w.heap.size ∧ w.heap.size < w3.heap.size + 1 + 1 ∧ w.heap.size ≤ w3.heap.size + 1 + 1 ∧ w.heap.size ≠ w3.heap.size + 1 + 1 + 1 ∧ w3.heap.size + 1 + 1 + 1 ≠ w.heap.size ∧ w.heap.size < w3.heap.size + 1 + 1 + 1 ∧ w.heap.size ≤ w3.heap.size + 1 + 1 + 1 ∧ w.heap.size + 1 ≠ w3.heap.size ∧ w3.heap.size ≠ w.heap.size + 1 ∧ w.heap.size + 1 < w3.heap.size ∧ w.heap.size + 1 ≤ w3.heap.size ∧ w.heap.size + 1 ≠ w3.heap.size + 1 ∧ w3.heap.size + 1 ≠ w.heap.size + 1 ∧ w.heap.size + 1 < w3.heap.size + 1 ∧ w.heap.size + 1 ≤ w3.heap.size + 1 ∧ w.heap.size + 1 ≠ w3.heap.size + 1 + 1 ∧ w3.heap.size + 1 + 1 ≠ w.heap.size + 1 ∧ w.heap.size + 1 < w3.heap.size + 1 + 1 ∧ w.heap.size + 1 ≤ w3.heap.size + 1 + 1 ∧ w.heap.size + 1 ≠ w3.heap.size + 1 + 1 + 1 ∧ w3.heap.size + 1 + 1 + 1 ≠ w.heap.size + 1 ∧ w.heap.size + 1 < w3.heap.size + 1 + 1 + 1 ∧ w.heap.size + 1 ≤ w3.heap.size + 1 + 1 + 1 ∧ w.heap.size + 1 + 1 ≠ w3.heap.size ∧ w3.heap.size ≠ w.heap.size + 1 + 1 ∧ w.heap.size + 1 + 1 < w3.heap.size ∧ w.heap.size + 1 + 1 ≤ w3.heap.size ∧ w.heap.size + 1 + 1 ≠ w3.heap.size + 1 ∧ w3.heap.size + 1 ≠ w.heap.size + 1 + 1 ∧ w.heap.size + 1 + 1 < w3.heap.size + 1 ∧ w.heap.size + 1 + 1 ≤ w3.heap.size + 1 ∧ w.heap.size + 1 + 1 ≠ w3.heap.size + 1 + 1 ∧ w3.heap.size + 1 + 1 ≠ w.heap.size + 1 + 1 ∧ w.heap.size + 1 + 1 < w3.heap.size + 1 + 1 ∧ w.heap.size + 1 + 1 ≤ w3.heap.size + 1 + 1 ∧ w.heap.size + 1 + 1 ≠ w3.heap.size + 1 + 1 + 1 ∧ w3.heap.size + 1 + 1 + 1 ≠ w.heap.size + 1 + 1 ∧ w.heap.size + 1 + 1 < w3.heap.size + 1 + 1 + 1 ∧ w.heap.size + 1 + 1 ≤ w3.heap.size + 1 + 1 + 1 ∧ w.heap.size + 1 + 1 + 1 ≠ w3.heap.size ∧ w3.heap.size ≠ w.heap.size + 1 + 1 + 1 ∧ w.heap.size + 1 + 1 + 1 < w3.heap.size ∧ w.heap.size + 1 + 1 + 1 ≤ w3.heap.size ∧ w.heap.size + 1 + 1 + 1 ≠ w3.heap.size + 1 ∧ w3.heap.size + 1 ≠ w.heap.size + 1 + 1 + 1 ∧ w.heap.size + 1 + 1 + 1 < w3.heap.size + 1 ∧ w.heap.size + 1 + 1 + 1 ≤ w3.heap.size + 1 ∧ w.heap.size + 1 + 1 + 1 ≠ w3.heap.size + 1 + 1 ∧ w3.heap.size + 1 + 1 ≠ w.heap.size + 1 + 1 + 1 ∧ w.heap.size + 1 + 1 + 1 < w3.heap.size + 1 + 1 ∧ w.heap.size + 1 + 1 + 1 ≤ w3.heap.size + 1 + 1 ∧ w.heap.size + 1 + 1 + 1 ≠ w3.heap.size + 1 + 1 + 1 ∧ w3.heap.size + 1 + 1 + 1 ≠ w.heap.size + 1 + 1 + 1 ∧ w.heap.size + 1 + 1 + 1 < w3.heap.size + 1 + 1 + 1 ∧ w.heap.size + 1 + 1 + 1 ≤ w3.heap.size + 1 + 1 + 1 ∧ w.heap.size + 1 + 1 + 1 + 1 ≠ w3.heap.size ∧ w3.heap.size ≠ w.heap.size + 1 + 1 + 1 + 1 ∧ w.heap.size + 1 + 1 + 1 + 1 < w3.heap.size ∧ w.heap.size + 1 + 1 + 1 + 1 ≤ w3.heap.size ∧ w.heap.size + 1 + 1 + 1 + 1 ≠ w3.heap.size + 1 ∧ w3.heap.size + 1 ≠ w.heap.size + 1 + 1 + 1 + 1 ∧ w.heap.size + 1 + 1 + 1 + 1 < w3.heap.size + 1 ∧ w.heap.size + 1 + 1 + 1 + 1 ≤ w3.heap.size + 1 ∧ w.heap.size + 1 + 1 + 1 + 1 ≠ w3.heap.size + 1 + 1 ∧ w3.heap.size + 1 + 1 ≠ w.heap.size + 1 + 1 + 1 + 1 ∧ w.heap.size + 1 + 1 + 1 + 1 < w3.heap.size + 1 + 1 ∧ w.heap.size + 1 + 1 + 1 + 1 ≤ w3.heap.size + 1 + 1 ∧ w.heap.size + 1 + 1 + 1 + 1 ≠ w3.heap.size + 1 + 1 + 1 ∧ w3.heap.size + 1 + 1 + 1 ≠ w.heap.size + 1 + 1 + 1 + 1 ∧ w.heap.size + 1 + 1 + 1 + 1 < w3.heap.size + 1 + 1 + 1 ∧ w.heap.size + 1 + 1 + 1 + 1 ≤ w3.heap.size + 1 + 1 + 1 := by omega))
  go_region_held3 (fun w' => w'.cell? ⟨w3.heap.size, 0, none⟩ = some (.bool pp.neg) ∧ w'.cell? ⟨w3.heap.size, 1, none⟩ = some (.slice A3 pp.p.length c3) ∧ w'.cell? ⟨w3.heap.size, 2, none⟩ = some (.slice D3 pp.q.length d3) ∧ w'.cell? ⟨w3.heap.size + 1, 0, none⟩ = some (.bool sw.neg) ∧ w'.cell? ⟨w3.heap.size + 1, 1, none⟩ = some (.slice A4 sw.p.length c4) ∧ w'.cell? ⟨w3.heap.size + 1, 2, none⟩ = some (.slice D4 sw.q.length d4) ∧ w'.cell? ⟨w3.heap.size + 1 + 1, 0, none⟩ = some (.bool wh.neg) ∧ w'.cell? ⟨w3.heap.size + 1 + 1, 1, none⟩ = some (.slice A5 wh.p.length c5) ∧ w'.cell? ⟨w3.heap.size + 1 + 1, 2, none⟩ = some (.slice D5 wh.q.length d5)) ((repeat' apply And.intro) <;> (apply Vr.at; exact Xv; rfl)) (fail)
  all_goals
    (try go_wp2_with (fail))
    refine bodyPost_ret (results_list (rs := [.cell 4 27, .cell 5 27, .cell 6 27, .tmp 7]) rfl (by simp) (vals_vr Xv rfl Try.underlying27 rfl Z6 (vals_vr Xv rfl Try.underlying27 rfl Z6 (vals_vr Xv rfl Try.underlying27 rfl Z6 (.tmp .nil))))) rfl ?_
    exact ⟨_, _, _, _, _, _, _, _, _, _, _, _, rfl, Xf, Xf, Xf, Xf, Xf, Xf, Xb⟩
theorem sem_rStep_bad {er f r c : Int} {x : Rt} {v : Value} {w : World} {B : Nat} (hs : beginS f r c x = er) (he : ¬ er = 0) (hB : B ≤ w.heap.size) (h : RaF B w v x) : Calls Try.prog 18 #[.agg #[.int .i64 f, .int .i64 r, .int .i64 c], v] w (GiveQ3 B w zR zR zR er) := by
  unfold beginS at hs
  split at hs
  · exact rStep_b (by assumption) hs he hB h
  · exact rStep_a hs he hB h
end Go.Proofs.Ytbjamhkhocjdkaa.Px
