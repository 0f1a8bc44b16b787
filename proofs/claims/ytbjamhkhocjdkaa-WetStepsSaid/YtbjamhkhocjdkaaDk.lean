/- One step on the way to the rows: contracts of the program's functions, each for every argument that its statement names. -/
import Derived.Test.YtbjamhkhocjdkaaDj
import Derived.Outline
import Derived.Deep.RegionHeld3
import Derived.Deep.RegionLaw
import Derived.ChangeAlike
namespace Go.Proofs.Ytbjamhkhocjdkaa.Px
open Go.RowKit Go.Proofs.YtbjamhkhocjdkaaW.PrintWords Go.Proofs.YtbjamhkhocjdkaaW.PrintLast Go.Proofs.YtbjamhkhocjdkaaW.PrintMore Go.Proofs.Ytbjamhkhocjdkaa.Mat
set_option linter.unusedVariables false
set_option linter.unusedSimpArgs false
attribute [local go_sem] prodF
set_option maxHeartbeats 400000 in
theorem sem_Add_a {x y : Rt} {v v' : Value} {w : World} {B : Nat} (b1 b2 : Bool) (hv1 : rvB x = b1) (hv2 : rvB y = b2) (hb12 : (b1 && b2) = false) (hB : B ≤ w.heap.size) (h : RaF B w v x) (h' : RaF B w v' y) : Calls Try.prog 52 #[v, v'] w (GiveR B w (zR, 3)) := by
  obtain ⟨A1, c1, A2, c2, rfl, h1, h2⟩ := h
  obtain ⟨A3, c3, A4, c4, rfl, h3, h4⟩ := h'
  obtain ⟨ng, p, q⟩ := x
  obtain ⟨ng', p', q'⟩ := y
  have HE := Aside0.mk (((((Env.nil B w).cons h4).cons h3).cons h2).cons h1)
  have HB := Aside0.mk (Below.refl w.heap.size w)
  have HV := Aside0.mk (And.intro hv1 hv2)
  simp only
  clear h1 h2 h3 h4 hv1 hv2
  go_enter Try.func52, Try.ntmps52
  go_wp2_with (first | (go_at_call 61; refine (sem_valid2_a (B := B) (x := ⟨ng, p, q⟩) (y := ⟨ng', p', q'⟩) (g := w.heap.size + 1 + 1 + 1) (t := 27) Z20 (by omega) (by decide) b1 b2 HV.out.1 HV.out.2 Xv ?_ ?_ ?_ ?_).mono ?_; exact Xf; exact Xf; exact Xf; exact Xf; rintro e w1 ⟨rfl, hb⟩; clear HV; have n_ := Aside0.mk (Env.below Xe hb); have nb_ := Aside0.mk (below_step (w := w) Xb hb); have hz1 := hb.size; (try simp at hz1); clear HE HB; have HE := n_; have HB := nb_; clear n_ nb_; have HX := Aside0.mk (Vr.below (g := w.heap.size) Z5 hb); have HY := Aside0.mk (Vr.below (g := w.heap.size + 1) Z5 hb); have HR := Aside0.mk (Vr.below (g := w.heap.size + 1 + 1) Z5 hb); (first | obtain ⟨hc_HX, hf_HX, hl_HX⟩ := Vr.q3 HX.out | (obtain ⟨hc_HX, hf_HX, hl_HX⟩ := Vr.p3 HX.out; (try simp at hc_HX))); (first | obtain ⟨hc_HY, hf_HY, hl_HY⟩ := Vr.q3 HY.out | (obtain ⟨hc_HY, hf_HY, hl_HY⟩ := Vr.p3 HY.out; (try simp at hc_HY))); (first | obtain ⟨hc_HR, hf_HR, hl_HR⟩ := Vr.q3 HR.out | (obtain ⟨hc_HR, hf_HR, hl_HR⟩ := Vr.p3 HR.out; (try simp at hc_HR))); clear hb; have hq_ : w.heap.size ≠ w1.heap.size ∧ w1.heap.size ≠ w.heap.size ∧ w.heap.size < w1.heap.size ∧ w.heap.size ≤ w1.heap.size ∧ w.heap.size ≠ w1.heap.size + 1 ∧ w1.heap.size + 1 ≠ w.heap.size ∧ w.heap.size < w1.heap.size + 1 ∧ w.heap.size ≤ w1.heap.size + 1 ∧ w.heap.size ≠ w1.heap.size + 1 + 1 ∧ w1.heap.size + 1 + 1 ≠ w.heap.size ∧ w.heap.size < w1.heap.size + 1 + 1 ∧ w.heap.size ≤ w1.heap.size + 1 + 1 ∧ w.heap.size ≠ w1.heap.size + 1 + 1 + 1 ∧ w1.heap.size + 1 + 1 + 1 ≠ w.heap.size ∧ w.heap.size < w1.heap.size + 1 + 1 + 1 ∧ w.heap.size ≤ w1.heap.size + 1 + 1 + 1 ∧ w.heap.size ≠ w1.heap.size + 1 + 1 + 1 + 1 ∧ w1.heap.size + 1 + 1 + 1 + 1 ≠ w.heap.size ∧ w.heap.size < w1.heap.size + 1 + 1 + 1 + 1 ∧ w.heap.size ≤ w1.heap.size + 1 + 1 + 1 + 1 := by omega))
  all_goals
    refine bodyPost_ret (results_list (rs := [.cell 4 27, .tmp 5]) rfl (by simp) (vals_vr Xv rfl Try.underlying27 rfl Z6 (.tmp .nil))) rfl ?_
    exact ⟨_, rfl, ⟨_, _, _, _, rfl, Xf, Xf⟩, Xb⟩
set_option maxHeartbeats 1000000 in
theorem sem_Add_b {x y : Rt} {v v' : Value} {w : World} {B : Nat} {n' : Bool} {m1 m2 m3 m4 : List Int} {e1 e2 e3 e4 ee : Int} (hm1 : mulS x.p y.q = (m1, e1)) (hm2 : mulS y.p x.q = (m2, e2)) (hm3 : mulS x.q y.q = (m3, e3)) (hm4 : plusS x.neg m1 y.neg m2 = (n', m4, e4)) (ho : okN m1 = true ∧ okN m2 = true) (hc : (if e1 = 0 then (if e2 = 0 then (if e3 = 0 then e4 else e3) else e2) else e1) = ee) (he : ¬ ee = 0) (hv1 : rvB x = true) (hv2 : rvB y = true) (hB : B ≤ w.heap.size) (h : RaF B w v x) (h' : RaF B w v' y) : Calls Try.prog 52 #[v, v'] w (GiveR B w (zR, ee)) := by
  obtain ⟨A1, c1, A2, c2, rfl, h1, h2⟩ := h
  obtain ⟨A3, c3, A4, c4, rfl, h3, h4⟩ := h'
  obtain ⟨ng, p, q⟩ := x
  obtain ⟨ng', p', q'⟩ := y
  have HE := Aside0.mk (((((Env.nil B w).cons h4).cons h3).cons h2).cons h1)
  have HB := Aside0.mk (Below.refl w.heap.size w)
  have HV := Aside0.mk (And.intro hv1 hv2)
  have HM := Aside0.mk (And.intro hm1 (And.intro hm2 (And.intro hm3 hm4)))
  have HO := Aside0.mk ho
  have HC := Aside0.mk hc
  have he' : (ee == 0) = false := beq_false_of_ne he
  simp only
  clear h1 h2 h3 h4 hv1 hv2 hm1 hm2 hm3 hm4 ho hc
  go_enter Try.func52, Try.ntmps52
  go_wp2_with (first | (go_at_call 61; refine (sem_valid2_a (B := B) (x := ⟨ng, p, q⟩) (y := ⟨ng', p', q'⟩) (g := w.heap.size + 1 + 1 + 1) (t := 27) Z20 (by omega) (by decide) true true HV.out.1 HV.out.2 Xv ?_ ?_ ?_ ?_).mono ?_; exact Xf; exact Xf; exact Xf; exact Xf; rintro e w1 ⟨rfl, hb⟩; clear HV; have n_ := Aside0.mk (Env.below Xe hb); have nb_ := Aside0.mk (below_step (w := w) Xb hb); have hz1 := hb.size; (try simp at hz1); clear HE HB; have HE := n_; have HB := nb_; clear n_ nb_; have HX := Aside0.mk (Vr.below (g := w.heap.size) Z5 hb); have HY := Aside0.mk (Vr.below (g := w.heap.size + 1) Z5 hb); have HR := Aside0.mk (Vr.below (g := w.heap.size + 1 + 1) Z5 hb); (first | obtain ⟨hc_HX, hf_HX, hl_HX⟩ := Vr.q3 HX.out | (obtain ⟨hc_HX, hf_HX, hl_HX⟩ := Vr.p3 HX.out; (try simp at hc_HX))); (first | obtain ⟨hc_HY, hf_HY, hl_HY⟩ := Vr.q3 HY.out | (obtain ⟨hc_HY, hf_HY, hl_HY⟩ := Vr.p3 HY.out; (try simp at hc_HY))); (first | obtain ⟨hc_HR, hf_HR, hl_HR⟩ := Vr.q3 HR.out | (obtain ⟨hc_HR, hf_HR, hl_HR⟩ := Vr.p3 HR.out; (try simp at hc_HR))); clear hb; have hq_ : w.heap.size ≠ w1.heap.size ∧ w1.heap.size ≠ w.heap.size ∧ w.heap.size < w1.heap.size ∧ w.heap.size ≤ w1.heap.size ∧ w.heap.size ≠ w1.heap.size + 1 ∧ w1.heap.size + 1 ≠ w.heap.size ∧ w.heap.size < w1.heap.size + 1 ∧ w.heap.size ≤ w1.heap.size + 1 ∧ w.heap.size ≠ w1.heap.size + 1 + 1 ∧ w1.heap.size + 1 + 1 ≠ w.heap.size ∧ w.heap.size < w1.heap.size + 1 + 1 ∧ w.heap.size ≤ w1.heap.size + 1 + 1 ∧ w.heap.size ≠ w1.heap.size + 1 + 1 + 1 ∧ w1.heap.size + 1 + 1 + 1 ≠ w.heap.size ∧ w.heap.size < w1.heap.size + 1 + 1 + 1 ∧ w.heap.size ≤ w1.heap.size + 1 + 1 + 1 ∧ w.heap.size ≠ w1.heap.size + 1 + 1 + 1 + 1 ∧ w1.heap.size + 1 + 1 + 1 + 1 ≠ w.heap.size ∧ w.heap.size < w1.heap.size + 1 + 1 + 1 + 1 ∧ w.heap.size ≤ w1.heap.size + 1 + 1 + 1 + 1 := by omega))
  clear hq_
  go_region_held3 (fun w' => w'.cell? ⟨w.heap.size, 1, none⟩ = some (.slice A1 p.length c1) ∧ w'.cell? ⟨w.heap.size, 2, none⟩ = some (.slice A2 q.length c2) ∧ w'.cell? ⟨w.heap.size + 1, 1, none⟩ = some (.slice A3 p'.length c3) ∧ w'.cell? ⟨w.heap.size + 1, 2, none⟩ = some (.slice A4 q'.length c4)) ((repeat' apply And.intro) <;> (first | with_reducible exact hc_HX.1 | with_reducible exact hc_HX.2.1 | with_reducible exact hc_HX.2.2 | with_reducible exact hc_HY.1 | with_reducible exact hc_HY.2.1 | with_reducible exact hc_HY.2.2 | (rw [bc (w := w1) (by repeat (first | with_reducible exact Below.refl _ _ | with_reducible apply below_prodW | with_reducible apply below_alloc | (with_reducible apply below_set; rotate_left; omega) | with_reducible apply pw_below_drewN | with_reducible apply below_drew1)) (by omega)]; first | with_reducible exact hc_HX.1 | with_reducible exact hc_HX.2.1 | with_reducible exact hc_HX.2.2 | with_reducible exact hc_HY.1 | with_reducible exact hc_HY.2.1 | with_reducible exact hc_HY.2.2))) (first | (go_at_call 63; refine (sem_product _ Value.nilFunc Value.nilFunc _ _ _ _ _ _).mono ?_; rintro e w2 ⟨rfl, rfl⟩; simp only [prodF, prodW]) | (go_at_call 62; refine (sem_four (B := B) (p := p) (q := q) (p' := p') (q' := q') (ng := ng) (ng' := ng') (n' := n') (A1 := A1) (c1 := c1) (A2 := A2) (c2 := c2) (A3 := A3) (c3 := c3) (A4 := A4) (c4 := c4) (o1 := Value.slice none 0 0) (o2 := Value.slice none 0 0) (o3 := Value.slice none 0 0) (o4 := Value.slice none 0 0) (t1 := 78) (t2 := 78) (t3 := 78) (tS := 76) (ga := w.heap.size) (gb := w.heap.size + 1) (gX := w1.heap.size) (gY := w1.heap.size + 1) (gQ := w1.heap.size + 1 + 1) (gs := w1.heap.size + 1 + 1 + 1) (gn := w1.heap.size + 1 + 1 + 1 + 1) (gp1 := w1.heap.size + 1 + 1 + 1 + 1 + 1) (ga1 := w1.heap.size + 1 + 1 + 1 + 1 + 1 + 1) (gb1 := w1.heap.size + 1 + 1 + 1 + 1 + 1 + 1 + 1) (gp2 := w1.heap.size + 1 + 1 + 1 + 1 + 1 + 1 + 1 + 1) (ga2 := w1.heap.size + 1 + 1 + 1 + 1 + 1 + 1 + 1 + 1 + 1) (gb2 := w1.heap.size + 1 + 1 + 1 + 1 + 1 + 1 + 1 + 1 + 1 + 1) (gp3 := w1.heap.size + 1 + 1 + 1 + 1 + 1 + 1 + 1 + 1 + 1 + 1 + 1) (ga3 := w1.heap.size + 1 + 1 + 1 + 1 + 1 + 1 + 1 + 1 + 1 + 1 + 1 + 1) (gb3 := w1.heap.size + 1 + 1 + 1 + 1 + 1 + 1 + 1 + 1 + 1 + 1 + 1 + 1 + 1) (gS := w1.heap.size + 1 + 1 + 1 + 1 + 1 + 1 + 1 + 1 + 1 + 1 + 1 + 1 + 1 + 1) HM.out.1 HM.out.2.1 HM.out.2.2.1 HM.out.2.2.2 HO.out ?_ ?_ ?_ ?_ ?_ ?_ ?_ ?_ ?_ ?_ ?_ ?_ ?_ ?_ ?_ ?_ ?_ (by rintro k (rfl | rfl | rfl | rfl | rfl) <;> omega) (by omega) ?_ ?_ ?_ ?_).mono ?_; simp only [prodF]; exact Xv; exact Xv; exact Xv; exact Xv; exact Xv; exact Xv; exact Xv; exact Xv; exact Xv; exact Xv; exact Xv; exact Xv; exact Xv; exact Xv; exact Xv; exact Xv; (apply Vr.eq; exact Xv; rfl); exact Xf; exact Xf; exact Xf; exact Xf; rintro e w4 ⟨rfl, hm, hr⟩; rw [HC.out]; have n_ := Aside0.mk (Env.mv Xe hm (Ours.one (g := w1.heap.size) Z5 (by decide) (by omega) (Ours.one (g := w1.heap.size + 1) Z5 (by decide) (by omega) (Ours.one (g := w1.heap.size + 1 + 1) Z5 (by decide) (by omega) (Ours.one (g := w1.heap.size + 1 + 1 + 1) Z5 (by decide) (by omega) (Ours.one (g := w1.heap.size + 1 + 1 + 1 + 1) Z5 (by decide) (by omega) Ours.none)))))); have nb_ := Aside0.mk (Below.mv Xb hm (by rintro g_ (rfl | rfl | rfl | rfl | rfl | h); omega; omega; omega; omega; omega; exact h.elim)); have nx_HX := Aside0.mk (Vr.mv (g := w.heap.size) Z5 hm Z25); have nx_HY := Aside0.mk (Vr.mv (g := w.heap.size + 1) Z5 hm Z25); have nx_HR := Aside0.mk (Vr.mv (g := w.heap.size + 1 + 1) Z5 hm Z25); have hz4 := hm.size; (try simp at hz4); clear HE HB HX HY HR; have HE := n_; have HB := nb_; clear n_ nb_; (try clear hc_HX); (try clear hf_HX); (try clear hl_HX); (try clear hc_HY); (try clear hf_HY); (try clear hl_HY); (try clear hc_HR); (try clear hf_HR); (try clear hl_HR); have HX := nx_HX; clear nx_HX; (first | obtain ⟨hc_HX, hf_HX, hl_HX⟩ := Vr.q3 HX.out | (obtain ⟨hc_HX, hf_HX, hl_HX⟩ := Vr.p3 HX.out; (try simp at hc_HX))); have HY := nx_HY; clear nx_HY; (first | obtain ⟨hc_HY, hf_HY, hl_HY⟩ := Vr.q3 HY.out | (obtain ⟨hc_HY, hf_HY, hl_HY⟩ := Vr.p3 HY.out; (try simp at hc_HY))); have HR := nx_HR; clear nx_HR; (first | obtain ⟨hc_HR, hf_HR, hl_HR⟩ := Vr.q3 HR.out | (obtain ⟨hc_HR, hf_HR, hl_HR⟩ := Vr.p3 HR.out; (try simp at hc_HR))); clear hm; clear hr))
  go_wp2_with (first | (go_at_call 61; refine (sem_valid2_a (B := B) (x := ⟨ng, p, q⟩) (y := ⟨ng', p', q'⟩) (g := w.heap.size + 1 + 1 + 1) (t := 27) Z20 (by omega) (by decide) true true HV.out.1 HV.out.2 Xv ?_ ?_ ?_ ?_).mono ?_; exact Xf; exact Xf; exact Xf; exact Xf; rintro e w1 ⟨rfl, hb⟩; clear HV; have n_ := Aside0.mk (Env.below Xe hb); have nb_ := Aside0.mk (below_step (w := w) Xb hb); have hz1 := hb.size; (try simp at hz1); clear HE HB; have HE := n_; have HB := nb_; clear n_ nb_; have HX := Aside0.mk (Vr.below (g := w.heap.size) Z5 hb); have HY := Aside0.mk (Vr.below (g := w.heap.size + 1) Z5 hb); have HR := Aside0.mk (Vr.below (g := w.heap.size + 1 + 1) Z5 hb); (first | obtain ⟨hc_HX, hf_HX, hl_HX⟩ := Vr.q3 HX.out | (obtain ⟨hc_HX, hf_HX, hl_HX⟩ := Vr.p3 HX.out; (try simp at hc_HX))); (first | obtain ⟨hc_HY, hf_HY, hl_HY⟩ := Vr.q3 HY.out | (obtain ⟨hc_HY, hf_HY, hl_HY⟩ := Vr.p3 HY.out; (try simp at hc_HY))); (first | obtain ⟨hc_HR, hf_HR, hl_HR⟩ := Vr.q3 HR.out | (obtain ⟨hc_HR, hf_HR, hl_HR⟩ := Vr.p3 HR.out; (try simp at hc_HR))); clear hb; have hq_ : w.heap.size ≠ w1.heap.size ∧ w1.heap.size ≠ w.heap.size ∧ w.heap.size < w1.heap.size ∧ w.heap.size ≤ w1.heap.size ∧ w.heap.size ≠ w1.heap.size + 1 ∧ w1.heap.size + 1 ≠ w.heap.size ∧ w.heap.size < w1.heap.size + 1 ∧ w.heap.size ≤ w1.heap.size + 1 ∧ w.heap.size ≠ w1.heap.size + 1 + 1 ∧ w1.heap.size + 1 + 1 ≠ w.heap.size ∧ w.heap.size < w1.heap.size + 1 + 1 ∧ w.heap.size ≤ w1.heap.size + 1 + 1 ∧ w.heap.size ≠ w1.heap.size + 1 + 1 + 1 ∧ w1.heap.size + 1 + 1 + 1 ≠ w.heap.size ∧ w.heap.size < w1.heap.size + 1 + 1 + 1 ∧ w.heap.size ≤ w1.heap.size + 1 + 1 + 1 ∧ w.heap.size ≠ w1.heap.size + 1 + 1 + 1 + 1 ∧ w1.heap.size + 1 + 1 + 1 + 1 ≠ w.heap.size ∧ w.heap.size < w1.heap.size + 1 + 1 + 1 + 1 ∧ w.heap.size ≤ w1.heap.size + 1 + 1 + 1 + 1 := by omega))
  all_goals
    refine bodyPost_ret (results_list (rs := [.cell 4 27, .tmp 5]) rfl (by simp) (vals_vr Xv rfl Try.underlying27 rfl Z6 (.tmp .nil))) rfl ?_
    exact ⟨_, rfl, ⟨_, _, _, _, rfl, Xf, Xf⟩, Xb⟩
set_option maxHeartbeats 1000000 in
theorem sem_Add_d {x y : Rt} {v v' : Value} {w : World} {B : Nat} {n' : Bool} {m1 m2 m3 m4 : List Int} (hm1 : mulS x.p y.q = (m1, 0)) (hm2 : mulS y.p x.q = (m2, 0)) (hm3 : mulS x.q y.q = (m3, 0)) (hm4 : plusS x.neg m1 y.neg m2 = (n', m4, 0)) (ho : okN m1 = true ∧ okN m2 = true) (ho2 : okN m4 = true ∧ okN m3 = true ∧ m3 ≠ []) (hv1 : rvB x = true) (hv2 : rvB y = true) (hB : B ≤ w.heap.size) (h : RaF B w v x) (h' : RaF B w v' y) : Calls Try.prog 52 #[v, v'] w (GiveR B w (redS n' m4 m3, 0)) := by
  obtain ⟨A1, c1, A2, c2, rfl, h1, h2⟩ := h
  obtain ⟨A3, c3, A4, c4, rfl, h3, h4⟩ := h'
  obtain ⟨ng, p, q⟩ := x
  obtain ⟨ng', p', q'⟩ := y
  have HE := Aside0.mk (((((Env.nil B w).cons h4).cons h3).cons h2).cons h1)
  have HB := Aside0.mk (Below.refl w.heap.size w)
  have HV := Aside0.mk (And.intro hv1 hv2)
  have HM := Aside0.mk (And.intro hm1 (And.intro hm2 (And.intro hm3 hm4)))
  have HO := Aside0.mk ho
  have HO2 := Aside0.mk ho2
  simp only
  obtain ⟨rr, hr⟩ : ∃ x, redS n' m4 m3 = x := ⟨_, rfl⟩
  rw [hr]
  have HRR := Aside0.mk hr
  clear h1 h2 h3 h4 hv1 hv2 hm1 hm2 hm3 hm4 ho ho2 hr
  go_enter Try.func52, Try.ntmps52
  go_wp2_with (first | (go_at_call 61; refine (sem_valid2_a (B := B) (x := ⟨ng, p, q⟩) (y := ⟨ng', p', q'⟩) (g := w.heap.size + 1 + 1 + 1) (t := 27) Z20 (by omega) (by decide) true true HV.out.1 HV.out.2 Xv ?_ ?_ ?_ ?_).mono ?_; exact Xf; exact Xf; exact Xf; exact Xf; rintro e w1 ⟨rfl, hb⟩; clear HV; have n_ := Aside0.mk (Env.below Xe hb); have nb_ := Aside0.mk (below_step (w := w) Xb hb); have hz1 := hb.size; (try simp at hz1); clear HE HB; have HE := n_; have HB := nb_; clear n_ nb_; have HX := Aside0.mk (Vr.below (g := w.heap.size) Z5 hb); have HY := Aside0.mk (Vr.below (g := w.heap.size + 1) Z5 hb); have HR := Aside0.mk (Vr.below (g := w.heap.size + 1 + 1) Z5 hb); (first | obtain ⟨hc_HX, hf_HX, hl_HX⟩ := Vr.q3 HX.out | (obtain ⟨hc_HX, hf_HX, hl_HX⟩ := Vr.p3 HX.out; (try simp at hc_HX))); (first | obtain ⟨hc_HY, hf_HY, hl_HY⟩ := Vr.q3 HY.out | (obtain ⟨hc_HY, hf_HY, hl_HY⟩ := Vr.p3 HY.out; (try simp at hc_HY))); (first | obtain ⟨hc_HR, hf_HR, hl_HR⟩ := Vr.q3 HR.out | (obtain ⟨hc_HR, hf_HR, hl_HR⟩ := Vr.p3 HR.out; (try simp at hc_HR))); clear hb; have hq_ : w.heap.size ≠ w1.heap.size ∧ w1.heap.size ≠ w.heap.size ∧ w.heap.size < w1.heap.size ∧ w.heap.size ≤ w1.heap.size ∧ w.heap.size ≠ w1.heap.size + 1 ∧ w1.heap.size + 1 ≠ w.heap.size ∧ w.heap.size < w1.heap.size + 1 ∧ w.heap.size ≤ w1.heap.size + 1 ∧ w.heap.size ≠ w1.heap.size + 1 + 1 ∧ w1.heap.size + 1 + 1 ≠ w.heap.size ∧ w.heap.size < w1.heap.size + 1 + 1 ∧ w.heap.size ≤ w1.heap.size + 1 + 1 ∧ w.heap.size ≠ w1.heap.size + 1 + 1 + 1 ∧ w1.heap.size + 1 + 1 + 1 ≠ w.heap.size ∧ w.heap.size < w1.heap.size + 1 + 1 + 1 ∧ w.heap.size ≤ w1.heap.size + 1 + 1 + 1 ∧ w.heap.size ≠ w1.heap.size + 1 + 1 + 1 + 1 ∧ w1.heap.size + 1 + 1 + 1 + 1 ≠ w.heap.size ∧ w.heap.size < w1.heap.size + 1 + 1 + 1 + 1 ∧ w.heap.size ≤ w1.heap.size + 1 + 1 + 1 + 1 := by omega))
  clear hq_
  go_region_held3 (fun w' => w'.cell? ⟨w.heap.size, 1, none⟩ = some (.slice A1 p.length c1) ∧ w'.cell? ⟨w.heap.size, 2, none⟩ = some (.slice A2 q.length c2) ∧ w'.cell? ⟨w.heap.size + 1, 1, none⟩ = some (.slice A3 p'.length c3) ∧ w'.cell? ⟨w.heap.size + 1, 2, none⟩ = some (.slice A4 q'.length c4)) ((repeat' apply And.intro) <;> (first | with_reducible exact hc_HX.1 | with_reducible exact hc_HX.2.1 | with_reducible exact hc_HX.2.2 | with_reducible exact hc_HY.1 | with_reducible exact hc_HY.2.1 | with_reducible exact hc_HY.2.2 | (rw [bc (w := w1) (by repeat (first | with_reducible exact Below.refl _ _ | with_reducible apply below_prodW | with_reducible apply below_alloc | (with_reducible apply below_set; rotate_left; omega) | with_reducible apply pw_below_drewN | with_reducible apply below_drew1)) (by omega)]; first | with_reducible exact hc_HX.1 | with_reducible exact hc_HX.2.1 | with_reducible exact hc_HX.2.2 | with_reducible exact hc_HY.1 | with_reducible exact hc_HY.2.1 | with_reducible exact hc_HY.2.2))) (first | (go_at_call 63; refine (sem_product _ Value.nilFunc Value.nilFunc _ _ _ _ _ _).mono ?_; rintro e w2 ⟨rfl, rfl⟩; simp only [prodF, prodW]) | (go_at_call 62; refine (sem_four (B := B) (p := p) (q := q) (p' := p') (q' := q') (ng := ng) (ng' := ng') (n' := n') (A1 := A1) (c1 := c1) (A2 := A2) (c2 := c2) (A3 := A3) (c3 := c3) (A4 := A4) (c4 := c4) (o1 := Value.slice none 0 0) (o2 := Value.slice none 0 0) (o3 := Value.slice none 0 0) (o4 := Value.slice none 0 0) (t1 := 78) (t2 := 78) (t3 := 78) (tS := 76) (ga := w.heap.size) (gb := w.heap.size + 1) (gX := w1.heap.size) (gY := w1.heap.size + 1) (gQ := w1.heap.size + 1 + 1) (gs := w1.heap.size + 1 + 1 + 1) (gn := w1.heap.size + 1 + 1 + 1 + 1) (gp1 := w1.heap.size + 1 + 1 + 1 + 1 + 1) (ga1 := w1.heap.size + 1 + 1 + 1 + 1 + 1 + 1) (gb1 := w1.heap.size + 1 + 1 + 1 + 1 + 1 + 1 + 1) (gp2 := w1.heap.size + 1 + 1 + 1 + 1 + 1 + 1 + 1 + 1) (ga2 := w1.heap.size + 1 + 1 + 1 + 1 + 1 + 1 + 1 + 1 + 1) (gb2 := w1.heap.size + 1 + 1 + 1 + 1 + 1 + 1 + 1 + 1 + 1 + 1) (gp3 := w1.heap.size + 1 + 1 + 1 + 1 + 1 + 1 + 1 + 1 + 1 + 1 + 1) (ga3 := w1.heap.size + 1 + 1 + 1 + 1 + 1 + 1 + 1 + 1 + 1 + 1 + 1 + 1) (gb3 := w1.heap.size + 1 + 1 + 1 + 1 + 1 + 1 + 1 + 1 + 1 + 1 + 1 + 1 + 1) (gS := w1.heap.size + 1 + 1 + 1 + 1 + 1 + 1 + 1 + 1 + 1 + 1 + 1 + 1 + 1 + 1) HM.out.1 HM.out.2.1 HM.out.2.2.1 HM.out.2.2.2 HO.out ?_ ?_ ?_ ?_ ?_ ?_ ?_ ?_ ?_ ?_ ?_ ?_ ?_ ?_ ?_ ?_ ?_ (by rintro k (rfl | rfl | rfl | rfl | rfl) <;> omega) (by omega) ?_ ?_ ?_ ?_).mono ?_; simp only [prodF]; exact Xv; exact Xv; exact Xv; exact Xv; exact Xv; exact Xv; exact Xv; exact Xv; exact Xv; exact Xv; exact Xv; exact Xv; exact Xv; exact Xv; exact Xv; exact Xv; (apply Vr.eq; exact Xv; rfl); exact Xf; exact Xf; exact Xf; exact Xf; rintro e w4 ⟨rfl, hm, hr⟩; rw [if_pos rfl]; rw [if_pos rfl]; rw [if_pos rfl]; obtain ⟨⟨A5, k5, hQ, f1⟩, ⟨A6, k6, hS, f2⟩, hN⟩ := hr rfl rfl rfl; clear hr; have n_ := Aside0.mk (Env.cons (Env.cons (Env.mv Xe hm (Ours.one (g := w1.heap.size) Z5 (by decide) (by omega) (Ours.one (g := w1.heap.size + 1) Z5 (by decide) (by omega) (Ours.one (g := w1.heap.size + 1 + 1) Z5 (by decide) (by omega) (Ours.one (g := w1.heap.size + 1 + 1 + 1) Z5 (by decide) (by omega) (Ours.one (g := w1.heap.size + 1 + 1 + 1 + 1) Z5 (by decide) (by omega) Ours.none)))))) (f1)) (f2)); have nb_ := Aside0.mk (Below.mv Xb hm (by rintro g_ (rfl | rfl | rfl | rfl | rfl | h); omega; omega; omega; omega; omega; exact h.elim)); have nx_HX := Aside0.mk (Vr.mv (g := w.heap.size) Z5 hm Z25); have nx_HY := Aside0.mk (Vr.mv (g := w.heap.size + 1) Z5 hm Z25); have nx_HR := Aside0.mk (Vr.mv (g := w.heap.size + 1 + 1) Z5 hm Z25); have hz4 := hm.size; (try simp at hz4); clear HE HB HX HY HR; have HE := n_; have HB := nb_; clear n_ nb_; (try clear hc_HX); (try clear hf_HX); (try clear hl_HX); (try clear hc_HY); (try clear hf_HY); (try clear hl_HY); (try clear hc_HR); (try clear hf_HR); (try clear hl_HR); have HX := nx_HX; clear nx_HX; (first | obtain ⟨hc_HX, hf_HX, hl_HX⟩ := Vr.q3 HX.out | (obtain ⟨hc_HX, hf_HX, hl_HX⟩ := Vr.p3 HX.out; (try simp at hc_HX))); have HY := nx_HY; clear nx_HY; (first | obtain ⟨hc_HY, hf_HY, hl_HY⟩ := Vr.q3 HY.out | (obtain ⟨hc_HY, hf_HY, hl_HY⟩ := Vr.p3 HY.out; (try simp at hc_HY))); have HR := nx_HR; clear nx_HR; (first | obtain ⟨hc_HR, hf_HR, hl_HR⟩ := Vr.q3 HR.out | (obtain ⟨hc_HR, hf_HR, hl_HR⟩ := Vr.p3 HR.out; (try simp at hc_HR))); clear hm; have HQ := Aside0.mk hQ; have HSM := Aside0.mk hS; have HNG := Aside0.mk hN; clear hQ hS hN; (first | obtain ⟨hc_HQ, hf_HQ, hl_HQ⟩ := Vr.q1 HQ.out | (obtain ⟨hc_HQ, hf_HQ, hl_HQ⟩ := Vr.p1 HQ.out; (try simp at hc_HQ))); (first | obtain ⟨hc_HSM, hf_HSM, hl_HSM⟩ := Vr.q1 HSM.out | (obtain ⟨hc_HSM, hf_HSM, hl_HSM⟩ := Vr.p1 HSM.out; (try simp at hc_HSM))); (first | obtain ⟨hc_HNG, hf_HNG, hl_HNG⟩ := Vr.q1 HNG.out | (obtain ⟨hc_HNG, hf_HNG, hl_HNG⟩ := Vr.p1 HNG.out; (try simp at hc_HNG)))))
  go_wp2_with (first | (go_at_call 64; refine (sem_reduced (B := B) _ (p := m4) (q := m3) (by omega) ?_ ?_ HO2.out.1 HO2.out.2.1 HO2.out.2.2).mono ?_; exact Xf; exact Xf; rw [HRR.out]; rintro e w5 ⟨v5, rfl, ⟨A7, c7, A8, c8, rfl, hs1, hs2⟩, hb⟩; have n_ := Aside0.mk (Env.cons (Env.cons (Env.below Xe hb) (hs1)) (hs2)); have nb_ := Aside0.mk (below_step (w := w) Xb hb); have hz5 := hb.size; (try simp at hz5); clear HE HB; have HE := n_; have HB := nb_; clear n_ nb_; replace HX := Aside0.mk (Vr.below (g := w.heap.size) Z5 hb); replace HY := Aside0.mk (Vr.below (g := w.heap.size + 1) Z5 hb); replace HR := Aside0.mk (Vr.below (g := w.heap.size + 1 + 1) Z5 hb); replace HQ := Aside0.mk (Vr.below (g := w1.heap.size + 1 + 1) Z5 hb); replace HSM := Aside0.mk (Vr.below (g := w1.heap.size + 1 + 1 + 1) Z5 hb); replace HNG := Aside0.mk (Vr.below (g := w1.heap.size + 1 + 1 + 1 + 1) Z5 hb); (try clear hc_HX hf_HX hl_HX); (try clear hc_HY hf_HY hl_HY); (try clear hc_HR hf_HR hl_HR); (try clear hc_HQ hf_HQ hl_HQ); (try clear hc_HSM hf_HSM hl_HSM); (try clear hc_HNG hf_HNG hl_HNG); (first | obtain ⟨hc_HX, hf_HX, hl_HX⟩ := Vr.q3 HX.out | (obtain ⟨hc_HX, hf_HX, hl_HX⟩ := Vr.p3 HX.out; (try simp at hc_HX))); (first | obtain ⟨hc_HY, hf_HY, hl_HY⟩ := Vr.q3 HY.out | (obtain ⟨hc_HY, hf_HY, hl_HY⟩ := Vr.p3 HY.out; (try simp at hc_HY))); (first | obtain ⟨hc_HR, hf_HR, hl_HR⟩ := Vr.q3 HR.out | (obtain ⟨hc_HR, hf_HR, hl_HR⟩ := Vr.p3 HR.out; (try simp at hc_HR))); (first | obtain ⟨hc_HQ, hf_HQ, hl_HQ⟩ := Vr.q1 HQ.out | (obtain ⟨hc_HQ, hf_HQ, hl_HQ⟩ := Vr.p1 HQ.out; (try simp at hc_HQ))); (first | obtain ⟨hc_HSM, hf_HSM, hl_HSM⟩ := Vr.q1 HSM.out | (obtain ⟨hc_HSM, hf_HSM, hl_HSM⟩ := Vr.p1 HSM.out; (try simp at hc_HSM))); (first | obtain ⟨hc_HNG, hf_HNG, hl_HNG⟩ := Vr.q1 HNG.out | (obtain ⟨hc_HNG, hf_HNG, hl_HNG⟩ := Vr.p1 HNG.out; (try simp at hc_HNG))); clear hb))
  all_goals
    refine bodyPost_ret (results_list (rs := [.cell 4 27, .tmp 5]) rfl (by simp) (vals_vr Xv rfl Try.underlying27 rfl Z6 (.tmp .nil))) rfl ?_
    exact ⟨_, rfl, ⟨_, _, _, _, rfl, Xf, Xf⟩, Xb⟩
end Go.Proofs.Ytbjamhkhocjdkaa.Px
namespace Go.Proofs.Ytbjamhkhocjdkaa.Px
open Go.RowKit Go.Proofs.YtbjamhkhocjdkaaW.PrintWords Go.Proofs.YtbjamhkhocjdkaaW.PrintLast Go.Proofs.YtbjamhkhocjdkaaW.PrintMore Go.Proofs.Ytbjamhkhocjdkaa.Mat
set_option linter.unusedVariables false
set_option linter.unusedSimpArgs false
def addR (x y : Rt) : Rt × Int := if rvB x = true ∧ rvB y = true then (if (mulS x.p y.q).2 = 0 ∧ (mulS y.p x.q).2 = 0 ∧ (mulS x.q y.q).2 = 0 ∧ (plusS x.neg (mulS x.p y.q).1 y.neg (mulS y.p x.q).1).2.2 = 0 then (redS (plusS x.neg (mulS x.p y.q).1 y.neg (mulS y.p x.q).1).1 (plusS x.neg (mulS x.p y.q).1 y.neg (mulS y.p x.q).1).2.1 (mulS x.q y.q).1, 0) else (zR, 2)) else (zR, 3)
theorem fitS_ok {n : Int} (h0 : 0 ≤ n) : okN (fitS n).1 = true ∧ ((fitS n).2 = 0 ∨ (fitS n).2 = 2) := by
  rcases fitS_cases n with h | h
  · have := fit_facts h0 h
    rw [h]
    exact ⟨this.1, .inl rfl⟩
  · rw [h]
    exact ⟨rfl, .inr rfl⟩
theorem plusS_ok {m n : Bool} {a b : List Int} (ha : okN a = true) (hb : okN b = true) : okN (plusS m a n b).2.1 = true ∧ ((plusS m a n b).2.2 = 0 ∨ (plusS m a n b).2.2 = 2) := by
  have oa := okN_iff.1 ha
  have ob := okN_iff.1 hb
  have na := oa.nonneg
  have nb := ob.nonneg
  unfold plusS
  split
  · have : addS a b = fitS (val a + val b) := by unfold addS; rw [if_pos ⟨ha, hb⟩]
    simp only [this]
    exact fitS_ok (by omega)
  · split
    · rename_i h
      have h' : val a < val b := by
        unfold cmpS at h
        split at h
        · assumption
        · split at h <;> omega
      have : subS b a = (dg (val b - val a), 0) := by unfold subS; rw [if_pos ⟨hb, ha⟩, if_neg (by omega)]
      simp only [this]
      refine ⟨okN_iff.2 (ok_dg (by omega) (by have := ob.lt; omega)), by simp⟩
    · rename_i h
      have h' : val b ≤ val a := by
        unfold cmpS at h
        split at h
        · omega
        · omega
      have : subS a b = (dg (val a - val b), 0) := by unfold subS; rw [if_pos ⟨ha, hb⟩, if_neg (by omega)]
      simp only [this]
      refine ⟨okN_iff.2 (ok_dg (by omega) (by have := oa.lt; omega)), by simp⟩
theorem sem_Add {x y : Rt} {v v' : Value} {w : World} {B : Nat} (hB : B ≤ w.heap.size) (h : RaF B w v x) (h' : RaF B w v' y) : Calls Try.prog 52 #[v, v'] w (GiveR B w (addR x y)) := by
  unfold addR
  by_cases hv1 : rvB x = true
  rotate_left
  · rw [if_neg (fun h => hv1 h.1)]
    exact sem_Add_a false (rvB y) (by simpa using hv1) rfl (by simp) hB h h'
  by_cases hv2 : rvB y = true
  rotate_left
  · rw [if_neg (fun h => hv2 h.2)]
    exact sem_Add_a true false hv1 (by simpa using hv2) (by simp) hB h h'
  rw [if_pos ⟨hv1, hv2⟩]
  obtain ⟨x1, x2, x3, x4, x5⟩ := rvB_iff.1 hv1
  obtain ⟨y1, y2, y3, y4, y5⟩ := rvB_iff.1 hv2
  have n1 := (okN_iff.1 x1).nonneg
  have n2 := (okN_iff.1 y1).nonneg
  have q1 := val_pos (okN_iff.1 x2).2 x3
  have q2 := val_pos (okN_iff.1 y2).2 y3
  have m1 := mulS_ok x1 y2
  have m2 := mulS_ok y1 x2
  have m3 := mulS_ok x2 y2
  have f1 := fitS_ok (Int.mul_nonneg n1 (Int.le_of_lt q2))
  have f2 := fitS_ok (Int.mul_nonneg n2 (Int.le_of_lt q1))
  have f3 := fitS_ok (Int.mul_nonneg (Int.le_of_lt q1) (Int.le_of_lt q2))
  rw [← m1] at f1
  rw [← m2] at f2
  rw [← m3] at f3
  obtain ⟨a1, e1, g1⟩ : ∃ m e, mulS x.p y.q = (m, e) := ⟨_, _, rfl⟩
  obtain ⟨a2, e2, g2⟩ : ∃ m e, mulS y.p x.q = (m, e) := ⟨_, _, rfl⟩
  obtain ⟨a3, e3, g3⟩ : ∃ m e, mulS x.q y.q = (m, e) := ⟨_, _, rfl⟩
  rw [g1] at f1
  rw [g2] at f2
  rw [g3] at f3
  have f4 := plusS_ok (m := x.neg) (n := y.neg) f1.1 f2.1
  obtain ⟨n', a4, e4, g4⟩ : ∃ n m e, plusS x.neg a1 y.neg a2 = (n, m, e) := ⟨_, _, _, rfl⟩
  rw [g1, g2, g3]
  simp only [g4] at f4 ⊢
  by_cases hz : e1 = 0 ∧ e2 = 0 ∧ e3 = 0 ∧ e4 = 0
  · rw [if_pos hz]
    obtain ⟨rfl, rfl, rfl, rfl⟩ := hz
    have k3 := fit_facts (Int.mul_nonneg (Int.le_of_lt q1) (Int.le_of_lt q2)) (m3.symm.trans g3)
    exact sem_Add_d g1 g2 g3 g4 ⟨f1.1, f2.1⟩ ⟨f4.1, f3.1, k3.2.2.1 (by have := Int.mul_pos q1 q2; omega)⟩ hv1 hv2 hB h h'
  · rw [if_neg hz]
    refine sem_Add_b g1 g2 g3 g4 ⟨f1.1, f2.1⟩ ?_ (by decide) hv1 hv2 hB h h'
    obtain ⟨_, b1⟩ := f1
    obtain ⟨_, b2⟩ := f2
    obtain ⟨_, b3⟩ := f3
    obtain ⟨_, b4⟩ := f4
    simp only at b1 b2 b3 b4
    repeat' split
    all_goals omega
theorem step_copy {ops : Array Oper} {o : Oper} {a : Act} {K : Act → World → Prop} {Q : Exit → Act → World → Prop} {E : Prop} {w : World} {B : Nat} {p : List Int} {A : Option Addr} {c : Nat} (hgd : o.guard = none) (s x : Operand)
    (ho : o.op = .call { callee := .builtin .append, args := #[s, x], argTypes := #[25, 25] }) (hs : a.eval s = .slice none 0 0) (hx : a.eval x = .slice A p.length c) (hf : Fr B w (.slice A p.length c) p) (hl : p.length ≤ 48)
    (h : ∀ A' c' w', (∀ B, Fr B w' (.slice A' p.length c') p) → Below w.heap.size w w' → K (a.put o.dst (.slice A' p.length c')) w') :
    if Region.wanted o (yielded ops a.tmps) = true then Oper.wp Try.prog o a w K Q else E := by
  have hw : Region.wanted o (yielded ops a.tmps) = true := by simp [Region.wanted, hgd]
  obtain ⟨⟨A1, c1, e1, hc1, hC⟩, _⟩ := hf
  have e2 : A = A1 := by injection e1
  subst e2
  have H := Kd.R_append_rows_step (P := Try.prog) (Kc := K) (Q := Q) (ops := ops) (w0 := w) (W := w) (Kd.int .i64) (Rr := (Kd.int .i64).K w) w.heap.size hw s x 25 3 (.int .i64 0) 8 ho Try.underlying25 Z6 rfl (by decide) (by decide) (.slice none 0 0) [] p A p.length c (fun _ => True) (fun _ => False) hs hx (Kd.R_nil _ _ _ _ _) hC (fun _ _ h => h) (fun _ h => h.elim) (fun _ _ => trivial) (Below.refl _ _) (Nat.le_refl _) Z20
    (fun v1 w1 hR hb hg _ => by
      obtain ⟨A', c', e⟩ := Kd.R_slice hR
      subst e
      rw [List.nil_append] at hR ⊢
      exact h A' c' w1 (fun B => Fr.of_R hR) hb)
  rw [if_pos hw] at H ⊢
  exact H
theorem Vr.at {w : World} {g t o : Nat} {cs : Array Value} {v : Value} (h : Vr w g cs t) (e : cs[o]? = some v) : w.cell? ⟨g, o, none⟩ = some v := (h.cell o).trans e
def negR (x : Rt) : Rt := ⟨!x.neg && decide (0 < x.p.length), x.p, x.q⟩
set_option maxHeartbeats 2000000 in
theorem sem_minus {x : Rt} {v : Value} {w : World} {B : Nat} (hB : B ≤ w.heap.size) (h : RaF B w v x) (hn : x.neg = false) (hl : x.p.length ≤ 48 ∧ x.q.length ≤ 48) : Calls Try.prog 73 #[v] w fun e w' => ∃ v', e = .returned v' ∧ RaF B w' v' (negR x) ∧ Below w.heap.size w w' := by
  obtain ⟨A1, c1, A2, c2, rfl, h1, h2⟩ := h
  obtain ⟨ng, p, q⟩ := x
  obtain ⟨l1, l2⟩ := hl
  simp only at l1 l2 hn
  subst hn
  obtain ⟨nn, hnn⟩ : ∃ b, (!false && decide (0 < p.length)) = b := ⟨_, rfl⟩
  have HN := Aside0.mk hnn
  unfold negR
  simp only
  rw [hnn]
  have HE := Aside0.mk (((Env.nil B w).cons h2).cons h1)
  have HB := Aside0.mk (Below.refl w.heap.size w)
  clear h1 h2 hnn
  · have hN := HN.out
    simp at hN
    subst hN
    clear HN
    go_enter Try.func73, Try.ntmps73
    go_wp2_with (fail)
    go_region_held3 (fun w' => w'.cell? ⟨w.heap.size, 0, none⟩ = some (.bool false) ∧ w'.cell? ⟨w.heap.size, 1, none⟩ = some (.slice A1 p.length c1) ∧ w'.cell? ⟨w.heap.size, 2, none⟩ = some (.slice A2 q.length c2)) ((repeat' apply And.intro) <;> (first | with_reducible exact hc_HX.1 | with_reducible exact hc_HX.2.1 | with_reducible exact hc_HX.2.2 | (apply Vr.at; exact Xv; rfl))) (first | (refine step_copy (B := B) (p := p) (A := A1) (c := c1) (by rfl) _ _ (by rfl) (by rfl) (by rfl) Xf (by assumption) ?_; intro A5 c5 w5 hs hb; have n_ := Aside0.mk (Env.cons (Env.below Xe hb) ((hs B))); have nb_ := Aside0.mk (below_step (w := w) Xb hb); have hz5 := hb.size; (try simp at hz5); clear HE HB; have HE := n_; have HB := nb_; clear n_ nb_; replace HX := Aside0.mk (Vr.below (g := w.heap.size) Z5 hb); replace HR := Aside0.mk (Vr.below (g := w.heap.size + 1) Z5 hb); (try clear hc_HX hf_HX hl_HX); (try clear hc_HR hf_HR hl_HR); (first | obtain ⟨hc_HX, hf_HX, hl_HX⟩ := Vr.q3 HX.out | (obtain ⟨hc_HX, hf_HX, hl_HX⟩ := Vr.p3 HX.out; (try simp at hc_HX))); (first | obtain ⟨hc_HR, hf_HR, hl_HR⟩ := Vr.q3 HR.out | (obtain ⟨hc_HR, hf_HR, hl_HR⟩ := Vr.p3 HR.out; (try simp at hc_HR))); clear hb) | (refine step_copy (B := B) (p := q) (A := A2) (c := c2) (by rfl) _ _ (by rfl) (by rfl) (by rfl) Xf (by assumption) ?_; intro A6 c6 w6 hs hb; have n_ := Aside0.mk (Env.cons (Env.below Xe hb) ((hs B))); have nb_ := Aside0.mk (below_step (w := w) Xb hb); have hz6 := hb.size; (try simp at hz6); clear HE HB; have HE := n_; have HB := nb_; clear n_ nb_; replace HX := Aside0.mk (Vr.below (g := w.heap.size) Z5 hb); replace HR := Aside0.mk (Vr.below (g := w.heap.size + 1) Z5 hb); (try clear hc_HX hf_HX hl_HX); (try clear hc_HR hf_HR hl_HR); (first | obtain ⟨hc_HX, hf_HX, hl_HX⟩ := Vr.q3 HX.out | (obtain ⟨hc_HX, hf_HX, hl_HX⟩ := Vr.p3 HX.out; (try simp at hc_HX))); (first | obtain ⟨hc_HR, hf_HR, hl_HR⟩ := Vr.q3 HR.out | (obtain ⟨hc_HR, hf_HR, hl_HR⟩ := Vr.p3 HR.out; (try simp at hc_HR))); clear hb) | (refine step_copy (B := B) (p := p) (A := A1) (c := c1) (by rfl) _ _ (by rfl) (by rfl) (by rfl) Xf (by assumption) ?_; intro A5 c5 w5 hs hb; have n_ := Aside0.mk (Env.cons (Env.below Xe hb) ((hs B))); have nb_ := Aside0.mk (below_step (w := w) Xb hb); have hz5 := hb.size; (try simp at hz5); clear HE HB; have HE := n_; have HB := nb_; clear n_ nb_; have HX := Aside0.mk (Vr.below (g := w.heap.size) Z5 hb); have HR := Aside0.mk (Vr.below (g := w.heap.size + 1) Z5 hb); (first | obtain ⟨hc_HX, hf_HX, hl_HX⟩ := Vr.q3 HX.out | (obtain ⟨hc_HX, hf_HX, hl_HX⟩ := Vr.p3 HX.out; (try simp at hc_HX))); (first | obtain ⟨hc_HR, hf_HR, hl_HR⟩ := Vr.q3 HR.out | (obtain ⟨hc_HR, hf_HR, hl_HR⟩ := Vr.p3 HR.out; (try simp at hc_HR))); clear hb) | (refine step_copy (B := B) (p := q) (A := A2) (c := c2) (by rfl) _ _ (by rfl) (by rfl) (by rfl) Xf (by assumption) ?_; intro A6 c6 w6 hs hb; have n_ := Aside0.mk (Env.cons (Env.below Xe hb) ((hs B))); have nb_ := Aside0.mk (below_step (w := w) Xb hb); have hz6 := hb.size; (try simp at hz6); clear HE HB; have HE := n_; have HB := nb_; clear n_ nb_; have HX := Aside0.mk (Vr.below (g := w.heap.size) Z5 hb); have HR := Aside0.mk (Vr.below (g := w.heap.size + 1) Z5 hb); (first | obtain ⟨hc_HX, hf_HX, hl_HX⟩ := Vr.q3 HX.out | (obtain ⟨hc_HX, hf_HX, hl_HX⟩ := Vr.p3 HX.out; (try simp at hc_HX))); (first | obtain ⟨hc_HR, hf_HR, hl_HR⟩ := Vr.q3 HR.out | (obtain ⟨hc_HR, hf_HR, hl_HR⟩ := Vr.p3 HR.out; (try simp at hc_HR))); clear hb))
    all_goals
     (try go_wp2_with (fail))
     refine bodyPost_ret (results_single rfl (vals_vr Xv rfl Try.underlying27 rfl Z6 .nil)) rfl ?_
     exact ⟨_, rfl, ⟨_, _, _, _, rfl, Xf, Xf⟩, Xb⟩
def GiveQ (B : Nat) (w : World) (r : Rt) (er : Int) (e : Ending) (w' : World) : Prop := ∃ A c D d, e = .returned (.tuple #[.agg #[.bool r.neg, .slice A r.p.length c, .slice D r.q.length d], .int .i64 er]) ∧ Fr B w' (.slice A r.p.length c) r.p ∧ Fr B w' (.slice D r.q.length d) r.q ∧ Below w.heap.size w w'
def GiveV (B : Nat) (w : World) (r : Rt) (e : Ending) (w' : World) : Prop := ∃ A c D d, e = .returned (.agg #[.bool r.neg, .slice A r.p.length c, .slice D r.q.length d]) ∧ Fr B w' (.slice A r.p.length c) r.p ∧ Fr B w' (.slice D r.q.length d) r.q ∧ Below w.heap.size w w'
theorem GiveR.q {B : Nat} {w : World} {z : Rt × Int} {r : Rt} {er : Int} {e : Ending} {w' : World} (h : GiveR B w z e w') (hz : z = (r, er)) : GiveQ B w r er e w' := by
  subst hz
  obtain ⟨v, he, ⟨A, c, D, d, rfl, h1, h2⟩, hb⟩ := h
  exact ⟨A, c, D, d, he, h1, h2, hb⟩
theorem GiveQ.r {B : Nat} {w : World} {z : Rt × Int} {e : Ending} {w' : World} (h : GiveQ B w z.1 z.2 e w') : GiveR B w z e w' := by
  obtain ⟨A, c, D, d, he, h1, h2, hb⟩ := h
  exact ⟨_, he, ⟨A, c, D, d, rfl, h1, h2⟩, hb⟩
theorem q_Mul {x y r : Rt} {er : Int} {v v' : Value} {w : World} {B : Nat} (hz : mulR x y = (r, er)) (hB : B ≤ w.heap.size) (h : RaF B w v x) (h' : RaF B w v' y) : Calls Try.prog 49 #[v, v'] w (GiveQ B w r er) := (sem_Mul hB h h').mono fun _ _ h => h.q hz
theorem q_Add {x y r : Rt} {er : Int} {v v' : Value} {w : World} {B : Nat} (hz : addR x y = (r, er)) (hB : B ≤ w.heap.size) (h : RaF B w v x) (h' : RaF B w v' y) : Calls Try.prog 52 #[v, v'] w (GiveQ B w r er) := (sem_Add hB h h').mono fun _ _ h => h.q hz
theorem q_Make {p q : Int} {r : Rt} {er : Int} {w : World} {B : Nat} (hz : makeS p q = (r, er)) (hB : B ≤ w.heap.size) : Calls Try.prog 50 #[.int .i64 p, .int .i64 q] w (GiveQ B w r er) := (sem_Make p q hB).mono fun _ _ h => h.q hz
theorem q_Of {p : Int} {r : Rt} {er : Int} {w : World} {B : Nat} (hz : makeS p 1 = (r, er)) (hB : B ≤ w.heap.size) : Calls Try.prog 32 #[.int .i64 p] w (GiveQ B w r er) := (sem_Of p hB).mono fun _ _ h => h.q hz
theorem q_minus {x r : Rt} {v : Value} {w : World} {B : Nat} (hz : negR x = r) (hB : B ≤ w.heap.size) (h : RaF B w v x) (hn : x.neg = false) (hl : x.p.length ≤ 48 ∧ x.q.length ≤ 48) : Calls Try.prog 73 #[v] w (GiveV B w r) := (sem_minus hB h hn hl).mono fun _ _ h => by
  subst hz
  obtain ⟨v, he, ⟨A, c, D, d, rfl, h1, h2⟩, hb⟩ := h
  exact ⟨A, c, D, d, he, h1, h2, hb⟩
def subR (x y : Rt) : Rt × Int := if rvB x = true ∧ rvB y = true then addR x (negR y) else (zR, 3)
set_option maxHeartbeats 400000 in
theorem sem_Sub_a {x y : Rt} {v v' : Value} {w : World} {B : Nat} (b1 b2 : Bool) (hv1 : rvB x = b1) (hv2 : rvB y = b2) (hb12 : (b1 && b2) = false) (hB : B ≤ w.heap.size) (h : RaF B w v x) (h' : RaF B w v' y) : Calls Try.prog 53 #[v, v'] w (GiveR B w (zR, 3)) := by
  obtain ⟨A1, c1, A2, c2, rfl, h1, h2⟩ := h
  obtain ⟨A3, c3, A4, c4, rfl, h3, h4⟩ := h'
  obtain ⟨ng, p, q⟩ := x
  obtain ⟨ng', p', q'⟩ := y
  have HE := Aside0.mk (((((Env.nil B w).cons h4).cons h3).cons h2).cons h1)
  have HB := Aside0.mk (Below.refl w.heap.size w)
  have HV := Aside0.mk (And.intro hv1 hv2)
  simp only
  clear h1 h2 h3 h4 hv1 hv2
  go_enter Try.func53, Try.ntmps53
  go_wp2_with (first | (go_at_call 61; refine (sem_valid2_a (B := B) (x := ⟨ng, p, q⟩) (y := ⟨ng', p', q'⟩) (g := w.heap.size + 1 + 1 + 1) (t := 27) Z20 (by omega) (by decide) b1 b2 HV.out.1 HV.out.2 Xv ?_ ?_ ?_ ?_).mono ?_; exact Xf; exact Xf; exact Xf; exact Xf; rintro e w1 ⟨rfl, hb⟩; clear HV; have n_ := Aside0.mk (Env.below Xe hb); have nb_ := Aside0.mk (below_step (w := w) Xb hb); have hz1 := hb.size; (try simp at hz1); clear HE HB; have HE := n_; have HB := nb_; clear n_ nb_; have HX := Aside0.mk (Vr.below (g := w.heap.size) Z5 hb); have HY := Aside0.mk (Vr.below (g := w.heap.size + 1) Z5 hb); have HR := Aside0.mk (Vr.below (g := w.heap.size + 1 + 1) Z5 hb); obtain ⟨hc_HX, hf_HX, hl_HX⟩ := Vr.q3 HX.out; obtain ⟨hc_HY, hf_HY, hl_HY⟩ := Vr.q3 HY.out; obtain ⟨hc_HR, hf_HR, hl_HR⟩ := Vr.q3 HR.out; clear hb))
  all_goals
    refine bodyPost_ret (results_list (rs := [.cell 4 27, .tmp 5]) rfl (by simp) (vals_vr Xv rfl Try.underlying27 rfl Z6 (.tmp .nil))) rfl ?_
    exact ⟨_, rfl, ⟨_, _, _, _, rfl, Xf, Xf⟩, Xb⟩
set_option maxHeartbeats 1000000 in
theorem sem_Sub_d {x y m r : Rt} {er : Int} {v v' : Value} {w : World} {B : Nat} (hm : negR y = m) (ha : addR x m = (r, er)) (hv1 : rvB x = true) (hv2 : rvB y = true) (hn : y.neg = false) (hl : y.p.length ≤ 48 ∧ y.q.length ≤ 48) (hB : B ≤ w.heap.size) (h : RaF B w v x) (h' : RaF B w v' y) : Calls Try.prog 53 #[v, v'] w (GiveR B w (r, er)) := by
  obtain ⟨A1, c1, A2, c2, rfl, h1, h2⟩ := h
  obtain ⟨A3, c3, A4, c4, rfl, h3, h4⟩ := h'
  obtain ⟨ng, p, q⟩ := x
  obtain ⟨ng', p', q'⟩ := y
  have HE := Aside0.mk (((((Env.nil B w).cons h4).cons h3).cons h2).cons h1)
  have HB := Aside0.mk (Below.refl w.heap.size w)
  have HV := Aside0.mk (And.intro hv1 hv2)
  have HM := Aside0.mk hm
  have HA := Aside0.mk ha
  have HL := Aside0.mk (And.intro hn hl)
  simp only
  clear h1 h2 h3 h4 hv1 hv2 hm ha hl hn
  go_enter Try.func53, Try.ntmps53
  go_wp2_with (first | (go_at_call 61; refine (sem_valid2_a (B := B) (x := ⟨ng, p, q⟩) (y := ⟨ng', p', q'⟩) (g := w.heap.size + 1 + 1 + 1) (t := 27) Z20 (by omega) (by decide) true true HV.out.1 HV.out.2 Xv ?_ ?_ ?_ ?_).mono ?_; exact Xf; exact Xf; exact Xf; exact Xf; rintro e w1 ⟨rfl, hb⟩; clear HV; have n_ := Aside0.mk (Env.below Xe hb); have nb_ := Aside0.mk (below_step (w := w) Xb hb); have hz1 := hb.size; (try simp at hz1); clear HE HB; have HE := n_; have HB := nb_; clear n_ nb_; have HX := Aside0.mk (Vr.below (g := w.heap.size) Z5 hb); have HY := Aside0.mk (Vr.below (g := w.heap.size + 1) Z5 hb); have HR := Aside0.mk (Vr.below (g := w.heap.size + 1 + 1) Z5 hb); obtain ⟨hc_HX, hf_HX, hl_HX⟩ := Vr.q3 HX.out; obtain ⟨hc_HY, hf_HY, hl_HY⟩ := Vr.q3 HY.out; obtain ⟨hc_HR, hf_HR, hl_HR⟩ := Vr.q3 HR.out; clear hb))
  go_region_held3 (fun w' => w'.cell? ⟨w.heap.size, 0, none⟩ = some (.bool ng) ∧ w'.cell? ⟨w.heap.size, 1, none⟩ = some (.slice A1 p.length c1) ∧ w'.cell? ⟨w.heap.size, 2, none⟩ = some (.slice A2 q.length c2) ∧ w'.cell? ⟨w.heap.size + 1, 0, none⟩ = some (.bool ng') ∧ w'.cell? ⟨w.heap.size + 1, 1, none⟩ = some (.slice A3 p'.length c3) ∧ w'.cell? ⟨w.heap.size + 1, 2, none⟩ = some (.slice A4 q'.length c4)) ((repeat' apply And.intro) <;> (first | with_reducible exact hc_HX.1 | with_reducible exact hc_HX.2.1 | with_reducible exact hc_HX.2.2 | with_reducible exact hc_HY.1 | with_reducible exact hc_HY.2.1 | with_reducible exact hc_HY.2.2 | (apply Vr.at; exact Xv; rfl))) (first | (go_at_call 73; refine (q_minus (B := B) (x := ⟨ng', p', q'⟩) (r := m) HM.out Z10 ?_ HL.out.1 HL.out.2).mono ?_; exact ⟨_, _, _, _, rfl, Xf, Xf⟩; rintro e w2 ⟨A5, c5, A6, c6, rfl, hs1, hs2, hb⟩; have n_ := Aside0.mk (Env.cons (Env.cons (Env.below Xe hb) (hs1)) (hs2)); have nb_ := Aside0.mk (below_step (w := w) Xb hb); have hz2 := hb.size; (try simp at hz2); clear HE HB; have HE := n_; have HB := nb_; clear n_ nb_; replace HX := Aside0.mk (Vr.below (g := w.heap.size) Z5 hb); replace HY := Aside0.mk (Vr.below (g := w.heap.size + 1) Z5 hb); replace HR := Aside0.mk (Vr.below (g := w.heap.size + 1 + 1) Z5 hb); (try clear hc_HX hf_HX hl_HX); (try clear hc_HY hf_HY hl_HY); (try clear hc_HR hf_HR hl_HR); obtain ⟨hc_HX, hf_HX, hl_HX⟩ := Vr.q3 HX.out; obtain ⟨hc_HY, hf_HY, hl_HY⟩ := Vr.q3 HY.out; obtain ⟨hc_HR, hf_HR, hl_HR⟩ := Vr.q3 HR.out; clear hb) | (go_at_call 52; refine (q_Add (B := B) (x := ⟨ng, p, q⟩) (y := m) (r := r) (er := er) HA.out Z10 ?_ ?_).mono ?_; exact ⟨_, _, _, _, rfl, Xf, Xf⟩; exact ⟨_, _, _, _, rfl, Xf, Xf⟩; rintro e w3 ⟨A7, c7, A8, c8, rfl, hs1, hs2, hb⟩; have n_ := Aside0.mk (Env.cons (Env.cons (Env.below Xe hb) (hs1)) (hs2)); have nb_ := Aside0.mk (below_step (w := w) Xb hb); have hz3 := hb.size; (try simp at hz3); clear HE HB; have HE := n_; have HB := nb_; clear n_ nb_; replace HX := Aside0.mk (Vr.below (g := w.heap.size) Z5 hb); replace HY := Aside0.mk (Vr.below (g := w.heap.size + 1) Z5 hb); replace HR := Aside0.mk (Vr.below (g := w.heap.size + 1 + 1) Z5 hb); (try clear hc_HX hf_HX hl_HX); (try clear hc_HY hf_HY hl_HY); (try clear hc_HR hf_HR hl_HR); obtain ⟨hc_HX, hf_HX, hl_HX⟩ := Vr.q3 HX.out; obtain ⟨hc_HY, hf_HY, hl_HY⟩ := Vr.q3 HY.out; obtain ⟨hc_HR, hf_HR, hl_HR⟩ := Vr.q3 HR.out; clear hb))
  all_goals
    (try go_wp2_with (fail))
    refine bodyPost_ret (results_list (rs := [.cell 4 27, .tmp 5]) rfl (by simp) (vals_vr Xv rfl Try.underlying27 rfl Z6 (.tmp .nil))) rfl ?_
    exact ⟨_, rfl, ⟨_, _, _, _, rfl, Xf, Xf⟩, Xb⟩
theorem sem_Sub {x y : Rt} {v v' : Value} {w : World} {B : Nat} (hn : y.neg = false) (hB : B ≤ w.heap.size) (h : RaF B w v x) (h' : RaF B w v' y) : Calls Try.prog 53 #[v, v'] w (GiveR B w (subR x y)) := by
  unfold subR
  by_cases hv1 : rvB x = true
  rotate_left
  · rw [if_neg (fun h => hv1 h.1)]
    exact sem_Sub_a false (rvB y) (by simpa using hv1) rfl (by simp) hB h h'
  by_cases hv2 : rvB y = true
  rotate_left
  · rw [if_neg (fun h => hv2 h.2)]
    exact sem_Sub_a true false hv1 (by simpa using hv2) (by simp) hB h h'
  rw [if_pos ⟨hv1, hv2⟩]
  obtain ⟨y1, y2, y3, y4, y5⟩ := rvB_iff.1 hv2
  exact sem_Sub_d rfl rfl hv1 hv2 hn ⟨by have := (okN_iff.1 y1).1; omega, by have := (okN_iff.1 y2).1; omega⟩ hB h h'
theorem q_Sub {x y r : Rt} {er : Int} {v v' : Value} {w : World} {B : Nat} (hz : subR x y = (r, er)) (hn : y.neg = false) (hB : B ≤ w.heap.size) (h : RaF B w v x) (h' : RaF B w v' y) : Calls Try.prog 53 #[v, v'] w (GiveQ B w r er) := (sem_Sub hn hB h h').mono fun _ _ h => h.q hz
def timesR (x : Rt) (p q : Int) : Rt := (mulR x (makeS p q).1).1
set_option maxHeartbeats 400000 in
theorem sem_value (b : Bool) (v1 v2 : Value) (hv1 : ∃ A n c, v1 = .slice A n c) (hv2 : ∃ A n c, v2 = .slice A n c) (e : Int) {w : World} : Calls Try.prog 31 #[.agg #[.bool b, v1, v2], .int .i64 e] w fun e' w' => e' = .returned (.agg #[.bool b, v1, v2]) ∧ Below w.heap.size w w' := by
  obtain ⟨A1, n1, c1, rfl⟩ := hv1
  obtain ⟨A2, n2, c2, rfl⟩ := hv2
  have HB := Aside0.mk (Below.refl w.heap.size w)
  go_enter Try.func31, Try.ntmps31
  go_wp2_with (fail)
  all_goals
    refine bodyPost_ret (results_single rfl (vals_vr Xv rfl Try.underlying27 rfl Z6 .nil)) rfl ?_
    exact ⟨rfl, Xb⟩
set_option maxHeartbeats 400000 in
theorem sem_times {x : Rt} {v : Value} {w : World} {B : Nat} (n m : Int) (hB : B ≤ w.heap.size) (h : RaF B w v x) : Calls Try.prog 30 #[v, .int .i64 n, .int .i64 m] w (GiveV B w (timesR x n m)) := by
  unfold timesR
  obtain ⟨A1, c1, A2, c2, rfl, h1, h2⟩ := h
  obtain ⟨ng, p, q⟩ := x
  obtain ⟨r1, e1, hm⟩ : ∃ r e, makeS n m = (r, e) := ⟨_, _, rfl⟩
  obtain ⟨r2, e2, hu⟩ : ∃ r e, mulR ⟨ng, p, q⟩ r1 = (r, e) := ⟨_, _, rfl⟩
  rw [hm, hu]
  have HM := Aside0.mk hm
  have HU := Aside0.mk hu
  simp only
  have HE := Aside0.mk (((Env.nil B w).cons h2).cons h1)
  have HB := Aside0.mk (Below.refl w.heap.size w)
  clear h1 h2 hm hu
  go_enter Try.func30, Try.ntmps30
  go_wp2_with (fail)
  go_region_held3 (fun w' => w'.cell? ⟨w.heap.size, 0, none⟩ = some (.bool ng) ∧ w'.cell? ⟨w.heap.size, 1, none⟩ = some (.slice A1 p.length c1) ∧ w'.cell? ⟨w.heap.size, 2, none⟩ = some (.slice A2 q.length c2)) ((repeat' apply And.intro) <;> (first | with_reducible exact hc_HX.1 | with_reducible exact hc_HX.2.1 | with_reducible exact hc_HX.2.2 | (apply Vr.at; exact Xv; rfl))) (first | (go_at_call 50; refine (q_Make (B := B) (r := r1) (er := e1) HM.out Z20).mono ?_; rintro e w1 ⟨A5, c5, A6, c6, rfl, hs1, hs2, hb⟩; have n_ := Aside0.mk (Env.cons (Env.cons (Env.below Xe hb) (hs1)) (hs2)); have nb_ := Aside0.mk (below_step (w := w) Xb hb); have hz1 := hb.size; (try simp at hz1); clear HE HB; have HE := n_; have HB := nb_; clear n_ nb_; have HX := Aside0.mk (Vr.below (g := w.heap.size) Z5 hb); have HR := Aside0.mk (Vr.below (g := w.heap.size + 1) Z5 hb); obtain ⟨hc_HX, hf_HX, hl_HX⟩ := Vr.q3 HX.out; obtain ⟨hc_HR, hf_HR, hl_HR⟩ := Vr.q3 HR.out; clear hb) | (go_at_call 49; refine (q_Mul (B := B) (x := ⟨ng, p, q⟩) (y := r1) (r := r2) (er := e2) HU.out Z10 ?_ ?_).mono ?_; exact ⟨_, _, _, _, rfl, Xf, Xf⟩; exact ⟨_, _, _, _, rfl, Xf, Xf⟩; rintro e w3 ⟨A7, c7, A8, c8, rfl, hs1, hs2, hb⟩; have n_ := Aside0.mk (Env.cons (Env.cons (Env.below Xe hb) (hs1)) (hs2)); have nb_ := Aside0.mk (below_step (w := w) Xb hb); have hz3 := hb.size; (try simp at hz3); clear HE HB; have HE := n_; have HB := nb_; clear n_ nb_; replace HX := Aside0.mk (Vr.below (g := w.heap.size) Z5 hb); replace HR := Aside0.mk (Vr.below (g := w.heap.size + 1) Z5 hb); (try clear hc_HX hf_HX hl_HX); (try clear hc_HR hf_HR hl_HR); obtain ⟨hc_HX, hf_HX, hl_HX⟩ := Vr.q3 HX.out; obtain ⟨hc_HR, hf_HR, hl_HR⟩ := Vr.q3 HR.out; clear hb) | (go_at_call 31; refine (sem_value _ _ _ ⟨_, _, _, rfl⟩ ⟨_, _, _, rfl⟩ _).mono ?_; rintro e w2 ⟨rfl, hb⟩; have n_ := Aside0.mk (Env.below Xe hb); have nb_ := Aside0.mk (below_step (w := w) Xb hb); have hz2 := hb.size; (try simp at hz2); clear HE HB; have HE := n_; have HB := nb_; clear n_ nb_; replace HX := Aside0.mk (Vr.below (g := w.heap.size) Z5 hb); replace HR := Aside0.mk (Vr.below (g := w.heap.size + 1) Z5 hb); (try clear hc_HX hf_HX hl_HX); (try clear hc_HR hf_HR hl_HR); obtain ⟨hc_HX, hf_HX, hl_HX⟩ := Vr.q3 HX.out; obtain ⟨hc_HR, hf_HR, hl_HR⟩ := Vr.q3 HR.out; clear hb))
  all_goals
    (try go_wp2_with (fail))
    refine bodyPost_ret (results_single rfl (vals_vr Xv rfl Try.underlying27 rfl Z6 .nil)) rfl ?_
    exact ⟨_, _, _, _, rfl, Xf, Xf, Xb⟩
def checkS (f r c : Int) : Int := if f < 0 ∨ 1099511627776 < f then 1 else if r < 1 ∨ 1000 < r ∨ c < 0 ∨ 999 < c then 18 else 0
theorem sem_Check (f r c : Int) {w : World} : Calls Try.prog 12 #[.agg #[.int .i64 f, .int .i64 r, .int .i64 c]] w fun e w' => e = .returned (.int .i64 (checkS f r c)) ∧ Below w.heap.size w w' := by
  have HB := Aside0.mk (Below.refl w.heap.size w)
  unfold checkS
  by_cases h1 : f < 0
  · go_enter Try.func12, Try.ntmps12
    go_wp2
    all_goals first | (go_ret; exact ⟨by simp [*], Xb⟩) | (exfalso; omega)
  by_cases h2 : 1099511627776 < f
  · go_enter Try.func12, Try.ntmps12
    go_wp2
    all_goals first | (go_ret; exact ⟨by simp [*], Xb⟩) | (exfalso; omega)
  by_cases h3 : r < 1
  · go_enter Try.func12, Try.ntmps12
    go_wp2
    all_goals first | (go_ret; exact ⟨by simp [*], Xb⟩) | (exfalso; omega)
  by_cases h4 : 1000 < r
  · go_enter Try.func12, Try.ntmps12
    go_wp2
    all_goals first | (go_ret; exact ⟨by simp [*], Xb⟩) | (exfalso; omega)
  by_cases h5 : c < 0
  · go_enter Try.func12, Try.ntmps12
    go_wp2
    all_goals first | (go_ret; exact ⟨by simp [*], Xb⟩) | (exfalso; omega)
  by_cases h6 : 999 < c
  all_goals
    go_enter Try.func12, Try.ntmps12
    go_wp2
    all_goals first | (go_ret; exact ⟨by simp [*], Xb⟩) | (exfalso; omega)
theorem sem_rCheck (f r c : Int) {w : World} : Calls Try.prog 13 #[.agg #[.int .i64 f, .int .i64 r, .int .i64 c]] w fun e w' => e = .returned (.int .i64 (checkS f r c)) ∧ Below w.heap.size w w' := by
  have HB := Aside0.mk (Below.refl w.heap.size w)
  unfold checkS
  by_cases h1 : f < 0
  · go_enter Try.func13, Try.ntmps13
    go_wp2
    all_goals first | (go_ret; exact ⟨by simp [*], Xb⟩) | (exfalso; omega)
  by_cases h2 : 1099511627776 < f
  · go_enter Try.func13, Try.ntmps13
    go_wp2
    all_goals first | (go_ret; exact ⟨by simp [*], Xb⟩) | (exfalso; omega)
  by_cases h3 : r < 1
  · go_enter Try.func13, Try.ntmps13
    go_wp2
    all_goals first | (go_ret; exact ⟨by simp [*], Xb⟩) | (exfalso; omega)
  by_cases h4 : 1000 < r
  · go_enter Try.func13, Try.ntmps13
    go_wp2
    all_goals first | (go_ret; exact ⟨by simp [*], Xb⟩) | (exfalso; omega)
  by_cases h5 : c < 0
  · go_enter Try.func13, Try.ntmps13
    go_wp2
    all_goals first | (go_ret; exact ⟨by simp [*], Xb⟩) | (exfalso; omega)
  by_cases h6 : 999 < c
  all_goals
    go_enter Try.func13, Try.ntmps13
    go_wp2
    all_goals first | (go_ret; exact ⟨by simp [*], Xb⟩) | (exfalso; omega)
end Go.Proofs.Ytbjamhkhocjdkaa.Px
