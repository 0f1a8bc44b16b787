/- One step on the way to the rows: contracts of the program's functions, each for every argument that its statement names. -/
import Derived.Test.YtbjamhkhocjdkaaDp
import Derived.Outline
import Derived.Deep.RegionHeld3
namespace Go.Proofs.Ytbjamhkhocjdkaa.Px
open Go.RowKit Go.Proofs.YtbjamhkhocjdkaaW.PrintWords Go.Proofs.YtbjamhkhocjdkaaW.PrintLast Go.Proofs.YtbjamhkhocjdkaaW.PrintMore Go.Proofs.Ytbjamhkhocjdkaa.Mat
set_option linter.unusedVariables false
set_option linter.unusedSimpArgs false
set_option maxHeartbeats 400000 in
theorem rplus_a {n' : Bool} {a b s : List Int} {e : Int} {A1 A2 : Option Addr} {c1 c2 : Nat} {w : World} {B : Nat} (h1 : Fr B w (.slice A1 a.length c1) a) (h2 : Fr B w (.slice A2 b.length c2) b) (hm : addS a b = (s, e)) : Calls Try.prog 45 #[.bool n', .slice A1 a.length c1, .bool n', .slice A2 b.length c2] w (fun e' w' => ∃ A k, e' = .returned (.tuple #[.bool n', .slice A s.length k, .int .i64 e]) ∧ Fr B w' (.slice A s.length k) s ∧ Below w.heap.size w w') := by
  have HE := Aside0.mk (((Env.nil B w).cons h2).cons h1)
  have HB := Aside0.mk (Below.refl w.heap.size w)
  have HM := Aside0.mk hm
  clear hm
  clear h1 h2
  cases n'
  all_goals
    go_enter Try.func45, Try.ntmps45
    go_wp2_with (first | (go_at_call 58; refine (sem_ref_Add (a := a) (b := b) ?_ ?_).mono ?_; exact Fr.sl (B := B) Xf; exact Fr.sl (B := B) Xf; rw [HM.out]; rintro e w1 ⟨v0, rfl, hs, hb⟩; obtain ⟨A0, c0, rfl, hs1⟩ := (hs B).open; have n_ := Aside0.mk (Env.cons (Env.below Xe hb) (hs1)); have nb_ := Aside0.mk (below_step (w := w) Xb hb); have hz1 := hb.size; (try simp at hz1); clear HE HB; have HE := n_; have HB := nb_; clear n_ nb_; clear hb))
    all_goals
      refine bodyPost_ret (results_list (rs := [.tmp 8, .tmp 9, .tmp 10]) rfl (by simp) (.tmp (.tmp (.tmp .nil)))) rfl ?_
      exact ⟨A0, c0, rfl, Xf, Xb⟩
set_option maxHeartbeats 400000 in
theorem rplus_b {n' : Bool} {a b s : List Int} {e : Int} {A1 A2 : Option Addr} {c1 c2 : Nat} {w : World} {B : Nat} (h1 : Fr B w (.slice A1 a.length c1) a) (h2 : Fr B w (.slice A2 b.length c2) b) (ho : okN a = true ∧ okN b = true) {r : Int} (hr : cmpS (val a) (val b) = r) (hr0 : ¬ r < 0) (hm : subS a b = (s, e)) : Calls Try.prog 45 #[.bool n', .slice A1 a.length c1, .bool (!n'), .slice A2 b.length c2] w (fun e' w' => ∃ A k, e' = .returned (.tuple #[.bool n', .slice A s.length k, .int .i64 e]) ∧ Fr B w' (.slice A s.length k) s ∧ Below w.heap.size w w') := by
  have HE := Aside0.mk (((Env.nil B w).cons h2).cons h1)
  have HB := Aside0.mk (Below.refl w.heap.size w)
  have HM := Aside0.mk hm
  have HO := Aside0.mk ho
  have HO2 := Aside0.mk hr
  have hr1 : 0 ≤ r := by omega
  clear hm ho hr
  clear h1 h2
  cases n'
  all_goals
    go_enter Try.func45, Try.ntmps45
    go_wp2_with (first | (go_at_call 59; refine (sem_ref_Cmp (a := a) (b := b) ?_ ?_ HO.out.1 HO.out.2).mono ?_; exact Fr.sl (B := B) Xf; exact Fr.sl (B := B) Xf; rw [HO2.out]; rintro e w2 ⟨rfl, hd⟩; obtain ⟨m2, rfl⟩ := hd.out; clear hd) | (go_at_call 60; refine (sem_ref_Sub (a := a) (b := b) ?_ ?_).mono ?_; exact Fr.sl (B := B) Xf; exact Fr.sl (B := B) Xf; rw [HM.out]; rintro e w1 ⟨v0, rfl, hs, hb⟩; obtain ⟨A0, c0, rfl, hs1⟩ := (hs B).open; have n_ := Aside0.mk (Env.cons (Env.below Xe hb) (hs1)); have nb_ := Aside0.mk (below_step (w := w) Xb hb); have hz1 := hb.size; (try simp at hz1); clear HE HB; have HE := n_; have HB := nb_; clear n_ nb_; clear hb))
    all_goals
      refine bodyPost_ret (results_list (rs := [.tmp 8, .tmp 9, .tmp 10]) rfl (by simp) (.tmp (.tmp (.tmp .nil)))) rfl ?_
      exact ⟨A0, c0, rfl, Xf, Xb⟩
set_option maxHeartbeats 400000 in
theorem rplus_c {n' : Bool} {a b s : List Int} {e : Int} {A1 A2 : Option Addr} {c1 c2 : Nat} {w : World} {B : Nat} (h1 : Fr B w (.slice A1 a.length c1) a) (h2 : Fr B w (.slice A2 b.length c2) b) (ho : okN a = true ∧ okN b = true) {r : Int} (hr : cmpS (val a) (val b) = r) (hr0 : r < 0) (hm : subS b a = (s, e)) : Calls Try.prog 45 #[.bool (!n'), .slice A1 a.length c1, .bool n', .slice A2 b.length c2] w (fun e' w' => ∃ A k, e' = .returned (.tuple #[.bool n', .slice A s.length k, .int .i64 e]) ∧ Fr B w' (.slice A s.length k) s ∧ Below w.heap.size w w') := by
  have HE := Aside0.mk (((Env.nil B w).cons h2).cons h1)
  have HB := Aside0.mk (Below.refl w.heap.size w)
  have HM := Aside0.mk hm
  have HO := Aside0.mk ho
  have HO2 := Aside0.mk hr
  have hr1 : ¬ 0 ≤ r := by omega
  clear hm ho hr
  clear h1 h2
  cases n'
  all_goals
    go_enter Try.func45, Try.ntmps45
    go_wp2_with (first | (go_at_call 59; refine (sem_ref_Cmp (a := a) (b := b) ?_ ?_ HO.out.1 HO.out.2).mono ?_; exact Fr.sl (B := B) Xf; exact Fr.sl (B := B) Xf; rw [HO2.out]; rintro e w2 ⟨rfl, hd⟩; obtain ⟨m2, rfl⟩ := hd.out; clear hd) | (go_at_call 60; refine (sem_ref_Sub (a := b) (b := a) ?_ ?_).mono ?_; exact Fr.sl (B := B) Xf; exact Fr.sl (B := B) Xf; rw [HM.out]; rintro e w1 ⟨v0, rfl, hs, hb⟩; obtain ⟨A0, c0, rfl, hs1⟩ := (hs B).open; have n_ := Aside0.mk (Env.cons (Env.below Xe hb) (hs1)); have nb_ := Aside0.mk (below_step (w := w) Xb hb); have hz1 := hb.size; (try simp at hz1); clear HE HB; have HE := n_; have HB := nb_; clear n_ nb_; clear hb))
    all_goals
      refine bodyPost_ret (results_list (rs := [.tmp 8, .tmp 9, .tmp 10]) rfl (by simp) (.tmp (.tmp (.tmp .nil)))) rfl ?_
      exact ⟨A0, c0, rfl, Xf, Xb⟩
theorem sem_rplus {m n : Bool} {n' : Bool} {a b s : List Int} {e : Int} {A1 A2 : Option Addr} {c1 c2 : Nat} {w : World} {B : Nat} (h1 : Fr B w (.slice A1 a.length c1) a) (h2 : Fr B w (.slice A2 b.length c2) b) (ho : okN a = true ∧ okN b = true) (hp : plusS m a n b = (n', s, e)) : Calls Try.prog 45 #[.bool m, .slice A1 a.length c1, .bool n, .slice A2 b.length c2] w (fun e' w' => ∃ A k, e' = .returned (.tuple #[.bool n', .slice A s.length k, .int .i64 e]) ∧ Fr B w' (.slice A s.length k) s ∧ Below w.heap.size w w') := by
  unfold plusS at hp
  split at hp
  · rename_i hnn
    injection hp with h1' h2'
    subst h1' hnn
    exact rplus_a h1 h2 h2'
  · rename_i hnn
    have hnn' : n = !m := by cases m <;> cases n <;> simp at hnn ⊢
    split at hp
    · rename_i hc
      injection hp with h1' h2'
      subst h1'
      have : m = !n := by rw [hnn']; simp
      subst this
      exact rplus_c h1 h2 ho rfl hc h2'
    · rename_i hc
      injection hp with h1' h2'
      subst h1' hnn'
      exact rplus_b h1 h2 ho rfl hc h2'
set_option maxHeartbeats 2000000 in
theorem rAdd_a {x y : Rt} {v v' : Value} {w : World} {B : Nat} {b1 b2 : Bool} (hv1 : rvB x = b1) (hv2 : rvB y = b2) (hb12 : (b1 && b2) = false) (hB : B ≤ w.heap.size) (h : RaF B w v x) (h' : RaF B w v' y) : Calls Try.prog 25 #[v, v'] w (GiveQ B w zR 3) := by
  obtain ⟨A1, c1, A2, c2, rfl, h1, h2⟩ := h
  obtain ⟨A3, c3, A4, c4, rfl, h3, h4⟩ := h'
  have HE := Aside0.mk (((((Env.nil B w).cons h4).cons h3).cons h2).cons h1)
  have HB := Aside0.mk (Below.refl w.heap.size w)
  have HV := Aside0.mk (And.intro hv1 hv2)
  clear h1 h2 h3 h4 hv1 hv2
  cases b1 <;> cases b2
  all_goals (try (simp at hb12; done))
  all_goals
    go_enter Try.func25, Try.ntmps25
    go_wp2_with (first | (have q1_ := hz1; clear q1_; go_at_call 23; refine (sem_rValid (B := B) (x := y) ?_).mono ?_; exact ⟨_, _, _, _, rfl, Xf, Xf⟩; rw [HV.out.2]; rintro e w2 ⟨rfl, hb⟩; have n_ := Aside0.mk (Env.below Xe hb); have nb_ := Aside0.mk (below_step (w := w) Xb hb); have hz2 := hb.size; (try simp at hz2); clear HE HB; have HE := n_; have HB := nb_; clear n_ nb_; replace HX := Aside0.mk (Vr.below (g := w.heap.size) Z5 hb); replace HY := Aside0.mk (Vr.below (g := w.heap.size + 1) Z5 hb); replace HR := Aside0.mk (Vr.below (g := w.heap.size + 1 + 1) Z5 hb); (try clear hc_HX hf_HX hl_HX); (try clear hc_HY hf_HY hl_HY); (try clear hc_HR hf_HR hl_HR); obtain ⟨hc_HX, hf_HX, hl_HX⟩ := Vr.q3 HX.out; obtain ⟨hc_HY, hf_HY, hl_HY⟩ := Vr.q3 HY.out; obtain ⟨hc_HR, hf_HR, hl_HR⟩ := Vr.q3 HR.out; clear hb) | (go_at_call 23; refine (sem_rValid (B := B) (x := x) ?_).mono ?_; exact ⟨_, _, _, _, rfl, Xf, Xf⟩; rw [HV.out.1]; rintro e w1 ⟨rfl, hb⟩; have n_ := Aside0.mk (Env.below Xe hb); have nb_ := Aside0.mk (below_step (w := w) Xb hb); have hz1 := hb.size; (try simp at hz1); clear HE HB; have HE := n_; have HB := nb_; clear n_ nb_; have HX := Aside0.mk (Vr.below (g := w.heap.size) Z5 hb); have HY := Aside0.mk (Vr.below (g := w.heap.size + 1) Z5 hb); have HR := Aside0.mk (Vr.below (g := w.heap.size + 1 + 1) Z5 hb); obtain ⟨hc_HX, hf_HX, hl_HX⟩ := Vr.q3 HX.out; obtain ⟨hc_HY, hf_HY, hl_HY⟩ := Vr.q3 HY.out; obtain ⟨hc_HR, hf_HR, hl_HR⟩ := Vr.q3 HR.out; clear hb))
    all_goals
      refine bodyPost_ret (results_list (rs := [.cell 4 27, .tmp 5]) rfl (by simp) (vals_vr Xv rfl Try.underlying27 rfl Z6 (.tmp .nil))) rfl ?_
      exact ⟨_, _, _, _, rfl, Xf, Xf, Xb⟩
set_option maxHeartbeats 2000000 in
theorem rAdd_c {x y : Rt} {v v' : Value} {w : World} {B : Nat} (hv1 : rvB x = true) (hv2 : rvB y = true) {n' : Bool} {m1 m2 m3 m4 : List Int} {e1 e2 e3 : Int} (hm1 : mulS x.p y.q = (m1, e1)) (hm2 : mulS y.p x.q = (m2, e2)) (hm3 : mulS x.q y.q = (m3, e3)) (he : ¬ e1 = 0 ∨ (e1 = 0 ∧ ¬ e2 = 0) ∨ (e1 = 0 ∧ e2 = 0 ∧ ¬ e3 = 0)) (hB : B ≤ w.heap.size) (h : RaF B w v x) (h' : RaF B w v' y) : Calls Try.prog 25 #[v, v'] w (GiveQ B w zR 2) := by
  obtain ⟨A1, c1, A2, c2, rfl, h1, h2⟩ := h
  obtain ⟨A3, c3, A4, c4, rfl, h3, h4⟩ := h'
  have HE := Aside0.mk (((((Env.nil B w).cons h4).cons h3).cons h2).cons h1)
  have HB := Aside0.mk (Below.refl w.heap.size w)
  have HV := Aside0.mk (And.intro hv1 hv2)
  clear h1 h2 h3 h4 hv1 hv2
  have HM := Aside0.mk (And.intro hm1 (And.intro hm2 hm3))
  clear hm1 hm2 hm3
  rcases he with he | ⟨rfl, he⟩ | ⟨rfl, rfl, he⟩
  all_goals have he' := beq_false_of_ne he
  all_goals
    go_enter Try.func25, Try.ntmps25
    go_wp2_with (first | (have q1_ := hz1; clear q1_; go_at_call 23; refine (sem_rValid (B := B) (x := y) ?_).mono ?_; exact ⟨_, _, _, _, rfl, Xf, Xf⟩; rw [HV.out.2]; rintro e w2 ⟨rfl, hb⟩; have n_ := Aside0.mk (Env.below Xe hb); have nb_ := Aside0.mk (below_step (w := w) Xb hb); have hz2 := hb.size; (try simp at hz2); clear HE HB; have HE := n_; have HB := nb_; clear n_ nb_; replace HX := Aside0.mk (Vr.below (g := w.heap.size) Z5 hb); replace HY := Aside0.mk (Vr.below (g := w.heap.size + 1) Z5 hb); replace HR := Aside0.mk (Vr.below (g := w.heap.size + 1 + 1) Z5 hb); (try clear hc_HX hf_HX hl_HX); (try clear hc_HY hf_HY hl_HY); (try clear hc_HR hf_HR hl_HR); obtain ⟨hc_HX, hf_HX, hl_HX⟩ := Vr.q3 HX.out; obtain ⟨hc_HY, hf_HY, hl_HY⟩ := Vr.q3 HY.out; obtain ⟨hc_HR, hf_HR, hl_HR⟩ := Vr.q3 HR.out; clear hb) | (go_at_call 23; refine (sem_rValid (B := B) (x := x) ?_).mono ?_; exact ⟨_, _, _, _, rfl, Xf, Xf⟩; rw [HV.out.1]; rintro e w1 ⟨rfl, hb⟩; have n_ := Aside0.mk (Env.below Xe hb); have nb_ := Aside0.mk (below_step (w := w) Xb hb); have hz1 := hb.size; (try simp at hz1); clear HE HB; have HE := n_; have HB := nb_; clear n_ nb_; have HX := Aside0.mk (Vr.below (g := w.heap.size) Z5 hb); have HY := Aside0.mk (Vr.below (g := w.heap.size + 1) Z5 hb); have HR := Aside0.mk (Vr.below (g := w.heap.size + 1 + 1) Z5 hb); obtain ⟨hc_HX, hf_HX, hl_HX⟩ := Vr.q3 HX.out; obtain ⟨hc_HY, hf_HY, hl_HY⟩ := Vr.q3 HY.out; obtain ⟨hc_HR, hf_HR, hl_HR⟩ := Vr.q3 HR.out; clear hb) | (have q4_ := hz4; clear q4_; go_at_call 44; refine (sem_ref_Mul (a := x.q) (b := y.q) ?_ ?_).mono ?_; exact Fr.sl (B := B) Xf; exact Fr.sl (B := B) Xf; rw [HM.out.2.2]; rintro e w5 ⟨v0, rfl, hs, hb⟩; obtain ⟨MA3, mc3, rfl, hs1⟩ := (hs B).open; have n_ := Aside0.mk (Env.cons (Env.below Xe hb) (hs1)); have nb_ := Aside0.mk (below_step (w := w) Xb hb); have hz5 := hb.size; (try simp at hz5); clear HE HB; have HE := n_; have HB := nb_; clear n_ nb_; replace HX := Aside0.mk (Vr.below (g := w.heap.size) Z5 hb); replace HY := Aside0.mk (Vr.below (g := w.heap.size + 1) Z5 hb); replace HR := Aside0.mk (Vr.below (g := w.heap.size + 1 + 1) Z5 hb); (try clear hc_HX hf_HX hl_HX); (try clear hc_HY hf_HY hl_HY); (try clear hc_HR hf_HR hl_HR); obtain ⟨hc_HX, hf_HX, hl_HX⟩ := Vr.q3 HX.out; obtain ⟨hc_HY, hf_HY, hl_HY⟩ := Vr.q3 HY.out; obtain ⟨hc_HR, hf_HR, hl_HR⟩ := Vr.q3 HR.out; clear hb) | (have q3_ := hz3; clear q3_; go_at_call 44; refine (sem_ref_Mul (a := y.p) (b := x.q) ?_ ?_).mono ?_; exact Fr.sl (B := B) Xf; exact Fr.sl (B := B) Xf; rw [HM.out.2.1]; rintro e w4 ⟨v0, rfl, hs, hb⟩; obtain ⟨MA2, mc2, rfl, hs1⟩ := (hs B).open; have n_ := Aside0.mk (Env.cons (Env.below Xe hb) (hs1)); have nb_ := Aside0.mk (below_step (w := w) Xb hb); have hz4 := hb.size; (try simp at hz4); clear HE HB; have HE := n_; have HB := nb_; clear n_ nb_; replace HX := Aside0.mk (Vr.below (g := w.heap.size) Z5 hb); replace HY := Aside0.mk (Vr.below (g := w.heap.size + 1) Z5 hb); replace HR := Aside0.mk (Vr.below (g := w.heap.size + 1 + 1) Z5 hb); (try clear hc_HX hf_HX hl_HX); (try clear hc_HY hf_HY hl_HY); (try clear hc_HR hf_HR hl_HR); obtain ⟨hc_HX, hf_HX, hl_HX⟩ := Vr.q3 HX.out; obtain ⟨hc_HY, hf_HY, hl_HY⟩ := Vr.q3 HY.out; obtain ⟨hc_HR, hf_HR, hl_HR⟩ := Vr.q3 HR.out; clear hb) | (go_at_call 44; refine (sem_ref_Mul (a := x.p) (b := y.q) ?_ ?_).mono ?_; exact Fr.sl (B := B) Xf; exact Fr.sl (B := B) Xf; rw [HM.out.1]; rintro e w3 ⟨v0, rfl, hs, hb⟩; obtain ⟨MA1, mc1, rfl, hs1⟩ := (hs B).open; have n_ := Aside0.mk (Env.cons (Env.below Xe hb) (hs1)); have nb_ := Aside0.mk (below_step (w := w) Xb hb); have hz3 := hb.size; (try simp at hz3); clear HE HB; have HE := n_; have HB := nb_; clear n_ nb_; replace HX := Aside0.mk (Vr.below (g := w.heap.size) Z5 hb); replace HY := Aside0.mk (Vr.below (g := w.heap.size + 1) Z5 hb); replace HR := Aside0.mk (Vr.below (g := w.heap.size + 1 + 1) Z5 hb); (try clear hc_HX hf_HX hl_HX); (try clear hc_HY hf_HY hl_HY); (try clear hc_HR hf_HR hl_HR); obtain ⟨hc_HX, hf_HX, hl_HX⟩ := Vr.q3 HX.out; obtain ⟨hc_HY, hf_HY, hl_HY⟩ := Vr.q3 HY.out; obtain ⟨hc_HR, hf_HR, hl_HR⟩ := Vr.q3 HR.out; clear hb))
    all_goals
      refine bodyPost_ret (results_list (rs := [.cell 4 27, .tmp 5]) rfl (by simp) (vals_vr Xv rfl Try.underlying27 rfl Z6 (.tmp .nil))) rfl ?_
      exact ⟨_, _, _, _, rfl, Xf, Xf, Xb⟩
set_option maxHeartbeats 2000000 in
theorem rAdd_d {x y : Rt} {v v' : Value} {w : World} {B : Nat} (hv1 : rvB x = true) (hv2 : rvB y = true) {n' : Bool} {m1 m2 m3 m4 : List Int} {e4 : Int} (hm1 : mulS x.p y.q = (m1, 0)) (hm2 : mulS y.p x.q = (m2, 0)) (hm3 : mulS x.q y.q = (m3, 0)) (ho : okN m1 = true ∧ okN m2 = true) (hp : plusS x.neg m1 y.neg m2 = (n', m4, e4)) (he : ¬ e4 = 0) (hB : B ≤ w.heap.size) (h : RaF B w v x) (h' : RaF B w v' y) : Calls Try.prog 25 #[v, v'] w (GiveQ B w zR 2) := by
  obtain ⟨A1, c1, A2, c2, rfl, h1, h2⟩ := h
  obtain ⟨A3, c3, A4, c4, rfl, h3, h4⟩ := h'
  have HE := Aside0.mk (((((Env.nil B w).cons h4).cons h3).cons h2).cons h1)
  have HB := Aside0.mk (Below.refl w.heap.size w)
  have HV := Aside0.mk (And.intro hv1 hv2)
  clear h1 h2 h3 h4 hv1 hv2
  have HM := Aside0.mk (And.intro hm1 (And.intro hm2 hm3))
  clear hm1 hm2 hm3
  have HO := Aside0.mk ho
  have HP := Aside0.mk hp
  clear ho hp
  have he' : (e4 == 0) = false := beq_false_of_ne he
  all_goals
    go_enter Try.func25, Try.ntmps25
    go_wp2_with (first | (go_at_call 45; refine (sem_rplus (B := B) (m := x.neg) (n := y.neg) (a := m1) (b := m2) (s := m4) (n' := n') (e := e4) (A1 := MA1) (c1 := mc1) (A2 := MA2) (c2 := mc2) ?_ ?_ HO.out HP.out).mono ?_; exact Xf; exact Xf; rintro e w6 ⟨PA, pk, rfl, hs1, hb⟩; have n_ := Aside0.mk (Env.cons (Env.below Xe hb) (hs1)); have nb_ := Aside0.mk (below_step (w := w) Xb hb); have hz6 := hb.size; (try simp at hz6); clear HE HB; have HE := n_; have HB := nb_; clear n_ nb_; replace HX := Aside0.mk (Vr.below (g := w.heap.size) Z5 hb); replace HY := Aside0.mk (Vr.below (g := w.heap.size + 1) Z5 hb); replace HR := Aside0.mk (Vr.below (g := w.heap.size + 1 + 1) Z5 hb); (try clear hc_HX hf_HX hl_HX); (try clear hc_HY hf_HY hl_HY); (try clear hc_HR hf_HR hl_HR); obtain ⟨hc_HX, hf_HX, hl_HX⟩ := Vr.q3 HX.out; obtain ⟨hc_HY, hf_HY, hl_HY⟩ := Vr.q3 HY.out; obtain ⟨hc_HR, hf_HR, hl_HR⟩ := Vr.q3 HR.out; clear hb) | (have q1_ := hz1; clear q1_; go_at_call 23; refine (sem_rValid (B := B) (x := y) ?_).mono ?_; exact ⟨_, _, _, _, rfl, Xf, Xf⟩; rw [HV.out.2]; rintro e w2 ⟨rfl, hb⟩; have n_ := Aside0.mk (Env.below Xe hb); have nb_ := Aside0.mk (below_step (w := w) Xb hb); have hz2 := hb.size; (try simp at hz2); clear HE HB; have HE := n_; have HB := nb_; clear n_ nb_; replace HX := Aside0.mk (Vr.below (g := w.heap.size) Z5 hb); replace HY := Aside0.mk (Vr.below (g := w.heap.size + 1) Z5 hb); replace HR := Aside0.mk (Vr.below (g := w.heap.size + 1 + 1) Z5 hb); (try clear hc_HX hf_HX hl_HX); (try clear hc_HY hf_HY hl_HY); (try clear hc_HR hf_HR hl_HR); obtain ⟨hc_HX, hf_HX, hl_HX⟩ := Vr.q3 HX.out; obtain ⟨hc_HY, hf_HY, hl_HY⟩ := Vr.q3 HY.out; obtain ⟨hc_HR, hf_HR, hl_HR⟩ := Vr.q3 HR.out; clear hb) | (go_at_call 23; refine (sem_rValid (B := B) (x := x) ?_).mono ?_; exact ⟨_, _, _, _, rfl, Xf, Xf⟩; rw [HV.out.1]; rintro e w1 ⟨rfl, hb⟩; have n_ := Aside0.mk (Env.below Xe hb); have nb_ := Aside0.mk (below_step (w := w) Xb hb); have hz1 := hb.size; (try simp at hz1); clear HE HB; have HE := n_; have HB := nb_; clear n_ nb_; have HX := Aside0.mk (Vr.below (g := w.heap.size) Z5 hb); have HY := Aside0.mk (Vr.below (g := w.heap.size + 1) Z5 hb); have HR := Aside0.mk (Vr.below (g := w.heap.size + 1 + 1) Z5 hb); obtain ⟨hc_HX, hf_HX, hl_HX⟩ := Vr.q3 HX.out; obtain ⟨hc_HY, hf_HY, hl_HY⟩ := Vr.q3 HY.out; obtain ⟨hc_HR, hf_HR, hl_HR⟩ := Vr.q3 HR.out; clear hb) | (have q4_ := hz4; clear q4_; go_at_call 44; refine (sem_ref_Mul (a := x.q) (b := y.q) ?_ ?_).mono ?_; exact Fr.sl (B := B) Xf; exact Fr.sl (B := B) Xf; rw [HM.out.2.2]; rintro e w5 ⟨v0, rfl, hs, hb⟩; obtain ⟨MA3, mc3, rfl, hs1⟩ := (hs B).open; have n_ := Aside0.mk (Env.cons (Env.below Xe hb) (hs1)); have nb_ := Aside0.mk (below_step (w := w) Xb hb); have hz5 := hb.size; (try simp at hz5); clear HE HB; have HE := n_; have HB := nb_; clear n_ nb_; replace HX := Aside0.mk (Vr.below (g := w.heap.size) Z5 hb); replace HY := Aside0.mk (Vr.below (g := w.heap.size + 1) Z5 hb); replace HR := Aside0.mk (Vr.below (g := w.heap.size + 1 + 1) Z5 hb); (try clear hc_HX hf_HX hl_HX); (try clear hc_HY hf_HY hl_HY); (try clear hc_HR hf_HR hl_HR); obtain ⟨hc_HX, hf_HX, hl_HX⟩ := Vr.q3 HX.out; obtain ⟨hc_HY, hf_HY, hl_HY⟩ := Vr.q3 HY.out; obtain ⟨hc_HR, hf_HR, hl_HR⟩ := Vr.q3 HR.out; clear hb) | (have q3_ := hz3; clear q3_; go_at_call 44; refine (sem_ref_Mul (a := y.p) (b := x.q) ?_ ?_).mono ?_; exact Fr.sl (B := B) Xf; exact Fr.sl (B := B) Xf; rw [HM.out.2.1]; rintro e w4 ⟨v0, rfl, hs, hb⟩; obtain ⟨MA2, mc2, rfl, hs1⟩ := (hs B).open; have n_ := Aside0.mk (Env.cons (Env.below Xe hb) (hs1)); have nb_ := Aside0.mk (below_step (w := w) Xb hb); have hz4 := hb.size; (try simp at hz4); clear HE HB; have HE := n_; have HB := nb_; clear n_ nb_; replace HX := Aside0.mk (Vr.below (g := w.heap.size) Z5 hb); replace HY := Aside0.mk (Vr.below (g := w.heap.size + 1) Z5 hb); replace HR := Aside0.mk (Vr.below (g := w.heap.size + 1 + 1) Z5 hb); (try clear hc_HX hf_HX hl_HX); (try clear hc_HY hf_HY hl_HY); (try clear hc_HR hf_HR hl_HR); obtain ⟨hc_HX, hf_HX, hl_HX⟩ := Vr.q3 HX.out; obtain ⟨hc_HY, hf_HY, hl_HY⟩ := Vr.q3 HY.out; obtain ⟨hc_HR, hf_HR, hl_HR⟩ := Vr.q3 HR.out; clear hb) | (go_at_call 44; refine (sem_ref_Mul (a := x.p) (b := y.q) ?_ ?_).mono ?_; exact Fr.sl (B := B) Xf; exact Fr.sl (B := B) Xf; rw [HM.out.1]; rintro e w3 ⟨v0, rfl, hs, hb⟩; obtain ⟨MA1, mc1, rfl, hs1⟩ := (hs B).open; have n_ := Aside0.mk (Env.cons (Env.below Xe hb) (hs1)); have nb_ := Aside0.mk (below_step (w := w) Xb hb); have hz3 := hb.size; (try simp at hz3); clear HE HB; have HE := n_; have HB := nb_; clear n_ nb_; replace HX := Aside0.mk (Vr.below (g := w.heap.size) Z5 hb); replace HY := Aside0.mk (Vr.below (g := w.heap.size + 1) Z5 hb); replace HR := Aside0.mk (Vr.below (g := w.heap.size + 1 + 1) Z5 hb); (try clear hc_HX hf_HX hl_HX); (try clear hc_HY hf_HY hl_HY); (try clear hc_HR hf_HR hl_HR); obtain ⟨hc_HX, hf_HX, hl_HX⟩ := Vr.q3 HX.out; obtain ⟨hc_HY, hf_HY, hl_HY⟩ := Vr.q3 HY.out; obtain ⟨hc_HR, hf_HR, hl_HR⟩ := Vr.q3 HR.out; clear hb))
    all_goals
      refine bodyPost_ret (results_list (rs := [.cell 4 27, .tmp 5]) rfl (by simp) (vals_vr Xv rfl Try.underlying27 rfl Z6 (.tmp .nil))) rfl ?_
      exact ⟨_, _, _, _, rfl, Xf, Xf, Xb⟩
set_option maxHeartbeats 2000000 in
theorem rAdd_e {x y : Rt} {v v' : Value} {w : World} {B : Nat} (hv1 : rvB x = true) (hv2 : rvB y = true) {n' : Bool} {m1 m2 m3 m4 : List Int}  (hm1 : mulS x.p y.q = (m1, 0)) (hm2 : mulS y.p x.q = (m2, 0)) (hm3 : mulS x.q y.q = (m3, 0)) (ho : okN m1 = true ∧ okN m2 = true) (hp : plusS x.neg m1 y.neg m2 = (n', m4, 0)) (ho2 : okN m4 = true ∧ okN m3 = true ∧ m3 ≠ []) {r : Rt} (hr : redS n' m4 m3 = r) (hB : B ≤ w.heap.size) (h : RaF B w v x) (h' : RaF B w v' y) : Calls Try.prog 25 #[v, v'] w (GiveQ B w r 0) := by
  obtain ⟨A1, c1, A2, c2, rfl, h1, h2⟩ := h
  obtain ⟨A3, c3, A4, c4, rfl, h3, h4⟩ := h'
  have HE := Aside0.mk (((((Env.nil B w).cons h4).cons h3).cons h2).cons h1)
  have HB := Aside0.mk (Below.refl w.heap.size w)
  have HV := Aside0.mk (And.intro hv1 hv2)
  clear h1 h2 h3 h4 hv1 hv2
  have HM := Aside0.mk (And.intro hm1 (And.intro hm2 hm3))
  clear hm1 hm2 hm3
  have HO := Aside0.mk ho
  have HP := Aside0.mk hp
  clear ho hp
  have HO2 := Aside0.mk ho2
  have HRR := Aside0.mk hr
  clear ho2 hr
  all_goals
    go_enter Try.func25, Try.ntmps25
    go_wp2_with (first | (go_at_call 46; refine (sem_Reduce (B := B) n' (p := m4) (q := m3) (A1 := PA) (c1 := pk) (A2 := MA3) (c2 := mc3) Z10 ?_ ?_ HO2.out.1 HO2.out.2.1 HO2.out.2.2).mono ?_; exact Xf; exact Xf; rw [HRR.out]; rintro e w7 ⟨A7, c7, A8, c8, rfl, hs1, hs2, hb⟩; have n_ := Aside0.mk (Env.cons (Env.cons (Env.below Xe hb) (hs1)) (hs2)); have nb_ := Aside0.mk (below_step (w := w) Xb hb); have hz7 := hb.size; (try simp at hz7); clear HE HB; have HE := n_; have HB := nb_; clear n_ nb_; replace HX := Aside0.mk (Vr.below (g := w.heap.size) Z5 hb); replace HY := Aside0.mk (Vr.below (g := w.heap.size + 1) Z5 hb); replace HR := Aside0.mk (Vr.below (g := w.heap.size + 1 + 1) Z5 hb); (try clear hc_HX hf_HX hl_HX); (try clear hc_HY hf_HY hl_HY); (try clear hc_HR hf_HR hl_HR); obtain ⟨hc_HX, hf_HX, hl_HX⟩ := Vr.q3 HX.out; obtain ⟨hc_HY, hf_HY, hl_HY⟩ := Vr.q3 HY.out; obtain ⟨hc_HR, hf_HR, hl_HR⟩ := Vr.q3 HR.out; clear hb) | (go_at_call 45; refine (sem_rplus (B := B) (m := x.neg) (n := y.neg) (a := m1) (b := m2) (s := m4) (n' := n') (e := 0) (A1 := MA1) (c1 := mc1) (A2 := MA2) (c2 := mc2) ?_ ?_ HO.out HP.out).mono ?_; exact Xf; exact Xf; rintro e w6 ⟨PA, pk, rfl, hs1, hb⟩; have n_ := Aside0.mk (Env.cons (Env.below Xe hb) (hs1)); have nb_ := Aside0.mk (below_step (w := w) Xb hb); have hz6 := hb.size; (try simp at hz6); clear HE HB; have HE := n_; have HB := nb_; clear n_ nb_; replace HX := Aside0.mk (Vr.below (g := w.heap.size) Z5 hb); replace HY := Aside0.mk (Vr.below (g := w.heap.size + 1) Z5 hb); replace HR := Aside0.mk (Vr.below (g := w.heap.size + 1 + 1) Z5 hb); (try clear hc_HX hf_HX hl_HX); (try clear hc_HY hf_HY hl_HY); (try clear hc_HR hf_HR hl_HR); obtain ⟨hc_HX, hf_HX, hl_HX⟩ := Vr.q3 HX.out; obtain ⟨hc_HY, hf_HY, hl_HY⟩ := Vr.q3 HY.out; obtain ⟨hc_HR, hf_HR, hl_HR⟩ := Vr.q3 HR.out; clear hb) | (have q1_ := hz1; clear q1_; go_at_call 23; refine (sem_rValid (B := B) (x := y) ?_).mono ?_; exact ⟨_, _, _, _, rfl, Xf, Xf⟩; rw [HV.out.2]; rintro e w2 ⟨rfl, hb⟩; have n_ := Aside0.mk (Env.below Xe hb); have nb_ := Aside0.mk (below_step (w := w) Xb hb); have hz2 := hb.size; (try simp at hz2); clear HE HB; have HE := n_; have HB := nb_; clear n_ nb_; replace HX := Aside0.mk (Vr.below (g := w.heap.size) Z5 hb); replace HY := Aside0.mk (Vr.below (g := w.heap.size + 1) Z5 hb); replace HR := Aside0.mk (Vr.below (g := w.heap.size + 1 + 1) Z5 hb); (try clear hc_HX hf_HX hl_HX); (try clear hc_HY hf_HY hl_HY); (try clear hc_HR hf_HR hl_HR); obtain ⟨hc_HX, hf_HX, hl_HX⟩ := Vr.q3 HX.out; obtain ⟨hc_HY, hf_HY, hl_HY⟩ := Vr.q3 HY.out; obtain ⟨hc_HR, hf_HR, hl_HR⟩ := Vr.q3 HR.out; clear hb) | (go_at_call 23; refine (sem_rValid (B := B) (x := x) ?_).mono ?_; exact ⟨_, _, _, _, rfl, Xf, Xf⟩; rw [HV.out.1]; rintro e w1 ⟨rfl, hb⟩; have n_ := Aside0.mk (Env.below Xe hb); have nb_ := Aside0.mk (below_step (w := w) Xb hb); have hz1 := hb.size; (try simp at hz1); clear HE HB; have HE := n_; have HB := nb_; clear n_ nb_; have HX := Aside0.mk (Vr.below (g := w.heap.size) Z5 hb); have HY := Aside0.mk (Vr.below (g := w.heap.size + 1) Z5 hb); have HR := Aside0.mk (Vr.below (g := w.heap.size + 1 + 1) Z5 hb); obtain ⟨hc_HX, hf_HX, hl_HX⟩ := Vr.q3 HX.out; obtain ⟨hc_HY, hf_HY, hl_HY⟩ := Vr.q3 HY.out; obtain ⟨hc_HR, hf_HR, hl_HR⟩ := Vr.q3 HR.out; clear hb) | (have q4_ := hz4; clear q4_; go_at_call 44; refine (sem_ref_Mul (a := x.q) (b := y.q) ?_ ?_).mono ?_; exact Fr.sl (B := B) Xf; exact Fr.sl (B := B) Xf; rw [HM.out.2.2]; rintro e w5 ⟨v0, rfl, hs, hb⟩; obtain ⟨MA3, mc3, rfl, hs1⟩ := (hs B).open; have n_ := Aside0.mk (Env.cons (Env.below Xe hb) (hs1)); have nb_ := Aside0.mk (below_step (w := w) Xb hb); have hz5 := hb.size; (try simp at hz5); clear HE HB; have HE := n_; have HB := nb_; clear n_ nb_; replace HX := Aside0.mk (Vr.below (g := w.heap.size) Z5 hb); replace HY := Aside0.mk (Vr.below (g := w.heap.size + 1) Z5 hb); replace HR := Aside0.mk (Vr.below (g := w.heap.size + 1 + 1) Z5 hb); (try clear hc_HX hf_HX hl_HX); (try clear hc_HY hf_HY hl_HY); (try clear hc_HR hf_HR hl_HR); obtain ⟨hc_HX, hf_HX, hl_HX⟩ := Vr.q3 HX.out; obtain ⟨hc_HY, hf_HY, hl_HY⟩ := Vr.q3 HY.out; obtain ⟨hc_HR, hf_HR, hl_HR⟩ := Vr.q3 HR.out; clear hb) | (have q3_ := hz3; clear q3_; go_at_call 44; refine (sem_ref_Mul (a := y.p) (b := x.q) ?_ ?_).mono ?_; exact Fr.sl (B := B) Xf; exact Fr.sl (B := B) Xf; rw [HM.out.2.1]; rintro e w4 ⟨v0, rfl, hs, hb⟩; obtain ⟨MA2, mc2, rfl, hs1⟩ := (hs B).open; have n_ := Aside0.mk (Env.cons (Env.below Xe hb) (hs1)); have nb_ := Aside0.mk (below_step (w := w) Xb hb); have hz4 := hb.size; (try simp at hz4); clear HE HB; have HE := n_; have HB := nb_; clear n_ nb_; replace HX := Aside0.mk (Vr.below (g := w.heap.size) Z5 hb); replace HY := Aside0.mk (Vr.below (g := w.heap.size + 1) Z5 hb); replace HR := Aside0.mk (Vr.below (g := w.heap.size + 1 + 1) Z5 hb); (try clear hc_HX hf_HX hl_HX); (try clear hc_HY hf_HY hl_HY); (try clear hc_HR hf_HR hl_HR); obtain ⟨hc_HX, hf_HX, hl_HX⟩ := Vr.q3 HX.out; obtain ⟨hc_HY, hf_HY, hl_HY⟩ := Vr.q3 HY.out; obtain ⟨hc_HR, hf_HR, hl_HR⟩ := Vr.q3 HR.out; clear hb) | (go_at_call 44; refine (sem_ref_Mul (a := x.p) (b := y.q) ?_ ?_).mono ?_; exact Fr.sl (B := B) Xf; exact Fr.sl (B := B) Xf; rw [HM.out.1]; rintro e w3 ⟨v0, rfl, hs, hb⟩; obtain ⟨MA1, mc1, rfl, hs1⟩ := (hs B).open; have n_ := Aside0.mk (Env.cons (Env.below Xe hb) (hs1)); have nb_ := Aside0.mk (below_step (w := w) Xb hb); have hz3 := hb.size; (try simp at hz3); clear HE HB; have HE := n_; have HB := nb_; clear n_ nb_; replace HX := Aside0.mk (Vr.below (g := w.heap.size) Z5 hb); replace HY := Aside0.mk (Vr.below (g := w.heap.size + 1) Z5 hb); replace HR := Aside0.mk (Vr.below (g := w.heap.size + 1 + 1) Z5 hb); (try clear hc_HX hf_HX hl_HX); (try clear hc_HY hf_HY hl_HY); (try clear hc_HR hf_HR hl_HR); obtain ⟨hc_HX, hf_HX, hl_HX⟩ := Vr.q3 HX.out; obtain ⟨hc_HY, hf_HY, hl_HY⟩ := Vr.q3 HY.out; obtain ⟨hc_HR, hf_HR, hl_HR⟩ := Vr.q3 HR.out; clear hb))
    all_goals
      refine bodyPost_ret (results_list (rs := [.cell 4 27, .tmp 5]) rfl (by simp) (vals_vr Xv rfl Try.underlying27 rfl Z6 (.tmp .nil))) rfl ?_
      exact ⟨_, _, _, _, rfl, Xf, Xf, Xb⟩
theorem q_rAdd {x y r : Rt} {er : Int} {v v' : Value} {w : World} {B : Nat} (hz : addR x y = (r, er)) (hB : B ≤ w.heap.size) (h : RaF B w v x) (h' : RaF B w v' y) : Calls Try.prog 25 #[v, v'] w (GiveQ B w r er) := by
  unfold addR at hz
  by_cases hv1 : rvB x = true
  rotate_left
  · rw [if_neg (fun h => hv1 h.1)] at hz
    injection hz with z1 z2
    subst z1 z2
    exact rAdd_a (b1 := false) (by simpa using hv1) rfl rfl hB h h'
  by_cases hv2 : rvB y = true
  rotate_left
  · rw [if_neg (fun h => hv2 h.2)] at hz
    injection hz with z1 z2
    subst z1 z2
    exact rAdd_a (b2 := false) hv1 (by simpa using hv2) rfl hB h h'
  rw [if_pos ⟨hv1, hv2⟩] at hz
  obtain ⟨x1, x2, x3, x4, x5⟩ := rvB_iff.1 hv1
  obtain ⟨y1, y2, y3, y4, y5⟩ := rvB_iff.1 hv2
  have n1 := (okN_iff.1 x1).nonneg
  have n2 := (okN_iff.1 y1).nonneg
  have q1 := val_pos (okN_iff.1 x2).2 x3
  have q2 := val_pos (okN_iff.1 y2).2 y3
  have m1 := mulS_ok x1 y2
  have m2 := mulS_ok y1 x2
  have m3 := mulS_ok x2 y2
  have f1 := fitS_ok (Int.mul_nonneg n1 (Int.le_of_lt q2))
  have f2 := fitS_ok (Int.mul_nonneg n2 (Int.le_of_lt q1))
  have f3 := fitS_ok (Int.mul_nonneg (Int.le_of_lt q1) (Int.le_of_lt q2))
  rw [← m1] at f1
  rw [← m2] at f2
  rw [← m3] at f3
  obtain ⟨a1, e1, g1⟩ : ∃ m e, mulS x.p y.q = (m, e) := ⟨_, _, rfl⟩
  obtain ⟨a2, e2, g2⟩ : ∃ m e, mulS y.p x.q = (m, e) := ⟨_, _, rfl⟩
  obtain ⟨a3, e3, g3⟩ : ∃ m e, mulS x.q y.q = (m, e) := ⟨_, _, rfl⟩
  rw [g1] at f1
  rw [g2] at f2
  rw [g3] at f3
  have f4 := plusS_ok (m := x.neg) (n := y.neg) f1.1 f2.1
  obtain ⟨n', a4, e4, g4⟩ : ∃ n m e, plusS x.neg a1 y.neg a2 = (n, m, e) := ⟨_, _, _, rfl⟩
  rw [g1, g2, g3] at hz
  simp only [g4] at f4 hz
  by_cases z1 : e1 = 0
  rotate_left
  · rw [if_neg (fun h => z1 h.1)] at hz
    injection hz with w1 w2
    subst w1 w2
    exact rAdd_c (n' := n') (m4 := a4) hv1 hv2 g1 g2 g3 (.inl z1) hB h h'
  subst z1
  by_cases z2 : e2 = 0
  rotate_left
  · rw [if_neg (fun h => z2 h.2.1)] at hz
    injection hz with w1 w2
    subst w1 w2
    exact rAdd_c (n' := n') (m4 := a4) hv1 hv2 g1 g2 g3 (.inr (.inl ⟨rfl, z2⟩)) hB h h'
  subst z2
  by_cases z3 : e3 = 0
  rotate_left
  · rw [if_neg (fun h => z3 h.2.2.1)] at hz
    injection hz with w1 w2
    subst w1 w2
    exact rAdd_c (n' := n') (m4 := a4) hv1 hv2 g1 g2 g3 (.inr (.inr ⟨rfl, rfl, z3⟩)) hB h h'
  subst z3
  by_cases z4 : e4 = 0
  rotate_left
  · rw [if_neg (fun h => z4 h.2.2.2)] at hz
    injection hz with w1 w2
    subst w1 w2
    exact rAdd_d hv1 hv2 g1 g2 g3 ⟨f1.1, f2.1⟩ g4 z4 hB h h'
  subst z4
  rw [if_pos ⟨rfl, rfl, rfl, rfl⟩] at hz
  injection hz with w1 w2
  subst w2
  have k3 := fit_facts (Int.mul_nonneg (Int.le_of_lt q1) (Int.le_of_lt q2)) (m3.symm.trans g3)
  exact rAdd_e hv1 hv2 g1 g2 g3 ⟨f1.1, f2.1⟩ g4 ⟨f4.1, f3.1, k3.2.2.1 (by have := Int.mul_pos q1 q2; omega)⟩ w1 hB h h'
set_option maxHeartbeats 400000 in
theorem rnegated {p q : List Int} {A1 A2 : Option Addr} {c1 c2 : Nat} {w : World} {B : Nat} (nx : Bool) (h1 : Fr B w (.slice A1 p.length c1) p) (h2 : Fr B w (.slice A2 q.length c2) q) {nn' : Bool} (hnn : (!nx && decide (0 < p.length)) = nn') : Calls Try.prog 48 #[.agg #[.bool nx, .slice A1 p.length c1, .slice A2 q.length c2]] w (GiveV B w ⟨nn', p, q⟩) := by
  have HE := Aside0.mk (((Env.nil B w).cons h2).cons h1)
  have HB := Aside0.mk (Below.refl w.heap.size w)
  clear h1 h2
  cases nx
  all_goals
    simp at hnn
    subst hnn
    go_enter Try.func48, Try.ntmps48
    go_wp2_with (fail)
    all_goals
      refine bodyPost_ret (results_single rfl (vals_vr Xv rfl Try.underlying27 rfl Z6 .nil)) rfl ?_
      exact ⟨_, _, _, _, rfl, Xf, Xf, Xb⟩
theorem q_negated {x r : Rt} {v : Value} {w : World} {B : Nat} (hz : negR x = r) (h : RaF B w v x) : Calls Try.prog 48 #[v] w (GiveV B w r) := by
  obtain ⟨A1, c1, A2, c2, rfl, h1, h2⟩ := h
  subst hz
  exact rnegated x.neg h1 h2 rfl
set_option maxHeartbeats 2000000 in
theorem rSub_a {x y : Rt} {v v' : Value} {w : World} {B : Nat} {b1 b2 : Bool} (hv1 : rvB x = b1) (hv2 : rvB y = b2) (hb12 : (b1 && b2) = false) (hB : B ≤ w.heap.size) (h : RaF B w v x) (h' : RaF B w v' y) : Calls Try.prog 28 #[v, v'] w (GiveQ B w zR 3) := by
  obtain ⟨A1, c1, A2, c2, rfl, h1, h2⟩ := h
  obtain ⟨A3, c3, A4, c4, rfl, h3, h4⟩ := h'
  have HE := Aside0.mk (((((Env.nil B w).cons h4).cons h3).cons h2).cons h1)
  have HB := Aside0.mk (Below.refl w.heap.size w)
  have HV := Aside0.mk (And.intro hv1 hv2)
  clear h1 h2 h3 h4 hv1 hv2
  cases b1 <;> cases b2
  all_goals (try (simp at hb12; done))
  all_goals
    go_enter Try.func28, Try.ntmps28
    go_wp2_with (first | (have q1_ := hz1; clear q1_; go_at_call 23; refine (sem_rValid (B := B) (x := y) ?_).mono ?_; exact ⟨_, _, _, _, rfl, Xf, Xf⟩; rw [HV.out.2]; rintro e w2 ⟨rfl, hb⟩; have n_ := Aside0.mk (Env.below Xe hb); have nb_ := Aside0.mk (below_step (w := w) Xb hb); have hz2 := hb.size; (try simp at hz2); clear HE HB; have HE := n_; have HB := nb_; clear n_ nb_; replace HX := Aside0.mk (Vr.below (g := w.heap.size) Z5 hb); replace HY := Aside0.mk (Vr.below (g := w.heap.size + 1) Z5 hb); replace HR := Aside0.mk (Vr.below (g := w.heap.size + 1 + 1) Z5 hb); (try clear hc_HX hf_HX hl_HX); (try clear hc_HY hf_HY hl_HY); (try clear hc_HR hf_HR hl_HR); obtain ⟨hc_HX, hf_HX, hl_HX⟩ := Vr.q3 HX.out; obtain ⟨hc_HY, hf_HY, hl_HY⟩ := Vr.q3 HY.out; obtain ⟨hc_HR, hf_HR, hl_HR⟩ := Vr.q3 HR.out; clear hb) | (go_at_call 23; refine (sem_rValid (B := B) (x := x) ?_).mono ?_; exact ⟨_, _, _, _, rfl, Xf, Xf⟩; rw [HV.out.1]; rintro e w1 ⟨rfl, hb⟩; have n_ := Aside0.mk (Env.below Xe hb); have nb_ := Aside0.mk (below_step (w := w) Xb hb); have hz1 := hb.size; (try simp at hz1); clear HE HB; have HE := n_; have HB := nb_; clear n_ nb_; have HX := Aside0.mk (Vr.below (g := w.heap.size) Z5 hb); have HY := Aside0.mk (Vr.below (g := w.heap.size + 1) Z5 hb); have HR := Aside0.mk (Vr.below (g := w.heap.size + 1 + 1) Z5 hb); obtain ⟨hc_HX, hf_HX, hl_HX⟩ := Vr.q3 HX.out; obtain ⟨hc_HY, hf_HY, hl_HY⟩ := Vr.q3 HY.out; obtain ⟨hc_HR, hf_HR, hl_HR⟩ := Vr.q3 HR.out; clear hb))
    all_goals
      refine bodyPost_ret (results_list (rs := [.cell 4 27, .tmp 5]) rfl (by simp) (vals_vr Xv rfl Try.underlying27 rfl Z6 (.tmp .nil))) rfl ?_
      exact ⟨_, _, _, _, rfl, Xf, Xf, Xb⟩
set_option maxHeartbeats 2000000 in
theorem rSub_e {x y : Rt} {v v' : Value} {w : World} {B : Nat} (hv1 : rvB x = true) (hv2 : rvB y = true) {m r : Rt} {er : Int} (hn : negR y = m) (ha : addR x m = (r, er)) (hB : B ≤ w.heap.size) (h : RaF B w v x) (h' : RaF B w v' y) : Calls Try.prog 28 #[v, v'] w (GiveQ B w r er) := by
  obtain ⟨A1, c1, A2, c2, rfl, h1, h2⟩ := h
  obtain ⟨A3, c3, A4, c4, rfl, h3, h4⟩ := h'
  have HE := Aside0.mk (((((Env.nil B w).cons h4).cons h3).cons h2).cons h1)
  have HB := Aside0.mk (Below.refl w.heap.size w)
  have HV := Aside0.mk (And.intro hv1 hv2)
  clear h1 h2 h3 h4 hv1 hv2
  have HN := Aside0.mk hn
  have HA := Aside0.mk ha
  clear hn ha
  all_goals
    go_enter Try.func28, Try.ntmps28
    go_wp2_with (first | (have q1_ := hz1; clear q1_; go_at_call 23; refine (sem_rValid (B := B) (x := y) ?_).mono ?_; exact ⟨_, _, _, _, rfl, Xf, Xf⟩; rw [HV.out.2]; rintro e w2 ⟨rfl, hb⟩; have n_ := Aside0.mk (Env.below Xe hb); have nb_ := Aside0.mk (below_step (w := w) Xb hb); have hz2 := hb.size; (try simp at hz2); clear HE HB; have HE := n_; have HB := nb_; clear n_ nb_; replace HX := Aside0.mk (Vr.below (g := w.heap.size) Z5 hb); replace HY := Aside0.mk (Vr.below (g := w.heap.size + 1) Z5 hb); replace HR := Aside0.mk (Vr.below (g := w.heap.size + 1 + 1) Z5 hb); (try clear hc_HX hf_HX hl_HX); (try clear hc_HY hf_HY hl_HY); (try clear hc_HR hf_HR hl_HR); obtain ⟨hc_HX, hf_HX, hl_HX⟩ := Vr.q3 HX.out; obtain ⟨hc_HY, hf_HY, hl_HY⟩ := Vr.q3 HY.out; obtain ⟨hc_HR, hf_HR, hl_HR⟩ := Vr.q3 HR.out; clear hb) | (go_at_call 23; refine (sem_rValid (B := B) (x := x) ?_).mono ?_; exact ⟨_, _, _, _, rfl, Xf, Xf⟩; rw [HV.out.1]; rintro e w1 ⟨rfl, hb⟩; have n_ := Aside0.mk (Env.below Xe hb); have nb_ := Aside0.mk (below_step (w := w) Xb hb); have hz1 := hb.size; (try simp at hz1); clear HE HB; have HE := n_; have HB := nb_; clear n_ nb_; have HX := Aside0.mk (Vr.below (g := w.heap.size) Z5 hb); have HY := Aside0.mk (Vr.below (g := w.heap.size + 1) Z5 hb); have HR := Aside0.mk (Vr.below (g := w.heap.size + 1 + 1) Z5 hb); obtain ⟨hc_HX, hf_HX, hl_HX⟩ := Vr.q3 HX.out; obtain ⟨hc_HY, hf_HY, hl_HY⟩ := Vr.q3 HY.out; obtain ⟨hc_HR, hf_HR, hl_HR⟩ := Vr.q3 HR.out; clear hb))
    go_region_held3 (fun w' => w'.cell? ⟨w.heap.size, 0, none⟩ = some (.bool x.neg) ∧ w'.cell? ⟨w.heap.size, 1, none⟩ = some (.slice A1 x.p.length c1) ∧ w'.cell? ⟨w.heap.size, 2, none⟩ = some (.slice A2 x.q.length c2) ∧ w'.cell? ⟨w.heap.size + 1, 0, none⟩ = some (.bool y.neg) ∧ w'.cell? ⟨w.heap.size + 1, 1, none⟩ = some (.slice A3 y.p.length c3) ∧ w'.cell? ⟨w.heap.size + 1, 2, none⟩ = some (.slice A4 y.q.length c4)) ((repeat' apply And.intro) <;> (first | with_reducible exact hc_HX.1 | with_reducible exact hc_HX.2.1 | with_reducible exact hc_HX.2.2 | with_reducible exact hc_HY.1 | with_reducible exact hc_HY.2.1 | with_reducible exact hc_HY.2.2 | (apply Vr.at; exact Xv; rfl))) (first | (go_at_call 48; refine (q_negated (B := B) (x := y) (r := m) HN.out ?_).mono ?_; exact ⟨_, _, _, _, rfl, Xf, Xf⟩; rintro e w3 ⟨A5, c5, A6, c6, rfl, hs1, hs2, hb⟩; have n_ := Aside0.mk (Env.cons (Env.cons (Env.below Xe hb) (hs1)) (hs2)); have nb_ := Aside0.mk (below_step (w := w) Xb hb); have hz3 := hb.size; (try simp at hz3); clear HE HB; have HE := n_; have HB := nb_; clear n_ nb_; replace HX := Aside0.mk (Vr.below (g := w.heap.size) Z5 hb); replace HY := Aside0.mk (Vr.below (g := w.heap.size + 1) Z5 hb); replace HR := Aside0.mk (Vr.below (g := w.heap.size + 1 + 1) Z5 hb); (try clear hc_HX hf_HX hl_HX); (try clear hc_HY hf_HY hl_HY); (try clear hc_HR hf_HR hl_HR); obtain ⟨hc_HX, hf_HX, hl_HX⟩ := Vr.q3 HX.out; obtain ⟨hc_HY, hf_HY, hl_HY⟩ := Vr.q3 HY.out; obtain ⟨hc_HR, hf_HR, hl_HR⟩ := Vr.q3 HR.out; clear hb) | (go_at_call 25; refine (q_rAdd (B := B) (x := x) (y := m) (r := r) (er := er) HA.out Z10 ?_ ?_).mono ?_; exact ⟨_, _, _, _, rfl, Xf, Xf⟩; exact ⟨_, _, _, _, rfl, Xf, Xf⟩; rintro e w4 ⟨A7, c7, A8, c8, rfl, hs1, hs2, hb⟩; have n_ := Aside0.mk (Env.cons (Env.cons (Env.below Xe hb) (hs1)) (hs2)); have nb_ := Aside0.mk (below_step (w := w) Xb hb); have hz4 := hb.size; (try simp at hz4); clear HE HB; have HE := n_; have HB := nb_; clear n_ nb_; replace HX := Aside0.mk (Vr.below (g := w.heap.size) Z5 hb); replace HY := Aside0.mk (Vr.below (g := w.heap.size + 1) Z5 hb); replace HR := Aside0.mk (Vr.below (g := w.heap.size + 1 + 1) Z5 hb); (try clear hc_HX hf_HX hl_HX); (try clear hc_HY hf_HY hl_HY); (try clear hc_HR hf_HR hl_HR); obtain ⟨hc_HX, hf_HX, hl_HX⟩ := Vr.q3 HX.out; obtain ⟨hc_HY, hf_HY, hl_HY⟩ := Vr.q3 HY.out; obtain ⟨hc_HR, hf_HR, hl_HR⟩ := Vr.q3 HR.out; clear hb))
    all_goals
      (try go_wp2_with (fail))
      refine bodyPost_ret (results_list (rs := [.cell 4 27, .tmp 5]) rfl (by simp) (vals_vr Xv rfl Try.underlying27 rfl Z6 (.tmp .nil))) rfl ?_
      exact ⟨_, _, _, _, rfl, Xf, Xf, Xb⟩
theorem q_rSub {x y r : Rt} {er : Int} {v v' : Value} {w : World} {B : Nat} (hz : subR x y = (r, er)) (hB : B ≤ w.heap.size) (h : RaF B w v x) (h' : RaF B w v' y) : Calls Try.prog 28 #[v, v'] w (GiveQ B w r er) := by
  unfold subR at hz
  by_cases hv1 : rvB x = true
  rotate_left
  · rw [if_neg (fun h => hv1 h.1)] at hz
    injection hz with z1 z2
    subst z1 z2
    exact rSub_a (b1 := false) (by simpa using hv1) rfl rfl hB h h'
  by_cases hv2 : rvB y = true
  rotate_left
  · rw [if_neg (fun h => hv2 h.2)] at hz
    injection hz with z1 z2
    subst z1 z2
    exact rSub_a (b2 := false) hv1 (by simpa using hv2) rfl hB h h'
  rw [if_pos ⟨hv1, hv2⟩] at hz
  exact rSub_e hv1 hv2 rfl hz hB h h'
end Go.Proofs.Ytbjamhkhocjdkaa.Px
