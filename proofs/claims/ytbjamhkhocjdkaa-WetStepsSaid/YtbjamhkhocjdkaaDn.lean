/- One step on the way to the rows: contracts of the program's functions, each for every argument that its statement names. -/
import Derived.Test.YtbjamhkhocjdkaaDm
import Derived.Outline
import Derived.Deep.RegionHeld3
namespace Go.Proofs.Ytbjamhkhocjdkaa.Px
open Go.RowKit Go.Proofs.YtbjamhkhocjdkaaW.PrintWords Go.Proofs.YtbjamhkhocjdkaaW.PrintLast Go.Proofs.YtbjamhkhocjdkaaW.PrintMore Go.Proofs.Ytbjamhkhocjdkaa.Mat
set_option linter.unusedVariables false
set_option linter.unusedSimpArgs false
def whiteS (x : Rt) : Int := if rvB x = true then (if x.neg = true then 1 else if 8 < x.p.length ∨ 8 < x.q.length then 32 else 0) else 3
def beginS (f r c : Int) (x : Rt) : Int := if checkS f r c = 0 then whiteS x else checkS f r c
set_option maxHeartbeats 1000000 in
theorem begin_a {f r c : Int} {x : Rt} {A1 A2 : Option Addr} {c1 c2 : Nat} {w : World} {B : Nat} {er : Int} (hc : checkS f r c = er) (he : ¬ er = 0) (hB : B ≤ w.heap.size) (h1 : Fr B w (.slice A1 x.p.length c1) x.p) (h2 : Fr B w (.slice A2 x.q.length c2) x.q) :
    Calls Try.prog 36 #[.agg #[.int .i64 f, .int .i64 r, .int .i64 c], .agg #[.bool x.neg, .slice A1 x.p.length c1, .slice A2 x.q.length c2]] w fun e w' => e = .returned (.tuple #[.agg #[.int .i64 0, .int .i64 0, .int .i64 0, .bool false, .slice none 0 0, .slice none 0 0], .int .i64 (er)]) ∧ Below w.heap.size w w' := by
  obtain ⟨ng, p, q⟩ := x
  simp only at *
  have HC := Aside0.mk hc
  have he' : (er == 0) = false := beq_false_of_ne he
  clear hc
  have HE := Aside0.mk (((Env.nil B w).cons h2).cons h1)
  have HB := Aside0.mk (Below.refl w.heap.size w)
  clear h1 h2
  go_enter Try.func36, Try.ntmps36
  go_wp2_with (first | (go_at_call 12; refine (sem_Check f r c).mono ?_; rw [HC.out]; rintro e w1 ⟨rfl, hb⟩; have n_ := Aside0.mk (Env.below Xe hb); have nb_ := Aside0.mk (below_step (w := w) Xb hb); have hz1 := hb.size; (try simp at hz1); clear HE HB; have HE := n_; have HB := nb_; clear n_ nb_; have HW := Aside0.mk (Vr.below (g := w.heap.size) Z5 hb); have HX := Aside0.mk (Vr.below (g := w.heap.size + 1) Z5 hb); have HR := Aside0.mk (Vr.below (g := w.heap.size + 1 + 1) Z5 hb); obtain ⟨hc_HW, hf_HW, hl_HW⟩ := Vr.q3 HW.out; obtain ⟨hc_HX, hf_HX, hl_HX⟩ := Vr.q3 HX.out; obtain ⟨hc_HR, hf_HR, hl_HR⟩ := Vr.q6 HR.out; clear hb) | (go_at_call 51; refine (sem_rat_Valid (B := B) (x := ⟨ng, p, q⟩) ?_).mono ?_; exact ⟨_, _, _, _, rfl, Xf, Xf⟩; rw [HV.out]; rintro e w2 ⟨rfl, hb⟩; have n_ := Aside0.mk (Env.below Xe hb); have nb_ := Aside0.mk (below_step (w := w) Xb hb); have hz2 := hb.size; (try simp at hz2); clear HE HB; have HE := n_; have HB := nb_; clear n_ nb_; replace HW := Aside0.mk (Vr.below (g := w.heap.size) Z5 hb); replace HX := Aside0.mk (Vr.below (g := w.heap.size + 1) Z5 hb); replace HR := Aside0.mk (Vr.below (g := w.heap.size + 1 + 1) Z5 hb); (try clear hc_HW hf_HW hl_HW); (try clear hc_HX hf_HX hl_HX); (try clear hc_HR hf_HR hl_HR); obtain ⟨hc_HW, hf_HW, hl_HW⟩ := Vr.q3 HW.out; obtain ⟨hc_HX, hf_HX, hl_HX⟩ := Vr.q3 HX.out; obtain ⟨hc_HR, hf_HR, hl_HR⟩ := Vr.q6 HR.out; clear hb))
  all_goals
    refine bodyPost_ret (results_list (rs := [.cell 4 51, .tmp 5]) rfl (by simp) (vals_vr Xv rfl Try.underlying51 rfl Z6 (.tmp .nil))) rfl ?_
    exact ⟨rfl, Xb⟩
set_option maxHeartbeats 1000000 in
theorem begin_b {f r c : Int} {x : Rt} {A1 A2 : Option Addr} {c1 c2 : Nat} {w : World} {B : Nat} (hc : checkS f r c = 0) (hv : rvB x = false) (hB : B ≤ w.heap.size) (h1 : Fr B w (.slice A1 x.p.length c1) x.p) (h2 : Fr B w (.slice A2 x.q.length c2) x.q) :
    Calls Try.prog 36 #[.agg #[.int .i64 f, .int .i64 r, .int .i64 c], .agg #[.bool x.neg, .slice A1 x.p.length c1, .slice A2 x.q.length c2]] w fun e w' => e = .returned (.tuple #[.agg #[.int .i64 0, .int .i64 0, .int .i64 0, .bool false, .slice none 0 0, .slice none 0 0], .int .i64 (3)]) ∧ Below w.heap.size w w' := by
  obtain ⟨ng, p, q⟩ := x
  simp only at *
  have HC := Aside0.mk hc
  have HV := Aside0.mk hv
  clear hc hv
  have HE := Aside0.mk (((Env.nil B w).cons h2).cons h1)
  have HB := Aside0.mk (Below.refl w.heap.size w)
  clear h1 h2
  go_enter Try.func36, Try.ntmps36
  go_wp2_with (first | (go_at_call 12; refine (sem_Check f r c).mono ?_; rw [HC.out]; rintro e w1 ⟨rfl, hb⟩; have n_ := Aside0.mk (Env.below Xe hb); have nb_ := Aside0.mk (below_step (w := w) Xb hb); have hz1 := hb.size; (try simp at hz1); clear HE HB; have HE := n_; have HB := nb_; clear n_ nb_; have HW := Aside0.mk (Vr.below (g := w.heap.size) Z5 hb); have HX := Aside0.mk (Vr.below (g := w.heap.size + 1) Z5 hb); have HR := Aside0.mk (Vr.below (g := w.heap.size + 1 + 1) Z5 hb); obtain ⟨hc_HW, hf_HW, hl_HW⟩ := Vr.q3 HW.out; obtain ⟨hc_HX, hf_HX, hl_HX⟩ := Vr.q3 HX.out; obtain ⟨hc_HR, hf_HR, hl_HR⟩ := Vr.q6 HR.out; clear hb) | (go_at_call 51; refine (sem_rat_Valid (B := B) (x := ⟨ng, p, q⟩) ?_).mono ?_; exact ⟨_, _, _, _, rfl, Xf, Xf⟩; rw [HV.out]; rintro e w2 ⟨rfl, hb⟩; have n_ := Aside0.mk (Env.below Xe hb); have nb_ := Aside0.mk (below_step (w := w) Xb hb); have hz2 := hb.size; (try simp at hz2); clear HE HB; have HE := n_; have HB := nb_; clear n_ nb_; replace HW := Aside0.mk (Vr.below (g := w.heap.size) Z5 hb); replace HX := Aside0.mk (Vr.below (g := w.heap.size + 1) Z5 hb); replace HR := Aside0.mk (Vr.below (g := w.heap.size + 1 + 1) Z5 hb); (try clear hc_HW hf_HW hl_HW); (try clear hc_HX hf_HX hl_HX); (try clear hc_HR hf_HR hl_HR); obtain ⟨hc_HW, hf_HW, hl_HW⟩ := Vr.q3 HW.out; obtain ⟨hc_HX, hf_HX, hl_HX⟩ := Vr.q3 HX.out; obtain ⟨hc_HR, hf_HR, hl_HR⟩ := Vr.q6 HR.out; clear hb))
  all_goals
    refine bodyPost_ret (results_list (rs := [.cell 4 51, .tmp 5]) rfl (by simp) (vals_vr Xv rfl Try.underlying51 rfl Z6 (.tmp .nil))) rfl ?_
    exact ⟨rfl, Xb⟩
set_option maxHeartbeats 1000000 in
theorem begin_c {f r c : Int} {x : Rt} {A1 A2 : Option Addr} {c1 c2 : Nat} {w : World} {B : Nat} (hc : checkS f r c = 0) (hv : rvB x = true) (hn : x.neg = true) (hB : B ≤ w.heap.size) (h1 : Fr B w (.slice A1 x.p.length c1) x.p) (h2 : Fr B w (.slice A2 x.q.length c2) x.q) :
    Calls Try.prog 36 #[.agg #[.int .i64 f, .int .i64 r, .int .i64 c], .agg #[.bool x.neg, .slice A1 x.p.length c1, .slice A2 x.q.length c2]] w fun e w' => e = .returned (.tuple #[.agg #[.int .i64 0, .int .i64 0, .int .i64 0, .bool false, .slice none 0 0, .slice none 0 0], .int .i64 (1)]) ∧ Below w.heap.size w w' := by
  obtain ⟨ng, p, q⟩ := x
  simp only at *
  have HC := Aside0.mk hc
  have HV := Aside0.mk hv
  subst hn
  clear hc hv
  have HE := Aside0.mk (((Env.nil B w).cons h2).cons h1)
  have HB := Aside0.mk (Below.refl w.heap.size w)
  clear h1 h2
  go_enter Try.func36, Try.ntmps36
  go_wp2_with (first | (go_at_call 12; refine (sem_Check f r c).mono ?_; rw [HC.out]; rintro e w1 ⟨rfl, hb⟩; have n_ := Aside0.mk (Env.below Xe hb); have nb_ := Aside0.mk (below_step (w := w) Xb hb); have hz1 := hb.size; (try simp at hz1); clear HE HB; have HE := n_; have HB := nb_; clear n_ nb_; have HW := Aside0.mk (Vr.below (g := w.heap.size) Z5 hb); have HX := Aside0.mk (Vr.below (g := w.heap.size + 1) Z5 hb); have HR := Aside0.mk (Vr.below (g := w.heap.size + 1 + 1) Z5 hb); obtain ⟨hc_HW, hf_HW, hl_HW⟩ := Vr.q3 HW.out; obtain ⟨hc_HX, hf_HX, hl_HX⟩ := Vr.q3 HX.out; obtain ⟨hc_HR, hf_HR, hl_HR⟩ := Vr.q6 HR.out; clear hb) | (go_at_call 51; refine (sem_rat_Valid (B := B) (x := ⟨true, p, q⟩) ?_).mono ?_; exact ⟨_, _, _, _, rfl, Xf, Xf⟩; rw [HV.out]; rintro e w2 ⟨rfl, hb⟩; have n_ := Aside0.mk (Env.below Xe hb); have nb_ := Aside0.mk (below_step (w := w) Xb hb); have hz2 := hb.size; (try simp at hz2); clear HE HB; have HE := n_; have HB := nb_; clear n_ nb_; replace HW := Aside0.mk (Vr.below (g := w.heap.size) Z5 hb); replace HX := Aside0.mk (Vr.below (g := w.heap.size + 1) Z5 hb); replace HR := Aside0.mk (Vr.below (g := w.heap.size + 1 + 1) Z5 hb); (try clear hc_HW hf_HW hl_HW); (try clear hc_HX hf_HX hl_HX); (try clear hc_HR hf_HR hl_HR); obtain ⟨hc_HW, hf_HW, hl_HW⟩ := Vr.q3 HW.out; obtain ⟨hc_HX, hf_HX, hl_HX⟩ := Vr.q3 HX.out; obtain ⟨hc_HR, hf_HR, hl_HR⟩ := Vr.q6 HR.out; clear hb))
  all_goals
    refine bodyPost_ret (results_list (rs := [.cell 4 51, .tmp 5]) rfl (by simp) (vals_vr Xv rfl Try.underlying51 rfl Z6 (.tmp .nil))) rfl ?_
    exact ⟨rfl, Xb⟩
set_option maxHeartbeats 1000000 in
theorem begin_d1 {f r c : Int} {x : Rt} {A1 A2 : Option Addr} {c1 c2 : Nat} {w : World} {B : Nat} (hc : checkS f r c = 0) (hv : rvB x = true) (hn : x.neg = false) (hl : 8 < x.p.length) (hB : B ≤ w.heap.size) (h1 : Fr B w (.slice A1 x.p.length c1) x.p) (h2 : Fr B w (.slice A2 x.q.length c2) x.q) :
    Calls Try.prog 36 #[.agg #[.int .i64 f, .int .i64 r, .int .i64 c], .agg #[.bool x.neg, .slice A1 x.p.length c1, .slice A2 x.q.length c2]] w fun e w' => e = .returned (.tuple #[.agg #[.int .i64 0, .int .i64 0, .int .i64 0, .bool false, .slice none 0 0, .slice none 0 0], .int .i64 (32)]) ∧ Below w.heap.size w w' := by
  obtain ⟨ng, p, q⟩ := x
  simp only at *
  have HC := Aside0.mk hc
  have HV := Aside0.mk hv
  subst hn
  have hl' : 8 < (p.length : Int) := by omega
  clear hc hv
  have HE := Aside0.mk (((Env.nil B w).cons h2).cons h1)
  have HB := Aside0.mk (Below.refl w.heap.size w)
  clear h1 h2
  go_enter Try.func36, Try.ntmps36
  go_wp2_with (first | (go_at_call 12; refine (sem_Check f r c).mono ?_; rw [HC.out]; rintro e w1 ⟨rfl, hb⟩; have n_ := Aside0.mk (Env.below Xe hb); have nb_ := Aside0.mk (below_step (w := w) Xb hb); have hz1 := hb.size; (try simp at hz1); clear HE HB; have HE := n_; have HB := nb_; clear n_ nb_; have HW := Aside0.mk (Vr.below (g := w.heap.size) Z5 hb); have HX := Aside0.mk (Vr.below (g := w.heap.size + 1) Z5 hb); have HR := Aside0.mk (Vr.below (g := w.heap.size + 1 + 1) Z5 hb); obtain ⟨hc_HW, hf_HW, hl_HW⟩ := Vr.q3 HW.out; obtain ⟨hc_HX, hf_HX, hl_HX⟩ := Vr.q3 HX.out; obtain ⟨hc_HR, hf_HR, hl_HR⟩ := Vr.q6 HR.out; clear hb) | (go_at_call 51; refine (sem_rat_Valid (B := B) (x := ⟨false, p, q⟩) ?_).mono ?_; exact ⟨_, _, _, _, rfl, Xf, Xf⟩; rw [HV.out]; rintro e w2 ⟨rfl, hb⟩; have n_ := Aside0.mk (Env.below Xe hb); have nb_ := Aside0.mk (below_step (w := w) Xb hb); have hz2 := hb.size; (try simp at hz2); clear HE HB; have HE := n_; have HB := nb_; clear n_ nb_; replace HW := Aside0.mk (Vr.below (g := w.heap.size) Z5 hb); replace HX := Aside0.mk (Vr.below (g := w.heap.size + 1) Z5 hb); replace HR := Aside0.mk (Vr.below (g := w.heap.size + 1 + 1) Z5 hb); (try clear hc_HW hf_HW hl_HW); (try clear hc_HX hf_HX hl_HX); (try clear hc_HR hf_HR hl_HR); obtain ⟨hc_HW, hf_HW, hl_HW⟩ := Vr.q3 HW.out; obtain ⟨hc_HX, hf_HX, hl_HX⟩ := Vr.q3 HX.out; obtain ⟨hc_HR, hf_HR, hl_HR⟩ := Vr.q6 HR.out; clear hb))
  all_goals
    refine bodyPost_ret (results_list (rs := [.cell 4 51, .tmp 5]) rfl (by simp) (vals_vr Xv rfl Try.underlying51 rfl Z6 (.tmp .nil))) rfl ?_
    exact ⟨rfl, Xb⟩
set_option maxHeartbeats 1000000 in
theorem begin_d2 {f r c : Int} {x : Rt} {A1 A2 : Option Addr} {c1 c2 : Nat} {w : World} {B : Nat} (hc : checkS f r c = 0) (hv : rvB x = true) (hn : x.neg = false) (hl0 : ¬ 8 < x.p.length) (hl : 8 < x.q.length) (hB : B ≤ w.heap.size) (h1 : Fr B w (.slice A1 x.p.length c1) x.p) (h2 : Fr B w (.slice A2 x.q.length c2) x.q) :
    Calls Try.prog 36 #[.agg #[.int .i64 f, .int .i64 r, .int .i64 c], .agg #[.bool x.neg, .slice A1 x.p.length c1, .slice A2 x.q.length c2]] w fun e w' => e = .returned (.tuple #[.agg #[.int .i64 0, .int .i64 0, .int .i64 0, .bool false, .slice none 0 0, .slice none 0 0], .int .i64 (32)]) ∧ Below w.heap.size w w' := by
  obtain ⟨ng, p, q⟩ := x
  simp only at *
  have HC := Aside0.mk hc
  have HV := Aside0.mk hv
  subst hn
  have hl0' : ¬ 8 < (p.length : Int) := by omega
  have hl' : 8 < (q.length : Int) := by omega
  clear hc hv
  have HE := Aside0.mk (((Env.nil B w).cons h2).cons h1)
  have HB := Aside0.mk (Below.refl w.heap.size w)
  clear h1 h2
  go_enter Try.func36, Try.ntmps36
  go_wp2_with (first | (go_at_call 12; refine (sem_Check f r c).mono ?_; rw [HC.out]; rintro e w1 ⟨rfl, hb⟩; have n_ := Aside0.mk (Env.below Xe hb); have nb_ := Aside0.mk (below_step (w := w) Xb hb); have hz1 := hb.size; (try simp at hz1); clear HE HB; have HE := n_; have HB := nb_; clear n_ nb_; have HW := Aside0.mk (Vr.below (g := w.heap.size) Z5 hb); have HX := Aside0.mk (Vr.below (g := w.heap.size + 1) Z5 hb); have HR := Aside0.mk (Vr.below (g := w.heap.size + 1 + 1) Z5 hb); obtain ⟨hc_HW, hf_HW, hl_HW⟩ := Vr.q3 HW.out; obtain ⟨hc_HX, hf_HX, hl_HX⟩ := Vr.q3 HX.out; obtain ⟨hc_HR, hf_HR, hl_HR⟩ := Vr.q6 HR.out; clear hb) | (go_at_call 51; refine (sem_rat_Valid (B := B) (x := ⟨false, p, q⟩) ?_).mono ?_; exact ⟨_, _, _, _, rfl, Xf, Xf⟩; rw [HV.out]; rintro e w2 ⟨rfl, hb⟩; have n_ := Aside0.mk (Env.below Xe hb); have nb_ := Aside0.mk (below_step (w := w) Xb hb); have hz2 := hb.size; (try simp at hz2); clear HE HB; have HE := n_; have HB := nb_; clear n_ nb_; replace HW := Aside0.mk (Vr.below (g := w.heap.size) Z5 hb); replace HX := Aside0.mk (Vr.below (g := w.heap.size + 1) Z5 hb); replace HR := Aside0.mk (Vr.below (g := w.heap.size + 1 + 1) Z5 hb); (try clear hc_HW hf_HW hl_HW); (try clear hc_HX hf_HX hl_HX); (try clear hc_HR hf_HR hl_HR); obtain ⟨hc_HW, hf_HW, hl_HW⟩ := Vr.q3 HW.out; obtain ⟨hc_HX, hf_HX, hl_HX⟩ := Vr.q3 HX.out; obtain ⟨hc_HR, hf_HR, hl_HR⟩ := Vr.q6 HR.out; clear hb))
  all_goals
    refine bodyPost_ret (results_list (rs := [.cell 4 51, .tmp 5]) rfl (by simp) (vals_vr Xv rfl Try.underlying51 rfl Z6 (.tmp .nil))) rfl ?_
    exact ⟨rfl, Xb⟩
set_option maxHeartbeats 1000000 in
theorem begin_e {f r c : Int} {x : Rt} {A1 A2 : Option Addr} {c1 c2 : Nat} {w : World} {B : Nat} (hc : checkS f r c = 0) (hv : rvB x = true) (hn : x.neg = false) (hl0 : ¬ 8 < x.p.length) (hl : ¬ 8 < x.q.length) (hB : B ≤ w.heap.size) (h1 : Fr B w (.slice A1 x.p.length c1) x.p) (h2 : Fr B w (.slice A2 x.q.length c2) x.q) :
    Calls Try.prog 36 #[.agg #[.int .i64 f, .int .i64 r, .int .i64 c], .agg #[.bool x.neg, .slice A1 x.p.length c1, .slice A2 x.q.length c2]] w fun e w' => e = .returned (.tuple #[.agg #[.int .i64 f, .int .i64 r, .int .i64 c, .bool false, .slice A1 x.p.length c1, .slice A2 x.q.length c2], .int .i64 (0)]) ∧ Below w.heap.size w w' := by
  obtain ⟨ng, p, q⟩ := x
  simp only at *
  have HC := Aside0.mk hc
  have HV := Aside0.mk hv
  subst hn
  have hl0' : ¬ 8 < (p.length : Int) := by omega
  have hl' : ¬ 8 < (q.length : Int) := by omega
  clear hc hv
  have HE := Aside0.mk (((Env.nil B w).cons h2).cons h1)
  have HB := Aside0.mk (Below.refl w.heap.size w)
  clear h1 h2
  go_enter Try.func36, Try.ntmps36
  go_wp2_with (first | (go_at_call 12; refine (sem_Check f r c).mono ?_; rw [HC.out]; rintro e w1 ⟨rfl, hb⟩; have n_ := Aside0.mk (Env.below Xe hb); have nb_ := Aside0.mk (below_step (w := w) Xb hb); have hz1 := hb.size; (try simp at hz1); clear HE HB; have HE := n_; have HB := nb_; clear n_ nb_; have HW := Aside0.mk (Vr.below (g := w.heap.size) Z5 hb); have HX := Aside0.mk (Vr.below (g := w.heap.size + 1) Z5 hb); have HR := Aside0.mk (Vr.below (g := w.heap.size + 1 + 1) Z5 hb); obtain ⟨hc_HW, hf_HW, hl_HW⟩ := Vr.q3 HW.out; obtain ⟨hc_HX, hf_HX, hl_HX⟩ := Vr.q3 HX.out; obtain ⟨hc_HR, hf_HR, hl_HR⟩ := Vr.q6 HR.out; clear hb) | (go_at_call 51; refine (sem_rat_Valid (B := B) (x := ⟨false, p, q⟩) ?_).mono ?_; exact ⟨_, _, _, _, rfl, Xf, Xf⟩; rw [HV.out]; rintro e w2 ⟨rfl, hb⟩; have n_ := Aside0.mk (Env.below Xe hb); have nb_ := Aside0.mk (below_step (w := w) Xb hb); have hz2 := hb.size; (try simp at hz2); clear HE HB; have HE := n_; have HB := nb_; clear n_ nb_; replace HW := Aside0.mk (Vr.below (g := w.heap.size) Z5 hb); replace HX := Aside0.mk (Vr.below (g := w.heap.size + 1) Z5 hb); replace HR := Aside0.mk (Vr.below (g := w.heap.size + 1 + 1) Z5 hb); (try clear hc_HW hf_HW hl_HW); (try clear hc_HX hf_HX hl_HX); (try clear hc_HR hf_HR hl_HR); obtain ⟨hc_HW, hf_HW, hl_HW⟩ := Vr.q3 HW.out; obtain ⟨hc_HX, hf_HX, hl_HX⟩ := Vr.q3 HX.out; obtain ⟨hc_HR, hf_HR, hl_HR⟩ := Vr.q6 HR.out; clear hb))
  all_goals
    refine bodyPost_ret (results_list (rs := [.cell 4 51, .tmp 5]) rfl (by simp) (vals_vr Xv rfl Try.underlying51 rfl Z6 (.tmp .nil))) rfl ?_
    exact ⟨rfl, Xb⟩
theorem sem_begin_bad {f r c er : Int} {x : Rt} {A1 A2 : Option Addr} {c1 c2 : Nat} {w : World} {B : Nat} (hs : beginS f r c x = er) (he : ¬ er = 0) (hB : B ≤ w.heap.size) (h1 : Fr B w (.slice A1 x.p.length c1) x.p) (h2 : Fr B w (.slice A2 x.q.length c2) x.q) :
    Calls Try.prog 36 #[.agg #[.int .i64 f, .int .i64 r, .int .i64 c], .agg #[.bool x.neg, .slice A1 x.p.length c1, .slice A2 x.q.length c2]] w fun e w' => e = .returned (.tuple #[.agg #[.int .i64 0, .int .i64 0, .int .i64 0, .bool false, .slice none 0 0, .slice none 0 0], .int .i64 er]) ∧ Below w.heap.size w w' := by
  subst hs
  unfold beginS at he ⊢
  by_cases hc : checkS f r c = 0
  · rw [if_pos hc] at he ⊢
    unfold whiteS at he ⊢
    by_cases hv : rvB x = true
    · rw [if_pos hv] at he ⊢
      by_cases hn : x.neg = true
      · rw [if_pos hn]
        exact begin_c hc hv hn hB h1 h2
      · rw [if_neg hn] at he ⊢
        have hn' : x.neg = false := by simpa using hn
        by_cases hl : 8 < x.p.length ∨ 8 < x.q.length
        · rw [if_pos hl]
          by_cases h0 : 8 < x.p.length
          · exact begin_d1 hc hv hn' h0 hB h1 h2
          · exact begin_d2 hc hv hn' h0 (hl.resolve_left h0) hB h1 h2
        · rw [if_neg hl] at he
          exact absurd rfl he
    · rw [if_neg hv]
      exact begin_b hc (by simpa using hv) hB h1 h2
  · rw [if_neg hc] at he ⊢
    exact begin_a rfl he hB h1 h2
theorem whiteS_zero {x : Rt} (h : whiteS x = 0) : rvB x = true ∧ x.neg = false ∧ ¬ 8 < x.p.length ∧ ¬ 8 < x.q.length := by
  unfold whiteS at h
  split at h
  · split at h
    · omega
    · split at h
      · omega
      · rename_i hv hn hl
        exact ⟨hv, by simpa using hn, fun h => hl (.inl h), fun h => hl (.inr h)⟩
  · omega
theorem beginS_zero {f r c : Int} {x : Rt} (h : beginS f r c x = 0) : checkS f r c = 0 ∧ whiteS x = 0 := by
  unfold beginS at h
  split at h
  · exact ⟨by assumption, h⟩
  · exact absurd h (by assumption)
theorem sem_begin_ok {f r c : Int} {x : Rt} {A1 A2 : Option Addr} {c1 c2 : Nat} {w : World} {B : Nat} (hs : beginS f r c x = 0) (hB : B ≤ w.heap.size) (h1 : Fr B w (.slice A1 x.p.length c1) x.p) (h2 : Fr B w (.slice A2 x.q.length c2) x.q) :
    Calls Try.prog 36 #[.agg #[.int .i64 f, .int .i64 r, .int .i64 c], .agg #[.bool x.neg, .slice A1 x.p.length c1, .slice A2 x.q.length c2]] w fun e w' => e = .returned (.tuple #[.agg #[.int .i64 f, .int .i64 r, .int .i64 c, .bool x.neg, .slice A1 x.p.length c1, .slice A2 x.q.length c2], .int .i64 0]) ∧ Below w.heap.size w w' := by
  obtain ⟨hc, hw⟩ := beginS_zero hs
  obtain ⟨hv, hn, h3, h4⟩ := whiteS_zero hw
  rw [hn]
  have := begin_e hc hv hn h3 h4 hB h1 h2
  rw [hn] at this
  exact this
def GiveT (B : Nat) (w : World) (x y z : Rt) (e : Ending) (w' : World) : Prop := ∃ A1 c1 D1 d1 A2 c2 D2 d2 A3 c3 D3 d3, e = .returned (.tuple #[.agg #[.bool x.neg, .slice A1 x.p.length c1, .slice D1 x.q.length d1], .agg #[.bool y.neg, .slice A2 y.p.length c2, .slice D2 y.q.length d2], .agg #[.bool z.neg, .slice A3 z.p.length c3, .slice D3 z.q.length d3]]) ∧
  Fr B w' (.slice A1 x.p.length c1) x.p ∧ Fr B w' (.slice D1 x.q.length d1) x.q ∧ Fr B w' (.slice A2 y.p.length c2) y.p ∧ Fr B w' (.slice D2 y.q.length d2) y.q ∧ Fr B w' (.slice A3 z.p.length c3) z.p ∧ Fr B w' (.slice D3 z.q.length d3) z.q ∧ Below w.heap.size w w'
def GiveQ3 (B : Nat) (w : World) (x y z : Rt) (er : Int) (e : Ending) (w' : World) : Prop := ∃ A1 c1 D1 d1 A2 c2 D2 d2 A3 c3 D3 d3, e = .returned (.tuple #[.agg #[.bool x.neg, .slice A1 x.p.length c1, .slice D1 x.q.length d1], .agg #[.bool y.neg, .slice A2 y.p.length c2, .slice D2 y.q.length d2], .agg #[.bool z.neg, .slice A3 z.p.length c3, .slice D3 z.q.length d3], .int .i64 er]) ∧
  Fr B w' (.slice A1 x.p.length c1) x.p ∧ Fr B w' (.slice D1 x.q.length d1) x.q ∧ Fr B w' (.slice A2 y.p.length c2) y.p ∧ Fr B w' (.slice D2 y.q.length d2) y.q ∧ Fr B w' (.slice A3 z.p.length c3) z.p ∧ Fr B w' (.slice D3 z.q.length d3) z.q ∧ Below w.heap.size w w'
theorem q_done {f r c : Int} {x pp sw wh : Rt} {A1 A2 : Option Addr} {c1 c2 : Nat} {w : World} {B : Nat} (hd : doneR f r c x = (pp, sw, wh)) (hs : beginS f r c x = 0) (hB : B ≤ w.heap.size) (h1 : Fr B w (.slice A1 x.p.length c1) x.p) (h2 : Fr B w (.slice A2 x.q.length c2) x.q) :
    Calls Try.prog 37 #[.agg #[.int .i64 f, .int .i64 r, .int .i64 c, .bool x.neg, .slice A1 x.p.length c1, .slice A2 x.q.length c2]] w (GiveT B w pp sw wh) := by
  obtain ⟨hc, hw⟩ := beginS_zero hs
  have hn := done_neg hc (whiteS_zero hw).2.1
  refine (sem_done f r c ⟨hn.1, hn.2.2⟩ hB h1 h2).mono fun e w' h => ?_
  rw [hd] at h
  exact h
theorem q_done' {f r c : Int} {x pp sw wh : Rt} {A1 A2 : Option Addr} {c1 c2 : Nat} {w : World} {B : Nat} (hd : doneR f r c x = (pp, sw, wh)) (hc : checkS f r c = 0) (hx : x.neg = false) (hB : B ≤ w.heap.size) (h1 : Fr B w (.slice A1 x.p.length c1) x.p) (h2 : Fr B w (.slice A2 x.q.length c2) x.q) :
    Calls Try.prog 37 #[.agg #[.int .i64 f, .int .i64 r, .int .i64 c, .bool x.neg, .slice A1 x.p.length c1, .slice A2 x.q.length c2]] w (GiveT B w pp sw wh) := by
  have hn := done_neg hc hx
  refine (sem_done f r c ⟨hn.1, hn.2.2⟩ hB h1 h2).mono fun e w' h => ?_
  rw [hd] at h
  exact h
set_option maxHeartbeats 1000000 in
theorem sem_Step_bad {er : Int} {f r c : Int} {x : Rt} {v : Value} {w : World} {B : Nat} (hs : beginS f r c x = er) (he : ¬ er = 0) (hB : B ≤ w.heap.size) (h : RaF B w v x) :
    Calls Try.prog 17 #[.agg #[.int .i64 f, .int .i64 r, .int .i64 c], v] w (GiveQ3 B w zR zR zR er) := by
  obtain ⟨A1, c1, A2, c2, rfl, h1, h2⟩ := h
  have HE := Aside0.mk (((Env.nil B w).cons h2).cons h1)
  have HB := Aside0.mk (Below.refl w.heap.size w)
  have HS := Aside0.mk hs
  have HE0 := Aside0.mk he
  have he' : (er == 0) = false := beq_false_of_ne he
  clear h1 h2 hs
  go_enter Try.func17, Try.ntmps17
  go_wp2_with (first | (go_at_call 36; refine (sem_begin_bad (B := B) (f := f) (r := r) (c := c) (x := x) (A1 := A1) (A2 := A2) (c1 := c1) (c2 := c2) HS.out HE0.out Z10 ?_ ?_).mono ?_; exact Xf; exact Xf; rintro e w1 ⟨rfl, hb⟩; have n_ := Aside0.mk (Env.below Xe hb); have nb_ := Aside0.mk (below_step (w := w) Xb hb); have hz1 := hb.size; (try simp at hz1); clear HE HB; have HE := n_; have HB := nb_; clear n_ nb_; have HW := Aside0.mk (Vr.below (g := w.heap.size) Z5 hb); have HX := Aside0.mk (Vr.below (g := w.heap.size + 1) Z5 hb); have HP := Aside0.mk (Vr.below (g := w.heap.size + 1 + 1) Z5 hb); have HQ := Aside0.mk (Vr.below (g := w.heap.size + 1 + 1 + 1) Z5 hb); have HR := Aside0.mk (Vr.below (g := w.heap.size + 1 + 1 + 1 + 1) Z5 hb); obtain ⟨hc_HW, hf_HW, hl_HW⟩ := Vr.q3 HW.out; obtain ⟨hc_HX, hf_HX, hl_HX⟩ := Vr.q3 HX.out; obtain ⟨hc_HP, hf_HP, hl_HP⟩ := Vr.q3 HP.out; obtain ⟨hc_HQ, hf_HQ, hl_HQ⟩ := Vr.q3 HQ.out; obtain ⟨hc_HR, hf_HR, hl_HR⟩ := Vr.q3 HR.out; clear hb))
  all_goals
    refine bodyPost_ret (results_list (rs := [.cell 4 27, .cell 5 27, .cell 6 27, .tmp 7]) rfl (by simp) (vals_vr Xv rfl Try.underlying27 rfl Z6 (vals_vr Xv rfl Try.underlying27 rfl Z6 (vals_vr Xv rfl Try.underlying27 rfl Z6 (.tmp .nil))))) rfl ?_
    exact ⟨_, _, _, _, _, _, _, _, _, _, _, _, rfl, Xf, Xf, Xf, Xf, Xf, Xf, Xb⟩
set_option maxHeartbeats 4000000 in
set_option maxRecDepth 100000 in
theorem sem_Step_ok {f r c : Int} {x : Rt} {v : Value} {w : World} {B : Nat} (hs : beginS f r c x = 0) (hB : B ≤ w.heap.size) (h : RaF B w v x) {pp sw wh : Rt} (hd : doneR f r c x = (pp, sw, wh)) :
    Calls Try.prog 17 #[.agg #[.int .i64 f, .int .i64 r, .int .i64 c], v] w (GiveQ3 B w pp sw wh 0) := by
  obtain ⟨A1, c1, A2, c2, rfl, h1, h2⟩ := h
  have HE := Aside0.mk (((Env.nil B w).cons h2).cons h1)
  have HB := Aside0.mk (Below.refl w.heap.size w)
  have HS := Aside0.mk hs
  have HD := Aside0.mk hd
  clear h1 h2 hs hd
  go_enter Try.func17, Try.ntmps17
  go_wp2_with (first | (go_at_call 36; refine (sem_begin_ok (B := B) (f := f) (r := r) (c := c) (x := x) (A1 := A1) (A2 := A2) (c1 := c1) (c2 := c2) HS.out Z10 ?_ ?_).mono ?_; exact Xf; exact Xf; rintro e w1 ⟨rfl, hb⟩; have n_ := Aside0.mk (Env.below Xe hb); have nb_ := Aside0.mk (below_step (w := w) Xb hb); have hz1 := hb.size; (try simp at hz1); clear HE HB; have HE := n_; have HB := nb_; clear n_ nb_; have HW := Aside0.mk (Vr.below (g := w.heap.size) Z5 hb); have HX := Aside0.mk (Vr.below (g := w.heap.size + 1) Z5 hb); have HP := Aside0.mk (Vr.below (g := w.heap.size + 1 + 1) Z5 hb); have HQ := Aside0.mk (Vr.below (g := w.heap.size + 1 + 1 + 1) Z5 hb); have HR := Aside0.mk (Vr.below (g := w.heap.size + 1 + 1 + 1 + 1) Z5 hb); obtain ⟨hc_HW, hf_HW, hl_HW⟩ := Vr.q3 HW.out; obtain ⟨hc_HX, hf_HX, hl_HX⟩ := Vr.q3 HX.out; obtain ⟨hc_HP, hf_HP, hl_HP⟩ := Vr.q3 HP.out; obtain ⟨hc_HQ, hf_HQ, hl_HQ⟩ := Vr.q3 HQ.out; obtain ⟨hc_HR, hf_HR, hl_HR⟩ := Vr.q3 HR.out; clear hb) | (go_at_call 37; refine (q_done (B := B) (f := f) (r := r) (c := c) (x := x) (pp := pp) (sw := sw) (wh := wh) (A1 := A1) (A2 := A2) (c1 := c1) (c2 := c2) HD.out HS.out Z10 ?_ ?_).mono ?_; exact Xf; exact Xf; rintro e w2 ⟨A3, c3, D3, d3, A4, c4, D4, d4, A5, c5, D5, d5, rfl, hs1, hs2, hs3, hs4, hs5, hs6, hb⟩; have n_ := Aside0.mk (Env.cons (Env.cons (Env.cons (Env.cons (Env.cons (Env.cons (Env.below Xe hb) (hs1)) (hs2)) (hs3)) (hs4)) (hs5)) (hs6)); have nb_ := Aside0.mk (below_step (w := w) Xb hb); have hz2 := hb.size; (try simp at hz2); clear HE HB; have HE := n_; have HB := nb_; clear n_ nb_; replace HW := Aside0.mk (Vr.below (g := w.heap.size) Z5 hb); replace HX := Aside0.mk (Vr.below (g := w.heap.size + 1) Z5 hb); replace HP := Aside0.mk (Vr.below (g := w.heap.size + 1 + 1) Z5 hb); replace HQ := Aside0.mk (Vr.below (g := w.heap.size + 1 + 1 + 1) Z5 hb); replace HR := Aside0.mk (Vr.below (g := w.heap.size + 1 + 1 + 1 + 1) Z5 hb); (try clear hc_HW hf_HW hl_HW); (try clear hc_HX hf_HX hl_HX); (try clear hc_HP hf_HP hl_HP); (try clear hc_HQ hf_HQ hl_HQ); (try clear hc_HR hf_HR hl_HR); obtain ⟨hc_HW, hf_HW, hl_HW⟩ := Vr.q3 HW.out; obtain ⟨hc_HX, hf_HX, hl_HX⟩ := Vr.q3 HX.out; obtain ⟨hc_HP, hf_HP, hl_HP⟩ := Vr.q3 HP.out; obtain ⟨hc_HQ, hf_HQ, hl_HQ⟩ := Vr.q3 HQ.out; obtain ⟨hc_HR, hf_HR, hl_HR⟩ := Vr.q3 HR.out; clear hb; have hq_ : w.heap.size ≠ w2.heap.size ∧ w2.heap.size ≠ w.heap.size ∧ w.heap.size < w2.heap.size ∧ w.heap.size ≤ w2.heap.size ∧ w.heap.size ≠ w2.heap.size + 1 ∧ w2.heap.size + 1 ≠ w.heap.size ∧ w.heap.size < w2.heap.size + 1 ∧ w.heap.size ≤ w2.heap.size + 1 ∧ w.heap.size ≠ w2.heap.size + 1 + 1 ∧ w2.heap.size + 1 + 1 ≠ w.heap.size ∧ w.heap.size < w2.heap.size + 1 + 1 ∧ w.heap.size ≤ w2.heap.size + 1 + 1 ∧ w.heap.size ≠ w2.heap.size + 1 + 1 + 1 ∧ w2.heap.size + 1 + 1 + 1 ≠ w.heap.size ∧ w.heap.size < w2.heap.size + 1 + 1 + 1 ∧ w.heap.size ≤ w2.heap.size + 1 + 1 + 1 ∧ w.heap.size + 1 ≠ w2.heap.size ∧ w2.heap.size ≠ w.heap.size + 1 ∧ w.heap.size + 1 < w2.heap.size ∧ w.heap.size + 1 ≤ w2.heap.size ∧ w.heap.size + 1 ≠ w2.heap.size + 1 ∧ w2.heap.size + 1 ≠ w.heap.size + 1 ∧ w.heap.size + 1 < w2.heap.size + 1 ∧ w.heap.size + 1 ≤ w2.heap.size + 1 ∧ w.heap.size + 1 ≠ w2.heap.size + 1 + 1 ∧ w2.heap.size + 1 + 1 ≠ w.heap.size + 1 ∧ w.heap.size + 1 < w2.heap.size + 1 + 1 ∧ w.heap.size + 1 ≤ w2.heap.size + 1 + 1 ∧ w.heap.size + 1 ≠ w2.heap.size + 1 + 1 + 1 ∧ w2.heap.size + 1 + 1 + 1 ≠ w.heap.size + 1 ∧ w.heap.size + 1 < w2.heap.size + 1 + 1 + 1 ∧ w.heap.size + 1 ≤ w2.heap.size + 1 + 1 + 1 ∧ w.heap.size + 1 + 1 ≠ w2.heap.size ∧ w2.heap.size ≠ w.heap.size + 1 + 1 ∧ w.heap.size + 1 + 1 < w2.heap.size ∧ w.heap.size + 1 + 1 ≤ w2.heap.size ∧ w.heap.size + 1 + 1 ≠ w2.heap.size + 1 ∧ w2.heap.size + 1 ≠ w.heap.size + 1 + 1 ∧ w.heap.size + 1 + 1 < w2.heap.size + 1 ∧ w.heap.size + 1 + 1 ≤ w2.heap.size + 1 ∧ w.heap.size + 1 + 1 ≠ w2.heap.size + 1 + 1 ∧ w2.heap.size + 1 + 1 ≠ w.heap.size + 1 + 1 ∧ w.heap.size + 1 + 1 < w2.heap.size + 1 + 1 ∧ w.heap.size + 1 + 1 ≤ w2.heap.size + 1 + 1 ∧ w.heap.size + 1 + 1 ≠ w2.heap.size + 1 + 1 + 1 ∧ w2.heap.size + 1 + 1 + 1 ≠ w.heap.size + 1 + 1 ∧ w.heap.size + 1 + 1 < w2.heap.size + 1 + 1 + 1 ∧ w.heap.size + 1 + 1 ≤ w2.heap.size + 1 + 1 + 1 ∧ w.heap.size + 1 + 1 + 1 ≠ w2.heap.size ∧ w2.heap.size ≠ w.heap.size + 1 + 1 + 1 ∧ w.heap.size + 1 + 1 + 1 < w2.heap.size ∧ w.heap.size + 1 + 1 + 1 ≤ w2.heap.size ∧ w.heap.size + 1 + 1 + 1 ≠ w2.heap.size + 1 ∧ w2.heap.size + 1 ≠ w.heap.size + 1 + 1 + 1 ∧ w.heap.size + 1 + 1 + 1 < w2.heap.size + 1 ∧ w.heap.size + 1 + 1 + 1 ≤ w2.heap.size + 1 ∧ w.heap.size + 1 + 1 + 1 ≠ w2.heap.size + 1 + 1 ∧ w2.heap.size + 1 + 1 ≠ w.heap.size + 1 + 1 + 1 ∧ w.heap.size + 1 + 1 + 1 < w2.heap.size + 1 + 1 ∧ w.heap.size + 1 + 1 + 1 ≤ w2.heap.size + 1 + 1 ∧ w.heap.size + 1 + 1 + 1 ≠ w2.heap.size + 1 + 1 + 1 ∧ w2.heap.size + 1 + 1 + 1 ≠ w.heap.size + 1 + 1 + 1 ∧ w.heap.size + 1 + 1 + 1 < w2.heap.size + 1 + 1 + 1 ∧ w.heap.size + 1 + 1 + 1 ≤ w2.heap.size + 1 + 1 + 1 ∧ w.heap.size + 1 + 1 + 1 + 1 ≠ w2.heap.size ∧ w2.heap.size ≠ w.heap.size + 1 + 1 + 1 + 1 ∧ w.heap.size + 1 + 1 + 1 + 1 < w2.heap.size ∧ w.heap.size + 1 + 1 + 1 + 1 ≤ w2.heap.size ∧ w.heap.size + 1 + 1 + 1 + 1 ≠ w2.heap.size + 1 ∧ w2.heap.size + 1 ≠ w.heap.size + 1 + 1 + 1 + 1 ∧ w.heap.size + 1 + 1 + 1 + 1 < w2.heap.size + 1 ∧ w.heap.size + 1 + 1 + 1 + 1 ≤ w2.heap.size + 1 ∧ w.heap.size + 1 + 1 + 1 + 1 ≠ w2.heap.size + 1 + 1 ∧ w2.heap.size + 1 + 1 ≠ w.heap.size + 1 + 1 + 1 + 1 ∧ w.heap.size + 1 + 1 + 1 + 1 < w2.heap.size + 1 + 1 ∧ w.heap.size + 1 + 1 + 1 + 1 ≤ w2.heap.size + 1 + 1 ∧ w.heap.size + 1 + 1 + 1 + 1 ≠ w2.heap.size + 1 + 1 + 1 ∧ w2.heap.size + 1 + 1 + 1 ≠ w.heap.size + 1 + 1 + 1 + 1 ∧ w.heap.size + 1 + 1 + 1 + 1 < w2.heap.size + 1 + 1 + 1 ∧ w.heap.size + 1 + 1 + 1 + 1 ≤ w2.heap.size + 1 + 1 + 1 := by omega))
  go_region_held3 (fun w' => w'.cell? ⟨w2.heap.size, 0, none⟩ = some (.bool pp.neg) ∧ w'.cell? ⟨w2.heap.size, 1, none⟩ = some (.slice A3 pp.p.length c3) ∧ w'.cell? ⟨w2.heap.size, 2, none⟩ = some (.slice D3 pp.q.length d3) ∧ w'.cell? ⟨w2.heap.size + 1, 0, none⟩ = some (.bool sw.neg) ∧ w'.cell? ⟨w2.heap.size + 1, 1, none⟩ = some (.slice A4 sw.p.length c4) ∧ w'.cell? ⟨w2.heap.size + 1, 2, none⟩ = some (.slice D4 sw.q.length d4) ∧ w'.cell? ⟨w2.heap.size + 1 + 1, 0, none⟩ = some (.bool wh.neg) ∧ w'.cell? ⟨w2.heap.size + 1 + 1, 1, none⟩ = some (.slice A5 wh.p.length c5) ∧ w'.cell? ⟨w2.heap.size + 1 + 1, 2, none⟩ = some (.slice D5 wh.q.length d5)) ((repeat' apply And.intro) <;> (apply Vr.at; exact Xv; rfl)) (fail)
  all_goals
    (try go_wp2_with (fail))
    refine bodyPost_ret (results_list (rs := [.cell 4 27, .cell 5 27, .cell 6 27, .tmp 7]) rfl (by simp) (vals_vr Xv rfl Try.underlying27 rfl Z6 (vals_vr Xv rfl Try.underlying27 rfl Z6 (vals_vr Xv rfl Try.underlying27 rfl Z6 (.tmp .nil))))) rfl ?_
    exact ⟨_, _, _, _, _, _, _, _, _, _, _, _, rfl, Xf, Xf, Xf, Xf, Xf, Xf, Xb⟩
def steadyR (f r c : Int) : Rt := timesR (makeS f 1).1 ((1000 - r) * c) (1000000 - (1000 - r) * c)
set_option maxHeartbeats 1000000 in
theorem sem_Steady_ok {f r c : Int} {w : World} {B : Nat} (hc : checkS f r c = 0) (hB : B ≤ w.heap.size) : Calls Try.prog 10 #[.agg #[.int .i64 f, .int .i64 r, .int .i64 c]] w (GiveQ B w (steadyR f r c) 0) := by
  obtain ⟨⟨f1, f2⟩, ⟨r1, r2⟩, c1, c2⟩ := checkS_zero hc
  unfold steadyR
  have hk0 : 0 ≤ (1000 - r) * c := Int.mul_nonneg (by omega) c1
  have hk1 : (1000 - r) * c ≤ 999000 := by
    have := Int.mul_le_mul (show 1000 - r ≤ 999 by omega) c2 c1 (by decide)
    omega
  obtain ⟨k, hk⟩ : ∃ k, (1000 - r) * c = k := ⟨_, rfl⟩
  rw [hk] at hk0 hk1 ⊢
  obtain ⟨r1, e1, h1⟩ : ∃ r e, makeS f 1 = (r, e) := ⟨_, _, rfl⟩
  rw [h1]
  simp only
  obtain ⟨r2, h2⟩ : ∃ z, timesR r1 k (1000000 - k) = z := ⟨_, rfl⟩
  rw [h2]
  have H1 := Aside0.mk h1
  have H2 := Aside0.mk h2
  have HE := Aside0.mk (Env.nil B w)
  have HB := Aside0.mk (Below.refl w.heap.size w)
  have HC := Aside0.mk hc
  have hw1 : (-9223372036854775808 : Int) ≤ 1000 - r ∧ 1000 - r ≤ 9223372036854775807 := by omega
  have hw2 : (-9223372036854775808 : Int) ≤ 1000000 - k ∧ 1000000 - k ≤ 9223372036854775807 := by omega
  clear hc h1 h2
  go_enter Try.func10, Try.ntmps10
  go_wp2_with (first | (go_at_call 12; refine (sem_Check f r c).mono ?_; rw [HC.out]; rintro e w1 ⟨rfl, hb⟩; have n_ := Aside0.mk (Env.below Xe hb); have nb_ := Aside0.mk (below_step (w := w) Xb hb); have hz1 := hb.size; (try simp at hz1); clear HE HB; have HE := n_; have HB := nb_; clear n_ nb_; have HW := Aside0.mk (Vr.below (g := w.heap.size) Z5 hb); have HR := Aside0.mk (Vr.below (g := w.heap.size + 1) Z5 hb); obtain ⟨hc_HW, hf_HW, hl_HW⟩ := Vr.q3 HW.out; obtain ⟨hc_HR, hf_HR, hl_HR⟩ := Vr.q3 HR.out; clear hb) | (go_at_call 32; refine (q_Of (B := B) (r := r1) (er := e1) H1.out Z10).mono ?_; rintro e w2 ⟨A3, c3, D3, d3, rfl, hs1, hs2, hb⟩; have n_ := Aside0.mk (Env.cons (Env.cons (Env.below Xe hb) (hs1)) (hs2)); have nb_ := Aside0.mk (below_step (w := w) Xb hb); have hz2 := hb.size; (try simp at hz2); clear HE HB; have HE := n_; have HB := nb_; clear n_ nb_; replace HW := Aside0.mk (Vr.below (g := w.heap.size) Z5 hb); replace HR := Aside0.mk (Vr.below (g := w.heap.size + 1) Z5 hb); (try clear hc_HW hf_HW hl_HW); (try clear hc_HR hf_HR hl_HR); obtain ⟨hc_HW, hf_HW, hl_HW⟩ := Vr.q3 HW.out; obtain ⟨hc_HR, hf_HR, hl_HR⟩ := Vr.q3 HR.out; clear hb) | (go_at_call 31; refine (sem_value _ _ _ ⟨_, _, _, rfl⟩ ⟨_, _, _, rfl⟩ _).mono ?_; rintro e w3 ⟨rfl, hb⟩; have n_ := Aside0.mk (Env.below Xe hb); have nb_ := Aside0.mk (below_step (w := w) Xb hb); have hz3 := hb.size; (try simp at hz3); clear HE HB; have HE := n_; have HB := nb_; clear n_ nb_; replace HW := Aside0.mk (Vr.below (g := w.heap.size) Z5 hb); replace HR := Aside0.mk (Vr.below (g := w.heap.size + 1) Z5 hb); (try clear hc_HW hf_HW hl_HW); (try clear hc_HR hf_HR hl_HR); obtain ⟨hc_HW, hf_HW, hl_HW⟩ := Vr.q3 HW.out; obtain ⟨hc_HR, hf_HR, hl_HR⟩ := Vr.q3 HR.out; clear hb) | (go_at_call 30; refine (sem_times (B := B) (x := r1) k (1000000 - k) Z10 ?_).mono ?_; exact ⟨_, _, _, _, rfl, Xf, Xf⟩; rw [H2.out]; rintro e w4 ⟨A4, c4, D4, d4, rfl, hs1, hs2, hb⟩; have n_ := Aside0.mk (Env.cons (Env.cons (Env.below Xe hb) (hs1)) (hs2)); have nb_ := Aside0.mk (below_step (w := w) Xb hb); have hz4 := hb.size; (try simp at hz4); clear HE HB; have HE := n_; have HB := nb_; clear n_ nb_; replace HW := Aside0.mk (Vr.below (g := w.heap.size) Z5 hb); replace HR := Aside0.mk (Vr.below (g := w.heap.size + 1) Z5 hb); (try clear hc_HW hf_HW hl_HW); (try clear hc_HR hf_HR hl_HR); obtain ⟨hc_HW, hf_HW, hl_HW⟩ := Vr.q3 HW.out; obtain ⟨hc_HR, hf_HR, hl_HR⟩ := Vr.q3 HR.out; clear hb))
  all_goals
    refine bodyPost_ret (results_list (rs := [.cell 2 27, .tmp 3]) rfl (by simp) (vals_vr Xv rfl Try.underlying27 rfl Z6 (.tmp .nil))) rfl ?_
    exact ⟨_, _, _, _, rfl, Xf, Xf, Xb⟩
end Go.Proofs.Ytbjamhkhocjdkaa.Px
