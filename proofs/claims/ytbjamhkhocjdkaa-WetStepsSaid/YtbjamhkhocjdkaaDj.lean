/- One step on the way to the rows: contracts of the program's functions, each for every argument that its statement names. -/
import Derived.Test.YtbjamhkhocjdkaaDi
import Derived.Outline
import Derived.Deep.RegionHeld3
import Derived.RegionTactic
import Derived.ChangeAlike
namespace Go.Proofs.Ytbjamhkhocjdkaa.Px
open Go.RowKit Go.Proofs.YtbjamhkhocjdkaaW.PrintWords Go.Proofs.YtbjamhkhocjdkaaW.PrintLast Go.Proofs.YtbjamhkhocjdkaaW.PrintMore Go.Proofs.Ytbjamhkhocjdkaa.Mat
set_option linter.unusedVariables false
set_option linter.unusedSimpArgs false
theorem fitS_cases (n : Int) : fitS n = (dg n, 0) ∨ fitS n = ([], 2) := by unfold fitS; split <;> simp
theorem sem_Mul {x y : Rt} {v v' : Value} {w : World} {B : Nat} (hB : B ≤ w.heap.size) (h : RaF B w v x) (h' : RaF B w v' y) : Calls Try.prog 49 #[v, v'] w (GiveR B w (mulR x y)) := by
  unfold mulR
  by_cases hv1 : rvB x = true
  rotate_left
  · rw [if_neg (fun h => hv1 h.1)]
    exact sem_Mul_a false (rvB y) (by simpa using hv1) rfl (by simp) hB h h'
  by_cases hv2 : rvB y = true
  rotate_left
  · rw [if_neg (fun h => hv2 h.2)]
    exact sem_Mul_a true false hv1 (by simpa using hv2) (by simp) hB h h'
  rw [if_pos ⟨hv1, hv2⟩]
  obtain ⟨x1, x2, x3, x4, x5⟩ := rvB_iff.1 hv1
  obtain ⟨y1, y2, y3, y4, y5⟩ := rvB_iff.1 hv2
  have n1 := (okN_iff.1 x1).nonneg
  have n2 := (okN_iff.1 y1).nonneg
  have n3 := (okN_iff.1 x2).nonneg
  have n4 := (okN_iff.1 y2).nonneg
  have q1 := val_pos (okN_iff.1 x2).2 x3
  have q2 := val_pos (okN_iff.1 y2).2 y3
  have m1 := mulS_ok x1 y1
  have m2 := mulS_ok x2 y2
  rcases fitS_cases (val x.p * val y.p) with e1 | e1
  · rw [e1] at m1
    rw [m1, if_pos rfl]
    rcases fitS_cases (val x.q * val y.q) with e2 | e2
    · rw [e2] at m2
      rw [m2, if_pos rfl]
      have f1 := fit_facts (Int.mul_nonneg n1 n2) e1
      have f2 := fit_facts (Int.mul_nonneg n3 n4) e2
      exact sem_Mul_d m1 m2 ⟨f1.1, f2.1, f2.2.2.1 (by have := Int.mul_pos q1 q2; omega)⟩ hv1 hv2 hB h h'
    · rw [e2] at m2
      rw [m2, if_neg (by decide)]
      exact sem_Mul_c m1 m2 (by decide) hv1 hv2 hB h h'
  · rw [e1] at m1
    rw [m1, if_neg (by decide)]
    obtain ⟨m, e, hm⟩ : ∃ m e, mulS x.q y.q = (m, e) := ⟨_, _, rfl⟩
    exact sem_Mul_b m1 hm (by decide) hv1 hv2 hB h h'
theorem Mv.drewN {G : Nat → Prop} {w w' : World} (h : Mv G w w') {n : Nat} : Mv G w (w'.drewN n) := h.step (pw_below_drewN (Below.refl _ _) n)
theorem Mv.drew {G : Nat → Prop} {w w' : World} (h : Mv G w w') : Mv G w w'.drew := h.step (below_drew1 (Below.refl _ _))
set_option maxHeartbeats 400000 in
theorem sem_Add1_a {w : World} {ga gb gx gy gs gn : Nat} {a1 a2 b1 b2 old : Value} {A1 A2 : Option Addr} {c1 c2 B : Nat} {x y m : List Int} {e : Int} (na nb : Bool)
    (ha : Vr w ga #[.bool na, a1, a2] 27) (hb : Vr w gb #[.bool nb, b1, b2] 27) (hx : Vr w gx #[.slice A1 x.length c1] 25) (hy : Vr w gy #[.slice A2 y.length c2] 25) (hs : Vr w gs #[old] 25) (hn : Vr w gn #[.bool na] 4)
    (hd : gs ≠ gx ∧ gs ≠ gy ∧ gs ≠ gn ∧ gx ≠ gy ∧ gx ≠ gn ∧ gy ≠ gn ∧ ga ≠ gx ∧ ga ≠ gy ∧ ga ≠ gs ∧ ga ≠ gn ∧ gb ≠ gx ∧ gb ≠ gy ∧ gb ≠ gs ∧ gb ≠ gn) (hB : B ≤ gx ∧ B ≤ gy ∧ B ≤ gs ∧ B ≤ gn)
    (h1 : Fr B w (.slice A1 x.length c1) x) (h2 : Fr B w (.slice A2 y.length c2) y) (hm : addS x y = (m, e)) (hnn : na = nb) : Calls Try.prog 69 #[.pointer (some ⟨ga, 0, none⟩), .pointer (some ⟨gb, 0, none⟩), .pointer (some ⟨gx, 0, none⟩), .pointer (some ⟨gy, 0, none⟩), .pointer (some ⟨gs, 0, none⟩), .pointer (some ⟨gn, 0, none⟩)] w (fun e' w' => e' = .returned (.int .i64 e) ∧ Mv (fun k => k = gx ∨ (k = gy ∨ (k = gs ∨ (k = gn ∨ False)))) w w' ∧ ∃ A c, Vr w' gs #[.slice A m.length c] 25 ∧ Fr B w' (.slice A m.length c) m ∧ Vr w' gn #[.bool na] 4) := by
  have HM := Aside0.mk hm
  clear hm
  subst hnn
  have HE := Aside0.mk (((Env.nil B w).cons h2).cons h1)
  have HB := Aside0.mk (Below.refl w.heap.size w)
  have HA := Aside0.mk ha
  have HC := Aside0.mk hb
  have HX := Aside0.mk hx
  have HY := Aside0.mk hy
  have HS := Aside0.mk hs
  have HN := Aside0.mk hn
  (first | obtain ⟨hc_HA, hf_HA, hl_HA⟩ := Vr.q3 HA.out | (obtain ⟨hc_HA, hf_HA, hl_HA⟩ := Vr.p3 HA.out; (try simp at hc_HA)))
  (first | obtain ⟨hc_HC, hf_HC, hl_HC⟩ := Vr.q3 HC.out | (obtain ⟨hc_HC, hf_HC, hl_HC⟩ := Vr.p3 HC.out; (try simp at hc_HC)))
  (first | obtain ⟨hc_HX, hf_HX, hl_HX⟩ := Vr.q1 HX.out | (obtain ⟨hc_HX, hf_HX, hl_HX⟩ := Vr.p1 HX.out; (try simp at hc_HX)))
  (first | obtain ⟨hc_HY, hf_HY, hl_HY⟩ := Vr.q1 HY.out | (obtain ⟨hc_HY, hf_HY, hl_HY⟩ := Vr.p1 HY.out; (try simp at hc_HY)))
  (first | obtain ⟨hc_HS, hf_HS, hl_HS⟩ := Vr.q1 HS.out | (obtain ⟨hc_HS, hf_HS, hl_HS⟩ := Vr.p1 HS.out; (try simp at hc_HS)))
  (first | obtain ⟨hc_HN, hf_HN, hl_HN⟩ := Vr.q1 HN.out | (obtain ⟨hc_HN, hf_HN, hl_HN⟩ := Vr.p1 HN.out; (try simp at hc_HN)))
  clear ha hb hx hy hs hn h1 h2
  cases na
  all_goals
    go_enter Try.func69, Try.ntmps69
    go_wp2_with (first | (go_at_call 70; refine (sem_nat_Add (a := x) (b := y) ?_ ?_).mono ?_; exact Fr.sl (B := B) Xf; exact Fr.sl (B := B) Xf; rw [HM.out]; rintro e w1 ⟨v0, rfl, hs, hb⟩; obtain ⟨A0, c0, rfl, hs1⟩ := (hs B).open; have n_ := Aside0.mk (Env.cons (Env.below Xe hb) (hs1)); have nb_ := Aside0.mk (below_step (w := w) Xb hb); have hz1 := hb.size; (try simp at hz1); clear HE HB; have HE := n_; have HB := nb_; clear n_ nb_; replace HA := Aside0.mk (Vr.below (g := ga) Z5 hb); replace HC := Aside0.mk (Vr.below (g := gb) Z5 hb); replace HX := Aside0.mk (Vr.below (g := gx) Z5 hb); replace HY := Aside0.mk (Vr.below (g := gy) Z5 hb); replace HS := Aside0.mk (Vr.below (g := gs) Z5 hb); replace HN := Aside0.mk (Vr.below (g := gn) Z5 hb); (try clear hc_HA hf_HA hl_HA); (try clear hc_HC hf_HC hl_HC); (try clear hc_HX hf_HX hl_HX); (try clear hc_HY hf_HY hl_HY); (try clear hc_HS hf_HS hl_HS); (try clear hc_HN hf_HN hl_HN); (first | obtain ⟨hc_HA, hf_HA, hl_HA⟩ := Vr.q3 HA.out | (obtain ⟨hc_HA, hf_HA, hl_HA⟩ := Vr.p3 HA.out; (try simp at hc_HA))); (first | obtain ⟨hc_HC, hf_HC, hl_HC⟩ := Vr.q3 HC.out | (obtain ⟨hc_HC, hf_HC, hl_HC⟩ := Vr.p3 HC.out; (try simp at hc_HC))); (first | obtain ⟨hc_HX, hf_HX, hl_HX⟩ := Vr.q1 HX.out | (obtain ⟨hc_HX, hf_HX, hl_HX⟩ := Vr.p1 HX.out; (try simp at hc_HX))); (first | obtain ⟨hc_HY, hf_HY, hl_HY⟩ := Vr.q1 HY.out | (obtain ⟨hc_HY, hf_HY, hl_HY⟩ := Vr.p1 HY.out; (try simp at hc_HY))); (first | obtain ⟨hc_HS, hf_HS, hl_HS⟩ := Vr.q1 HS.out | (obtain ⟨hc_HS, hf_HS, hl_HS⟩ := Vr.p1 HS.out; (try simp at hc_HS))); (first | obtain ⟨hc_HN, hf_HN, hl_HN⟩ := Vr.q1 HN.out | (obtain ⟨hc_HN, hf_HN, hl_HN⟩ := Vr.p1 HN.out; (try simp at hc_HN))); clear hb))
    go_ret
    exact ⟨rfl, Z19, A0, c0, Z3, Xf, Xv⟩
set_option maxHeartbeats 400000 in
theorem sem_Add1_b {w : World} {ga gb gx gy gs gn : Nat} {a1 a2 b1 b2 old : Value} {A1 A2 : Option Addr} {c1 c2 B : Nat} {x y m : List Int} {e : Int} (na nb : Bool)
    (ha : Vr w ga #[.bool na, a1, a2] 27) (hb : Vr w gb #[.bool nb, b1, b2] 27) (hx : Vr w gx #[.slice A1 x.length c1] 25) (hy : Vr w gy #[.slice A2 y.length c2] 25) (hs : Vr w gs #[old] 25) (hn : Vr w gn #[.bool na] 4)
    (hd : gs ≠ gx ∧ gs ≠ gy ∧ gs ≠ gn ∧ gx ≠ gy ∧ gx ≠ gn ∧ gy ≠ gn ∧ ga ≠ gx ∧ ga ≠ gy ∧ ga ≠ gs ∧ ga ≠ gn ∧ gb ≠ gx ∧ gb ≠ gy ∧ gb ≠ gs ∧ gb ≠ gn) (hB : B ≤ gx ∧ B ≤ gy ∧ B ≤ gs ∧ B ≤ gn)
    (h1 : Fr B w (.slice A1 x.length c1) x) (h2 : Fr B w (.slice A2 y.length c2) y) (hm : subS x y = (m, e)) (hnn : nb = !na) (ho : okN x = true ∧ okN y = true) (r : Int) (hr : cmpS (val x) (val y) = r) (hr0 : ¬ r < 0) : Calls Try.prog 69 #[.pointer (some ⟨ga, 0, none⟩), .pointer (some ⟨gb, 0, none⟩), .pointer (some ⟨gx, 0, none⟩), .pointer (some ⟨gy, 0, none⟩), .pointer (some ⟨gs, 0, none⟩), .pointer (some ⟨gn, 0, none⟩)] w (fun e' w' => e' = .returned (.int .i64 e) ∧ Mv (fun k => k = gx ∨ (k = gy ∨ (k = gs ∨ (k = gn ∨ False)))) w w' ∧ ∃ A c, Vr w' gs #[.slice A m.length c] 25 ∧ Fr B w' (.slice A m.length c) m ∧ Vr w' gn #[.bool na] 4) := by
  have HM := Aside0.mk hm
  have HO := Aside0.mk ho
  have HO2 := Aside0.mk hr
  clear hm ho hr
  subst hnn
  have HE := Aside0.mk (((Env.nil B w).cons h2).cons h1)
  have HB := Aside0.mk (Below.refl w.heap.size w)
  have HA := Aside0.mk ha
  have HC := Aside0.mk hb
  have HX := Aside0.mk hx
  have HY := Aside0.mk hy
  have HS := Aside0.mk hs
  have HN := Aside0.mk hn
  (first | obtain ⟨hc_HA, hf_HA, hl_HA⟩ := Vr.q3 HA.out | (obtain ⟨hc_HA, hf_HA, hl_HA⟩ := Vr.p3 HA.out; (try simp at hc_HA)))
  (first | obtain ⟨hc_HC, hf_HC, hl_HC⟩ := Vr.q3 HC.out | (obtain ⟨hc_HC, hf_HC, hl_HC⟩ := Vr.p3 HC.out; (try simp at hc_HC)))
  (first | obtain ⟨hc_HX, hf_HX, hl_HX⟩ := Vr.q1 HX.out | (obtain ⟨hc_HX, hf_HX, hl_HX⟩ := Vr.p1 HX.out; (try simp at hc_HX)))
  (first | obtain ⟨hc_HY, hf_HY, hl_HY⟩ := Vr.q1 HY.out | (obtain ⟨hc_HY, hf_HY, hl_HY⟩ := Vr.p1 HY.out; (try simp at hc_HY)))
  (first | obtain ⟨hc_HS, hf_HS, hl_HS⟩ := Vr.q1 HS.out | (obtain ⟨hc_HS, hf_HS, hl_HS⟩ := Vr.p1 HS.out; (try simp at hc_HS)))
  (first | obtain ⟨hc_HN, hf_HN, hl_HN⟩ := Vr.q1 HN.out | (obtain ⟨hc_HN, hf_HN, hl_HN⟩ := Vr.p1 HN.out; (try simp at hc_HN)))
  clear ha hb hx hy hs hn h1 h2
  cases na
  all_goals
    go_enter Try.func69, Try.ntmps69
    go_wp2_with (first | (go_at_call 71; refine (sem_nat_Cmp (a := x) (b := y) ?_ ?_ HO.out.1 HO.out.2).mono ?_; exact Fr.sl (B := B) Xf; exact Fr.sl (B := B) Xf; rw [HO2.out]; rintro e w2 ⟨rfl, hd⟩; obtain ⟨m2, rfl⟩ := hd.out; clear hd) | (go_at_call 72; refine (sem_nat_Sub (a := x) (b := y) ?_ ?_).mono ?_; exact Fr.sl (B := B) Xf; exact Fr.sl (B := B) Xf; rw [HM.out]; rintro e w1 ⟨v0, rfl, hs, hb⟩; obtain ⟨A0, c0, rfl, hs1⟩ := (hs B).open; have n_ := Aside0.mk (Env.cons (Env.below Xe hb) (hs1)); have nb_ := Aside0.mk (below_step (w := w) Xb hb); have hz1 := hb.size; (try simp at hz1); clear HE HB; have HE := n_; have HB := nb_; clear n_ nb_; replace HA := Aside0.mk (Vr.below (g := ga) Z5 hb); replace HC := Aside0.mk (Vr.below (g := gb) Z5 hb); replace HX := Aside0.mk (Vr.below (g := gx) Z5 hb); replace HY := Aside0.mk (Vr.below (g := gy) Z5 hb); replace HS := Aside0.mk (Vr.below (g := gs) Z5 hb); replace HN := Aside0.mk (Vr.below (g := gn) Z5 hb); (try clear hc_HA hf_HA hl_HA); (try clear hc_HC hf_HC hl_HC); (try clear hc_HX hf_HX hl_HX); (try clear hc_HY hf_HY hl_HY); (try clear hc_HS hf_HS hl_HS); (try clear hc_HN hf_HN hl_HN); (first | obtain ⟨hc_HA, hf_HA, hl_HA⟩ := Vr.q3 HA.out | (obtain ⟨hc_HA, hf_HA, hl_HA⟩ := Vr.p3 HA.out; (try simp at hc_HA))); (first | obtain ⟨hc_HC, hf_HC, hl_HC⟩ := Vr.q3 HC.out | (obtain ⟨hc_HC, hf_HC, hl_HC⟩ := Vr.p3 HC.out; (try simp at hc_HC))); (first | obtain ⟨hc_HX, hf_HX, hl_HX⟩ := Vr.q1 HX.out | (obtain ⟨hc_HX, hf_HX, hl_HX⟩ := Vr.p1 HX.out; (try simp at hc_HX))); (first | obtain ⟨hc_HY, hf_HY, hl_HY⟩ := Vr.q1 HY.out | (obtain ⟨hc_HY, hf_HY, hl_HY⟩ := Vr.p1 HY.out; (try simp at hc_HY))); (first | obtain ⟨hc_HS, hf_HS, hl_HS⟩ := Vr.q1 HS.out | (obtain ⟨hc_HS, hf_HS, hl_HS⟩ := Vr.p1 HS.out; (try simp at hc_HS))); (first | obtain ⟨hc_HN, hf_HN, hl_HN⟩ := Vr.q1 HN.out | (obtain ⟨hc_HN, hf_HN, hl_HN⟩ := Vr.p1 HN.out; (try simp at hc_HN))); clear hb))
    go_ret
    exact ⟨rfl, Z19, A0, c0, Z3, Xf, Xv⟩
set_option maxHeartbeats 400000 in
theorem sem_Add1_c {w : World} {ga gb gx gy gs gn : Nat} {a1 a2 b1 b2 old : Value} {A1 A2 : Option Addr} {c1 c2 B : Nat} {x y m : List Int} {e : Int} (na nb : Bool)
    (ha : Vr w ga #[.bool na, a1, a2] 27) (hb : Vr w gb #[.bool nb, b1, b2] 27) (hx : Vr w gx #[.slice A1 x.length c1] 25) (hy : Vr w gy #[.slice A2 y.length c2] 25) (hs : Vr w gs #[old] 25) (hn : Vr w gn #[.bool na] 4)
    (hd : gs ≠ gx ∧ gs ≠ gy ∧ gs ≠ gn ∧ gx ≠ gy ∧ gx ≠ gn ∧ gy ≠ gn ∧ ga ≠ gx ∧ ga ≠ gy ∧ ga ≠ gs ∧ ga ≠ gn ∧ gb ≠ gx ∧ gb ≠ gy ∧ gb ≠ gs ∧ gb ≠ gn) (hB : B ≤ gx ∧ B ≤ gy ∧ B ≤ gs ∧ B ≤ gn)
    (h1 : Fr B w (.slice A1 x.length c1) x) (h2 : Fr B w (.slice A2 y.length c2) y) (hm : subS y x = (m, e)) (hnn : nb = !na) (ho : okN x = true ∧ okN y = true) (r : Int) (hr : cmpS (val x) (val y) = r) (hr0 : r < 0) : Calls Try.prog 69 #[.pointer (some ⟨ga, 0, none⟩), .pointer (some ⟨gb, 0, none⟩), .pointer (some ⟨gx, 0, none⟩), .pointer (some ⟨gy, 0, none⟩), .pointer (some ⟨gs, 0, none⟩), .pointer (some ⟨gn, 0, none⟩)] w (fun e' w' => e' = .returned (.int .i64 e) ∧ Mv (fun k => k = gx ∨ (k = gy ∨ (k = gs ∨ (k = gn ∨ False)))) w w' ∧ ∃ A c, Vr w' gs #[.slice A m.length c] 25 ∧ Fr B w' (.slice A m.length c) m ∧ Vr w' gn #[.bool nb] 4) := by
  have HM := Aside0.mk hm
  have HO := Aside0.mk ho
  have HO2 := Aside0.mk hr
  clear hm ho hr
  subst hnn
  have HE := Aside0.mk (((Env.nil B w).cons h2).cons h1)
  have HB := Aside0.mk (Below.refl w.heap.size w)
  have HA := Aside0.mk ha
  have HC := Aside0.mk hb
  have HX := Aside0.mk hx
  have HY := Aside0.mk hy
  have HS := Aside0.mk hs
  have HN := Aside0.mk hn
  (first | obtain ⟨hc_HA, hf_HA, hl_HA⟩ := Vr.q3 HA.out | (obtain ⟨hc_HA, hf_HA, hl_HA⟩ := Vr.p3 HA.out; (try simp at hc_HA)))
  (first | obtain ⟨hc_HC, hf_HC, hl_HC⟩ := Vr.q3 HC.out | (obtain ⟨hc_HC, hf_HC, hl_HC⟩ := Vr.p3 HC.out; (try simp at hc_HC)))
  (first | obtain ⟨hc_HX, hf_HX, hl_HX⟩ := Vr.q1 HX.out | (obtain ⟨hc_HX, hf_HX, hl_HX⟩ := Vr.p1 HX.out; (try simp at hc_HX)))
  (first | obtain ⟨hc_HY, hf_HY, hl_HY⟩ := Vr.q1 HY.out | (obtain ⟨hc_HY, hf_HY, hl_HY⟩ := Vr.p1 HY.out; (try simp at hc_HY)))
  (first | obtain ⟨hc_HS, hf_HS, hl_HS⟩ := Vr.q1 HS.out | (obtain ⟨hc_HS, hf_HS, hl_HS⟩ := Vr.p1 HS.out; (try simp at hc_HS)))
  (first | obtain ⟨hc_HN, hf_HN, hl_HN⟩ := Vr.q1 HN.out | (obtain ⟨hc_HN, hf_HN, hl_HN⟩ := Vr.p1 HN.out; (try simp at hc_HN)))
  clear ha hb hx hy hs hn h1 h2
  cases na
  all_goals
    go_enter Try.func69, Try.ntmps69
    go_wp2_with (first | (go_at_call 71; refine (sem_nat_Cmp (a := x) (b := y) ?_ ?_ HO.out.1 HO.out.2).mono ?_; exact Fr.sl (B := B) Xf; exact Fr.sl (B := B) Xf; rw [HO2.out]; rintro e w2 ⟨rfl, hd⟩; obtain ⟨m2, rfl⟩ := hd.out; clear hd))
    go_region
    all_goals
      go_wp2_with (first | (go_at_call 72; refine (sem_nat_Sub (a := y) (b := x) ?_ ?_).mono ?_; exact Fr.sl (B := B) Xf; exact Fr.sl (B := B) Xf; rw [HM.out]; rintro e w1 ⟨v0, rfl, hs, hb⟩; obtain ⟨A0, c0, rfl, hs1⟩ := (hs B).open; have hv_ := Aside0.mk (Mv.step (G := fun k => k = gx ∨ (k = gy ∨ (k = gs ∨ (k = gn ∨ False)))) (w := w) (by repeat (first | with_reducible exact Mv.of_below HB.out | (with_reducible apply Mv.set; rotate_left; simp) | with_reducible apply Mv.drewN | with_reducible apply Mv.drew)) hb); have n_ := Aside0.mk (Env.cons (Env.below Xe hb) (hs1)); have hz1 := hb.size; (try simp at hz1); clear HE; have HE := n_; clear n_; replace HA := Aside0.mk (Vr.below (g := ga) Z5 hb); replace HC := Aside0.mk (Vr.below (g := gb) Z5 hb); replace HX := Aside0.mk (Vr.below (g := gx) Z5 hb); replace HY := Aside0.mk (Vr.below (g := gy) Z5 hb); replace HS := Aside0.mk (Vr.below (g := gs) Z5 hb); replace HN := Aside0.mk (Vr.below (g := gn) Z5 hb); (try clear hc_HA hf_HA hl_HA); (try clear hc_HC hf_HC hl_HC); (try clear hc_HX hf_HX hl_HX); (try clear hc_HY hf_HY hl_HY); (try clear hc_HS hf_HS hl_HS); (try clear hc_HN hf_HN hl_HN); (first | obtain ⟨hc_HA, hf_HA, hl_HA⟩ := Vr.q3 HA.out | (obtain ⟨hc_HA, hf_HA, hl_HA⟩ := Vr.p3 HA.out; (try simp at hc_HA))); (first | obtain ⟨hc_HC, hf_HC, hl_HC⟩ := Vr.q3 HC.out | (obtain ⟨hc_HC, hf_HC, hl_HC⟩ := Vr.p3 HC.out; (try simp at hc_HC))); (first | obtain ⟨hc_HX, hf_HX, hl_HX⟩ := Vr.q1 HX.out | (obtain ⟨hc_HX, hf_HX, hl_HX⟩ := Vr.p1 HX.out; (try simp at hc_HX))); (first | obtain ⟨hc_HY, hf_HY, hl_HY⟩ := Vr.q1 HY.out | (obtain ⟨hc_HY, hf_HY, hl_HY⟩ := Vr.p1 HY.out; (try simp at hc_HY))); (first | obtain ⟨hc_HS, hf_HS, hl_HS⟩ := Vr.q1 HS.out | (obtain ⟨hc_HS, hf_HS, hl_HS⟩ := Vr.p1 HS.out; (try simp at hc_HS))); (first | obtain ⟨hc_HN, hf_HN, hl_HN⟩ := Vr.q1 HN.out | (obtain ⟨hc_HN, hf_HN, hl_HN⟩ := Vr.p1 HN.out; (try simp at hc_HN))); clear hb; have HV := hv_))
      go_ret
      exact ⟨rfl, Z19, A0, c0, Z3, Xf, Z3⟩
def plusS (na : Bool) (x : List Int) (nb : Bool) (y : List Int) : Bool × List Int × Int := if na = nb then (na, addS x y) else if cmpS (val x) (val y) < 0 then (nb, subS y x) else (na, subS x y)
theorem sem_Add1 {w : World} {ga gb gx gy gs gn : Nat} {a1 a2 b1 b2 old : Value} {A1 A2 : Option Addr} {c1 c2 B : Nat} {x y m : List Int} {e : Int} (na nb : Bool)
    (ha : Vr w ga #[.bool na, a1, a2] 27) (hb : Vr w gb #[.bool nb, b1, b2] 27) (hx : Vr w gx #[.slice A1 x.length c1] 25) (hy : Vr w gy #[.slice A2 y.length c2] 25) (hs : Vr w gs #[old] 25) (hn : Vr w gn #[.bool na] 4)
    (hd : gs ≠ gx ∧ gs ≠ gy ∧ gs ≠ gn ∧ gx ≠ gy ∧ gx ≠ gn ∧ gy ≠ gn ∧ ga ≠ gx ∧ ga ≠ gy ∧ ga ≠ gs ∧ ga ≠ gn ∧ gb ≠ gx ∧ gb ≠ gy ∧ gb ≠ gs ∧ gb ≠ gn) (hB : B ≤ gx ∧ B ≤ gy ∧ B ≤ gs ∧ B ≤ gn)
    (h1 : Fr B w (.slice A1 x.length c1) x) (h2 : Fr B w (.slice A2 y.length c2) y) (n' : Bool) (ho : okN x = true ∧ okN y = true) (hp : plusS na x nb y = (n', m, e)) : Calls Try.prog 69 #[.pointer (some ⟨ga, 0, none⟩), .pointer (some ⟨gb, 0, none⟩), .pointer (some ⟨gx, 0, none⟩), .pointer (some ⟨gy, 0, none⟩), .pointer (some ⟨gs, 0, none⟩), .pointer (some ⟨gn, 0, none⟩)] w (fun e' w' => e' = .returned (.int .i64 e) ∧ Mv (fun k => k = gx ∨ (k = gy ∨ (k = gs ∨ (k = gn ∨ False)))) w w' ∧ ∃ A c, Vr w' gs #[.slice A m.length c] 25 ∧ Fr B w' (.slice A m.length c) m ∧ Vr w' gn #[.bool n'] 4) := by
  unfold plusS at hp
  split at hp
  · rename_i hnn
    injection hp with h1' h2'
    subst h1'
    exact sem_Add1_a na nb ha hb hx hy hs hn hd hB h1 h2 h2' hnn
  · rename_i hnn
    have hnn' : nb = !na := by cases na <;> cases nb <;> simp at hnn ⊢
    split at hp
    · rename_i hc
      injection hp with h1' h2'
      subst h1'
      exact sem_Add1_c na nb ha hb hx hy hs hn hd hB h1 h2 h2' hnn' ho _ rfl hc
    · rename_i hc
      injection hp with h1' h2'
      subst h1'
      exact sem_Add1_b na nb ha hb hx hy hs hn hd hB h1 h2 h2' hnn' ho _ rfl hc
theorem Mv.trans' {G1 G2 G : Nat → Prop} {a b c : World} (h : Mv G1 a b) (h' : Mv G2 b c) (k1 : ∀ k, G1 k → G k) (k2 : ∀ k, G2 k → G k) : Mv G a c :=
  ⟨h'.os.trans h.os, h'.tape.trans h.tape, h'.output.trans h.output, Nat.le_trans h.size h'.size, fun k hk hn => (h'.block k (Nat.lt_of_lt_of_le hk h.size) (fun h => hn (k2 k h))).trans (h.block k hk (fun h => hn (k1 k h)))⟩
theorem Mv.refl {G : Nat → Prop} {a : World} : Mv G a a := ⟨rfl, rfl, rfl, Nat.le_refl _, fun _ _ _ => rfl⟩
theorem sem_product1' {w : World} {ga gb gp gP : Nat} {old : Value} {A1 A2 : Option Addr} {c1 c2 B tp : Nat} {a b m : List Int} {e : Int} (hm : mulS a b = (m, e)) (ha : Vr w ga #[.slice A1 a.length c1] 25) (hb : Vr w gb #[.slice A2 b.length c2] 25) (hp : Vr w gp #[.pointer (some ⟨gP, 0, none⟩)] tp) (hP : Vr w gP #[old] 25)
    (h1 : Fr B w (.slice A1 a.length c1) a) (h2 : Fr B w (.slice A2 b.length c2) b) (hB : B ≤ gP) :
    Calls Try.prog 78 #[.pointer (some ⟨ga, 0, none⟩), .pointer (some ⟨gb, 0, none⟩), .pointer (some ⟨gp, 0, none⟩)] w fun e' w' => e' = .returned (.int .i64 e) ∧ Mv (fun k => k = gP ∨ False) w w' ∧ ∃ A c, Vr w' gP #[.slice A m.length c] 25 ∧ Fr B w' (.slice A m.length c) m := by
  refine (sem_product1 ha hb hp hP h1 h2).mono ?_
  rw [hm]
  rintro e' w' ⟨A, c, w1, he, rfl, hf, hb'⟩
  have P1 := hP.below hb'
  exact ⟨he, Mv.set (Mv.of_below hb') (.inl rfl), A, c, (P1.set 0 _).eq rfl, hf.setV P1 (by decide) hB⟩
theorem Mv.weak {G G' : Nat → Prop} {a b : World} (h : Mv G a b) (k : ∀ j, G j → G' j) : Mv G' a b := ⟨h.os, h.tape, h.output, h.size, fun j hj hn => h.block j hj (fun h => hn (k j h))⟩
def Pc (B g : Nat) (m : List Int) (w : World) : Prop := ∃ A k, Vr w g #[.slice A m.length k] 25 ∧ Fr B w (.slice A m.length k) m
theorem Pc.mv {B g : Nat} {m : List Int} {G : Nat → Prop} {w w' : World} (h : Pc B g m w) (hm : Mv G w w') (hn : ¬ G g) (ho : Ours G B w) : Pc B g m w' := by
  obtain ⟨A, k, h1, h2⟩ := h
  exact ⟨A, k, h1.mv hm hn, h2.mv hm ho⟩
theorem step_prod {G : Nat → Prop} {W w : World} {ga gb gp gP : Nat} {old : Value} {A1 A2 : Option Addr} {c1 c2 B tp : Nat} {a b m : List Int} {e : Int} (hm : mulS a b = (m, e)) (hv : Mv G W w) (hG : ∀ k, G k → k ≠ ga ∧ k ≠ gb ∧ k ≠ gp ∧ k ≠ gP) (ho : Ours G B W)
    (ha : Vr W ga #[.slice A1 a.length c1] 25) (hb : Vr W gb #[.slice A2 b.length c2] 25) (hp : Vr W gp #[.pointer (some ⟨gP, 0, none⟩)] tp) (hP : Vr W gP #[old] 25)
    (h1 : Fr B W (.slice A1 a.length c1) a) (h2 : Fr B W (.slice A2 b.length c2) b) (hB : B ≤ gP) :
    Calls Try.prog 78 #[.pointer (some ⟨ga, 0, none⟩), .pointer (some ⟨gb, 0, none⟩), .pointer (some ⟨gp, 0, none⟩)] w fun e' w' => e' = .returned (.int .i64 e) ∧ Mv (fun k => k = gP ∨ G k) W w' ∧ Mv (fun k => k = gP ∨ False) w w' ∧ Ours (fun k => k = gP ∨ False) B w ∧ Pc B gP m w' := by
  have k1 : ¬ G ga := fun h => (hG _ h).1 rfl
  have k2 : ¬ G gb := fun h => (hG _ h).2.1 rfl
  have k3 : ¬ G gp := fun h => (hG _ h).2.2.1 rfl
  have k4 : ¬ G gP := fun h => (hG _ h).2.2.2 rfl
  have HP := hP.mv hv k4
  refine (sem_product1' hm (ha.mv hv k1) (hb.mv hv k2) (hp.mv hv k3) HP (h1.mv hv ho) (h2.mv hv ho) hB).mono ?_
  rintro e' w' ⟨he, hm', hx⟩
  exact ⟨he, hv.trans' hm' (fun k h => .inr h) (fun k h => h.elim .inl False.elim), hm', Ours.one HP (by decide) hB Ours.none, hx⟩
theorem sem_four {W : World} {gS tS B ga gb gX gY gQ gs gn : Nat} {ga1 gb1 gp1 ga2 gb2 gp2 ga3 gb3 gp3 t1 t2 t3 : Nat} {p q p' q' : List Int} {ng ng' n' : Bool} {A1 A2 A3 A4 : Option Addr} {c1 c2 c3 c4 : Nat} {o1 o2 o3 o4 : Value} {m1 m2 m3 m4 : List Int} {e1 e2 e3 e4 : Int}
    (hm1 : mulS p q' = (m1, e1)) (hm2 : mulS p' q = (m2, e2)) (hm3 : mulS q q' = (m3, e3)) (hm4 : plusS ng m1 ng' m2 = (n', m4, e4)) (ho : okN m1 = true ∧ okN m2 = true)
    (hS : Vr W gS #[prodF gp1 ga1 gb1, prodF gp2 ga2 gb2, prodF gp3 ga3 gb3, .func (.func 69) #[] #[.pointer (some ⟨ga, 0, none⟩), .pointer (some ⟨gb, 0, none⟩), .pointer (some ⟨gX, 0, none⟩), .pointer (some ⟨gY, 0, none⟩), .pointer (some ⟨gs, 0, none⟩), .pointer (some ⟨gn, 0, none⟩)]] tS)
    (ha1 : Vr W ga1 #[.slice A1 p.length c1] 25) (hb1 : Vr W gb1 #[.slice A4 q'.length c4] 25) (hp1 : Vr W gp1 #[.pointer (some ⟨gX, 0, none⟩)] t1) (hX : Vr W gX #[o1] 25)
    (ha2 : Vr W ga2 #[.slice A3 p'.length c3] 25) (hb2 : Vr W gb2 #[.slice A2 q.length c2] 25) (hp2 : Vr W gp2 #[.pointer (some ⟨gY, 0, none⟩)] t2) (hY : Vr W gY #[o2] 25)
    (ha3 : Vr W ga3 #[.slice A2 q.length c2] 25) (hb3 : Vr W gb3 #[.slice A4 q'.length c4] 25) (hp3 : Vr W gp3 #[.pointer (some ⟨gQ, 0, none⟩)] t3) (hQ : Vr W gQ #[o3] 25)
    (ha : Vr W ga #[.bool ng, .slice A1 p.length c1, .slice A2 q.length c2] 27) (hb : Vr W gb #[.bool ng', .slice A3 p'.length c3, .slice A4 q'.length c4] 27) (hs : Vr W gs #[o4] 25) (hn : Vr W gn #[.bool ng] 4)
    (hd : ∀ k, (k = gX ∨ k = gY ∨ k = gQ ∨ k = gs ∨ k = gn) → (k ≠ ga ∧ k ≠ gb ∧ k ≠ gS) ∧ (k ≠ ga1 ∧ k ≠ gb1 ∧ k ≠ gp1) ∧ (k ≠ ga2 ∧ k ≠ gb2 ∧ k ≠ gp2) ∧ (k ≠ ga3 ∧ k ≠ gb3 ∧ k ≠ gp3) ∧ B ≤ k)
    (hd2 : gX ≠ gY ∧ gX ≠ gQ ∧ gX ≠ gs ∧ gX ≠ gn ∧ gY ≠ gQ ∧ gY ≠ gs ∧ gY ≠ gn ∧ gQ ≠ gs ∧ gQ ≠ gn ∧ gs ≠ gn)
    (h1 : Fr B W (.slice A1 p.length c1) p) (h2 : Fr B W (.slice A2 q.length c2) q) (h3 : Fr B W (.slice A3 p'.length c3) p') (h4 : Fr B W (.slice A4 q'.length c4) q') :
    Calls Try.prog 62 #[.slice (some ⟨gS, 0, none⟩) 4 4] W fun e w' => e = .returned (.int .i64 (if e1 = 0 then (if e2 = 0 then (if e3 = 0 then e4 else e3) else e2) else e1)) ∧ Mv (fun k => k = gX ∨ (k = gY ∨ (k = gQ ∨ (k = gs ∨ (k = gn ∨ False))))) W w' ∧
      (e1 = 0 → e2 = 0 → e3 = 0 → Pc B gQ m3 w' ∧ Pc B gs m4 w' ∧ Vr w' gn #[.bool n'] 4) := by
  obtain ⟨⟨xa, xb, xS⟩, ⟨xa1, xb1, xp1⟩, ⟨xa2, xb2, xp2⟩, ⟨xa3, xb3, xp3⟩, xB⟩ := hd gX (by simp)
  obtain ⟨⟨ya, yb, yS⟩, ⟨ya1, yb1, yp1⟩, ⟨ya2, yb2, yp2⟩, ⟨ya3, yb3, yp3⟩, yB⟩ := hd gY (by simp)
  obtain ⟨⟨qa, qb, qS⟩, ⟨qa1, qb1, qp1⟩, ⟨qa2, qb2, qp2⟩, ⟨qa3, qb3, qp3⟩, qB⟩ := hd gQ (by simp)
  obtain ⟨⟨sa, sb, sS⟩, ⟨sa1, sb1, sp1⟩, ⟨sa2, sb2, sp2⟩, ⟨sa3, sb3, sp3⟩, sB⟩ := hd gs (by simp)
  obtain ⟨⟨na, nb, nS⟩, ⟨na1, nb1, np1⟩, ⟨na2, nb2, np2⟩, ⟨na3, nb3, np3⟩, nB⟩ := hd gn (by simp)
  obtain ⟨dXY, dXQ, dXs, dXn, dYQ, dYs, dYn, dQs, dQn, dsn⟩ := hd2
  clear hd
  have OX : Ours (fun k => k = gX ∨ False) B W := Ours.one hX (by decide) xB Ours.none
  have OY : Ours (fun k => k = gY ∨ (k = gX ∨ False)) B W := Ours.one hY (by decide) yB OX
  have OQ : Ours (fun k => k = gQ ∨ (k = gY ∨ (k = gX ∨ False))) B W := Ours.one hQ (by decide) qB OY
  refine (sem_products4 (e0 := e1) (e1 := e2) (e2 := e3) (e3 := e4) (gS := gS) (t := tS) (w := W) (x0_0 := .pointer (some ⟨ga1, 0, none⟩)) (x0_1 := .pointer (some ⟨gb1, 0, none⟩)) (x0_2 := .pointer (some ⟨gp1, 0, none⟩)) (x1_0 := .pointer (some ⟨ga2, 0, none⟩)) (x1_1 := .pointer (some ⟨gb2, 0, none⟩)) (x1_2 := .pointer (some ⟨gp2, 0, none⟩)) (x2_0 := .pointer (some ⟨ga3, 0, none⟩)) (x2_1 := .pointer (some ⟨gb3, 0, none⟩)) (x2_2 := .pointer (some ⟨gp3, 0, none⟩))
    (x3_0 := .pointer (some ⟨ga, 0, none⟩)) (x3_1 := .pointer (some ⟨gb, 0, none⟩)) (x3_2 := .pointer (some ⟨gX, 0, none⟩)) (x3_3 := .pointer (some ⟨gY, 0, none⟩)) (x3_4 := .pointer (some ⟨gs, 0, none⟩)) (x3_5 := .pointer (some ⟨gn, 0, none⟩))
    (R0 := fun w => w = W) (R1 := (fun w => Mv (fun k => k = gX ∨ False) W w ∧ Pc B gX m1 w)) (R2 := (fun w => Mv (fun k => k = gY ∨ (k = gX ∨ False)) W w ∧ Pc B gX m1 w ∧ Pc B gY m2 w)) (R3 := (fun w => Mv (fun k => k = gQ ∨ (k = gY ∨ (k = gX ∨ False))) W w ∧ Pc B gX m1 w ∧ Pc B gY m2 w ∧ Pc B gQ m3 w)) (R4 := (fun w => Mv (fun k => k = gX ∨ (k = gY ∨ (k = gQ ∨ (k = gs ∨ (k = gn ∨ False))))) W w ∧ Pc B gQ m3 w ∧ Pc B gs m4 w ∧ Vr w gn #[.bool n'] 4)) ?_ ?_ ?_ ?_ ?_ ?_ ?_ ?_ rfl).mono ?_
  · rintro w rfl
    exact (sem_product1' hm1 ha1 hb1 hp1 hX h1 h4 xB).mono fun e w' ⟨he, hm, hx⟩ => ⟨he, hm, hx⟩
  · rintro w ⟨hv, hx⟩
    refine (step_prod (ga := ga2) (gb := gb2) (gp := gp2) (gP := gY) hm2 hv (by rintro k (rfl | h); exact ⟨xa2, xb2, xp2, dXY⟩; exact h.elim) OX ha2 hb2 hp2 hY h3 h2 yB).mono ?_
    rintro e w' ⟨he, hv', hm', ho', hy⟩
    exact ⟨he, hv', hx.mv hm' (by rintro (h | h); exact dXY h; exact h) ho', hy⟩
  · rintro w ⟨hv, hx, hy⟩
    refine (step_prod (ga := ga3) (gb := gb3) (gp := gp3) (gP := gQ) hm3 hv (by rintro k (rfl | rfl | h); exact ⟨ya3, yb3, yp3, dYQ⟩; exact ⟨xa3, xb3, xp3, dXQ⟩; exact h.elim) OY ha3 hb3 hp3 hQ h2 h4 qB).mono ?_
    rintro e w' ⟨he, hv', hm', ho', hq⟩
    exact ⟨he, hv', hx.mv hm' (by rintro (h | h); exact dXQ h; exact h) ho', hy.mv hm' (by rintro (h | h); exact dYQ h; exact h) ho', hq⟩
  · rintro w ⟨hv, hx, hy, hq⟩
    obtain ⟨A5, k5, vx, fx⟩ := hx
    obtain ⟨A6, k6, vy, fy⟩ := hy
    have hs' := hs.mv hv (by rintro (h | h | h | h); exact dQs h.symm; exact dYs h.symm; exact dXs h.symm; exact h)
    have hn' := hn.mv hv (by rintro (h | h | h | h); exact dQn h.symm; exact dYn h.symm; exact dXn h.symm; exact h)
    refine (sem_Add1 (B := B) ng ng' (ha.mv hv (by rintro (h | h | h | h); exact qa h.symm; exact ya h.symm; exact xa h.symm; exact h)) (hb.mv hv (by rintro (h | h | h | h); exact qb h.symm; exact yb h.symm; exact xb h.symm; exact h)) vx vy hs' hn'
      ⟨dXs.symm, dYs.symm, dsn, dXY, dXn, dYn, xa.symm, ya.symm, sa.symm, na.symm, xb.symm, yb.symm, sb.symm, nb.symm⟩ ⟨xB, yB, sB, nB⟩ fx fy n' ho hm4).mono ?_
    rintro e w' ⟨he, hm', A, c, vs, fs, vn⟩
    refine ⟨he, hv.trans' hm' ?_ ?_, hq.mv hm' ?_ ?_, ⟨A, c, vs, fs⟩, vn⟩
    · rintro k (h | h | h | h)
      exact .inr (.inr (.inl h)); exact .inr (.inl h); exact .inl h; exact h.elim
    · rintro k (h | h | h | h | h)
      exact .inl h; exact .inr (.inl h); exact .inr (.inr (.inr (.inl h))); exact .inr (.inr (.inr (.inr (.inl h)))); exact h.elim
    · rintro (h | h | h | h | h)
      exact dXQ h.symm; exact dYQ h.symm; exact dQs h; exact dQn h; exact h
    · exact Ours.one vx (by decide) xB (Ours.one vy (by decide) yB (Ours.one hs' (by decide) sB (Ours.one hn' (by decide) nB Ours.none)))
  · rintro w rfl
    exact hS
  · rintro w ⟨hv, _⟩
    exact hS.mv hv (by rintro (h | h); exact xS h.symm; exact h)
  · rintro w ⟨hv, _⟩
    exact hS.mv hv (by rintro (h | h | h); exact yS h.symm; exact xS h.symm; exact h)
  · rintro w ⟨hv, _⟩
    exact hS.mv hv (by rintro (h | h | h | h); exact qS h.symm; exact yS h.symm; exact xS h.symm; exact h)
  · rintro e w' (⟨z1, he, hv, _⟩ | ⟨z1, z2, he, hv, _⟩ | ⟨z1, z2, z3, he, hv, _⟩ | ⟨z1, z2, z3, he, hv, hr⟩)
    · exact ⟨by rw [he, if_neg z1], hv.weak (by rintro k (h | h); exact .inl h; exact h.elim), fun h => absurd h z1⟩
    · exact ⟨by rw [he, if_pos z1, if_neg z2], hv.weak (by rintro k (h | h | h); exact .inr (.inl h); exact .inl h; exact h.elim), fun _ h => absurd h z2⟩
    · exact ⟨by rw [he, if_pos z1, if_pos z2, if_neg z3], hv.weak (by rintro k (h | h | h | h); exact .inr (.inr (.inl h)); exact .inr (.inl h); exact .inl h; exact h.elim), fun _ _ h => absurd h z3⟩
    · exact ⟨by rw [he, if_pos z1, if_pos z2, if_pos z3], hv, fun _ _ _ => hr⟩
end Go.Proofs.Ytbjamhkhocjdkaa.Px
