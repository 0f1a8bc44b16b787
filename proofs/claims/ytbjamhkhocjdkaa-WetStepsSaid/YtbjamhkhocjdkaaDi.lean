/- One step on the way to the rows: contracts of the program's functions, each for every argument that its statement names. -/
import Derived.Test.YtbjamhkhocjdkaaDh
import Derived.Outline
import Derived.LoopN
import Derived.Deep.RegionHeld3
namespace Go.Proofs.Ytbjamhkhocjdkaa.Px
open Go.RowKit Go.Proofs.YtbjamhkhocjdkaaW.PrintWords Go.Proofs.YtbjamhkhocjdkaaW.PrintLast Go.Proofs.YtbjamhkhocjdkaaW.PrintMore Go.Proofs.Ytbjamhkhocjdkaa.Mat
set_option linter.unusedVariables false
set_option linter.unusedSimpArgs false
def prodF (p a b : Nat) : Value := .func (.func 78) #[] #[.pointer (some ⟨a, 0, none⟩), .pointer (some ⟨b, 0, none⟩), .pointer (some ⟨p, 0, none⟩)]
def prodW (w : World) (p : Addr) (va vb : Value) : World := ((w.alloc (.cells #[.pointer (some p)] 78)).alloc (.cells #[va] 25)).alloc (.cells #[vb] 25)
theorem sem_product (P : Addr) {w : World} (va vb : Value) (A1 A2 : Option Addr) (n1 n2 c1 c2 : Nat) : Calls Try.prog 63 #[.pointer (some P), .slice A1 n1 c1, .slice A2 n2 c2] w fun e w' =>
    e = .returned (prodF w.heap.size (w.heap.size + 1) (w.heap.size + 1 + 1)) ∧ w' = prodW w P (.slice A1 n1 c1) (.slice A2 n2 c2) := by
  go_enter Try.func63, Try.ntmps63
  go_wp2_with (fail)
  go_ret
  exact ⟨by simp [prodF], rfl⟩
set_option maxHeartbeats 400000 in
theorem sem_product1 {w : World} {ga gb gp gP : Nat} {old : Value} {A1 A2 : Option Addr} {c1 c2 B tp : Nat} {a b : List Int} (ha : Vr w ga #[.slice A1 a.length c1] 25) (hb : Vr w gb #[.slice A2 b.length c2] 25) (hp : Vr w gp #[.pointer (some ⟨gP, 0, none⟩)] tp) (hP : Vr w gP #[old] 25)
    (h1 : Fr B w (.slice A1 a.length c1) a) (h2 : Fr B w (.slice A2 b.length c2) b) :
    Calls Try.prog 78 #[.pointer (some ⟨ga, 0, none⟩), .pointer (some ⟨gb, 0, none⟩), .pointer (some ⟨gp, 0, none⟩)] w fun e w' => ∃ A c w1, e = .returned (.int .i64 (mulS a b).2) ∧ w' = w1.setCell ⟨gP, 0, none⟩ (.slice A (mulS a b).1.length c) ∧ Fr B w1 (.slice A (mulS a b).1.length c) (mulS a b).1 ∧ Below w.heap.size w w1 := by
  have HE := Aside0.mk (((Env.nil B w).cons h2).cons h1)
  have HB := Aside0.mk (Below.refl w.heap.size w)
  have HX := Aside0.mk ha
  have HY := Aside0.mk hb
  have HZ := Aside0.mk hp
  have HP := Aside0.mk hP
  have hca := ha.cell 0
  have hcb := hb.cell 0
  simp at hca hcb
  obtain ⟨m, e, hm⟩ : ∃ m e, mulS a b = (m, e) := ⟨_, _, rfl⟩
  rw [hm]
  have HM := Aside0.mk hm
  clear ha hb hp hP h1 h2 hm
  go_enter Try.func78, Try.ntmps78
  go_wp2_with (first | (go_at_call 79; refine (sem_nat_Mul (a := a) (b := b) ?_ ?_).mono ?_; exact Fr.sl (B := B) Xf; exact Fr.sl (B := B) Xf; rw [HM.out]; rintro e w1 ⟨v0, rfl, hs, hb⟩; obtain ⟨A0, c0, rfl, hs1⟩ := (hs B).open; have n_ := Aside0.mk (Env.cons (Env.below Xe hb) (hs1)); have nb_ := Aside0.mk (below_step (w := w) Xb hb); have hz1 := hb.size; (try simp at hz1); clear HE HB; have HE := n_; have HB := nb_; clear n_ nb_; replace HX := Aside0.mk (Vr.below (g := ga) Z5 hb); replace HY := Aside0.mk (Vr.below (g := gb) Z5 hb); replace HZ := Aside0.mk (Vr.below (g := gp) Z5 hb); replace HP := Aside0.mk (Vr.below (g := gP) Z5 hb); (try clear hc_HX hf_HX hl_HX); (try clear hc_HY hf_HY hl_HY); (try clear hc_HZ hf_HZ hl_HZ); (try clear hc_HP hf_HP hl_HP); (first | obtain ⟨hc_HX, hf_HX, hl_HX⟩ := Vr.q1 HX.out | (obtain ⟨hc_HX, hf_HX, hl_HX⟩ := Vr.p1 HX.out; (try simp at hc_HX))); (first | obtain ⟨hc_HY, hf_HY, hl_HY⟩ := Vr.q1 HY.out | (obtain ⟨hc_HY, hf_HY, hl_HY⟩ := Vr.p1 HY.out; (try simp at hc_HY))); (first | obtain ⟨hc_HZ, hf_HZ, hl_HZ⟩ := Vr.q1 HZ.out | (obtain ⟨hc_HZ, hf_HZ, hl_HZ⟩ := Vr.p1 HZ.out; (try simp at hc_HZ))); (first | obtain ⟨hc_HP, hf_HP, hl_HP⟩ := Vr.q1 HP.out | (obtain ⟨hc_HP, hf_HP, hl_HP⟩ := Vr.p1 HP.out; (try simp at hc_HP))); clear hb))
  go_ret
  exact ⟨_, _, _, rfl, rfl, Xf, HB.out⟩
set_option maxHeartbeats 1000000 in
theorem sem_products2 {R0 R1 R2 : World → Prop} {x0_0 x0_1 x0_2 x1_0 x1_1 x1_2 : Value} {e0 e1 : Int} {gS t : Nat} {w : World}
    (h0 : ∀ w, R0 w → Calls Try.prog 78 #[x0_0, x0_1, x0_2] w fun e w' => e = .returned (.int .i64 e0) ∧ R1 w')
    (h1 : ∀ w, R1 w → Calls Try.prog 78 #[x1_0, x1_1, x1_2] w fun e w' => e = .returned (.int .i64 e1) ∧ R2 w')
    (k0 : ∀ w, R0 w → Vr w gS #[(.func (.func 78) #[] #[x0_0, x0_1, x0_2]), (.func (.func 78) #[] #[x1_0, x1_1, x1_2])] t)
    (k1 : ∀ w, R1 w → Vr w gS #[(.func (.func 78) #[] #[x0_0, x0_1, x0_2]), (.func (.func 78) #[] #[x1_0, x1_1, x1_2])] t)
    (h : R0 w) : Calls Try.prog 62 #[.slice (some ⟨gS, 0, none⟩) 2 2] w fun e w' => (e0 ≠ 0 ∧ e = .returned (.int .i64 e0) ∧ R1 w') ∨ (e0 = 0 ∧ e = .returned (.int .i64 e1) ∧ R2 w') := by
  have hc := (k0 w h).cell 0
  simp at hc
  have H0 := Aside0.mk h0
  have K0 := Aside0.mk k0
  have H1 := Aside0.mk h1
  have K1 := Aside0.mk k1
  have H := Aside0.mk h
  clear h0 k0 h1 k1 h
  by_cases z0 : e0 = 0
  rotate_left
  · go_enter Try.func62, Try.ntmps62
    go_wp2_with (fail)
    refine wp_loop_rounds 3 ?_
    rw [rounds_succ]
    go_wp2_with (first | (go_at_call 78; refine (H0.out _ H.out).mono ?_; rintro e w1 ⟨rfl, h⟩; clear H hc; have H := Aside0.mk h; have hc := (K1.out _ h).cell 1; simp at hc; clear h))
    all_goals
      go_ret
      have h := H.out
      exact Or.inl ⟨(by first | exact z0 | simpa using z0), (by first | rfl | simp), h⟩
  subst z0
  by_cases z1 : e1 = 0
  rotate_left
  · go_enter Try.func62, Try.ntmps62
    go_wp2_with (fail)
    refine wp_loop_rounds 3 ?_
    rw [rounds_succ]
    go_wp2_with (first | (go_at_call 78; refine (H0.out _ H.out).mono ?_; rintro e w1 ⟨rfl, h⟩; clear H hc; have H := Aside0.mk h; have hc := (K1.out _ h).cell 1; simp at hc; clear h))
    rw [rounds_succ]
    go_wp2_with (first | (go_at_call 78; refine (H1.out _ H.out).mono ?_; rintro e w2 ⟨rfl, h⟩; clear H hc; have H := Aside0.mk h; have hc : True := trivial; clear h))
    all_goals
      go_ret
      have h := H.out
      exact Or.inr (⟨Z27, (by first | rfl | simp), h⟩)
  subst z1
  go_enter Try.func62, Try.ntmps62
  go_wp2_with (fail)
  refine wp_loop_rounds 3 ?_
  rw [rounds_succ]
  go_wp2_with (first | (go_at_call 78; refine (H0.out _ H.out).mono ?_; rintro e w1 ⟨rfl, h⟩; clear H hc; have H := Aside0.mk h; have hc := (K1.out _ h).cell 1; simp at hc; clear h))
  rw [rounds_succ]
  go_wp2_with (first | (go_at_call 78; refine (H1.out _ H.out).mono ?_; rintro e w2 ⟨rfl, h⟩; clear H hc; have H := Aside0.mk h; have hc : True := trivial; clear h))
  rw [rounds_succ]
  go_wp2_with (fail)
  all_goals
    go_ret
    have h := H.out
    exact Or.inr (⟨Z27, (by first | rfl | simp), h⟩)
set_option maxHeartbeats 1000000 in
theorem sem_products4 {R0 R1 R2 R3 R4 : World → Prop} {x0_0 x0_1 x0_2 x1_0 x1_1 x1_2 x2_0 x2_1 x2_2 x3_0 x3_1 x3_2 x3_3 x3_4 x3_5 : Value} {e0 e1 e2 e3 : Int} {gS t : Nat} {w : World}
    (h0 : ∀ w, R0 w → Calls Try.prog 78 #[x0_0, x0_1, x0_2] w fun e w' => e = .returned (.int .i64 e0) ∧ R1 w')
    (h1 : ∀ w, R1 w → Calls Try.prog 78 #[x1_0, x1_1, x1_2] w fun e w' => e = .returned (.int .i64 e1) ∧ R2 w')
    (h2 : ∀ w, R2 w → Calls Try.prog 78 #[x2_0, x2_1, x2_2] w fun e w' => e = .returned (.int .i64 e2) ∧ R3 w')
    (h3 : ∀ w, R3 w → Calls Try.prog 69 #[x3_0, x3_1, x3_2, x3_3, x3_4, x3_5] w fun e w' => e = .returned (.int .i64 e3) ∧ R4 w')
    (k0 : ∀ w, R0 w → Vr w gS #[(.func (.func 78) #[] #[x0_0, x0_1, x0_2]), (.func (.func 78) #[] #[x1_0, x1_1, x1_2]), (.func (.func 78) #[] #[x2_0, x2_1, x2_2]), (.func (.func 69) #[] #[x3_0, x3_1, x3_2, x3_3, x3_4, x3_5])] t)
    (k1 : ∀ w, R1 w → Vr w gS #[(.func (.func 78) #[] #[x0_0, x0_1, x0_2]), (.func (.func 78) #[] #[x1_0, x1_1, x1_2]), (.func (.func 78) #[] #[x2_0, x2_1, x2_2]), (.func (.func 69) #[] #[x3_0, x3_1, x3_2, x3_3, x3_4, x3_5])] t)
    (k2 : ∀ w, R2 w → Vr w gS #[(.func (.func 78) #[] #[x0_0, x0_1, x0_2]), (.func (.func 78) #[] #[x1_0, x1_1, x1_2]), (.func (.func 78) #[] #[x2_0, x2_1, x2_2]), (.func (.func 69) #[] #[x3_0, x3_1, x3_2, x3_3, x3_4, x3_5])] t)
    (k3 : ∀ w, R3 w → Vr w gS #[(.func (.func 78) #[] #[x0_0, x0_1, x0_2]), (.func (.func 78) #[] #[x1_0, x1_1, x1_2]), (.func (.func 78) #[] #[x2_0, x2_1, x2_2]), (.func (.func 69) #[] #[x3_0, x3_1, x3_2, x3_3, x3_4, x3_5])] t)
    (h : R0 w) : Calls Try.prog 62 #[.slice (some ⟨gS, 0, none⟩) 4 4] w fun e w' => (e0 ≠ 0 ∧ e = .returned (.int .i64 e0) ∧ R1 w') ∨ (e0 = 0 ∧ e1 ≠ 0 ∧ e = .returned (.int .i64 e1) ∧ R2 w') ∨ (e0 = 0 ∧ e1 = 0 ∧ e2 ≠ 0 ∧ e = .returned (.int .i64 e2) ∧ R3 w') ∨ (e0 = 0 ∧ e1 = 0 ∧ e2 = 0 ∧ e = .returned (.int .i64 e3) ∧ R4 w') := by
  have hc := (k0 w h).cell 0
  simp at hc
  have H0 := Aside0.mk h0
  have K0 := Aside0.mk k0
  have H1 := Aside0.mk h1
  have K1 := Aside0.mk k1
  have H2 := Aside0.mk h2
  have K2 := Aside0.mk k2
  have H3 := Aside0.mk h3
  have K3 := Aside0.mk k3
  have H := Aside0.mk h
  clear h0 k0 h1 k1 h2 k2 h3 k3 h
  by_cases z0 : e0 = 0
  rotate_left
  · go_enter Try.func62, Try.ntmps62
    go_wp2_with (fail)
    refine wp_loop_rounds 5 ?_
    rw [rounds_succ]
    go_wp2_with (first | (go_at_call 78; refine (H0.out _ H.out).mono ?_; rintro e w1 ⟨rfl, h⟩; clear H hc; have H := Aside0.mk h; have hc := (K1.out _ h).cell 1; simp at hc; clear h))
    all_goals
      go_ret
      have h := H.out
      exact Or.inl ⟨(by first | exact z0 | simpa using z0), (by first | rfl | simp), h⟩
  subst z0
  by_cases z1 : e1 = 0
  rotate_left
  · go_enter Try.func62, Try.ntmps62
    go_wp2_with (fail)
    refine wp_loop_rounds 5 ?_
    rw [rounds_succ]
    go_wp2_with (first | (go_at_call 78; refine (H0.out _ H.out).mono ?_; rintro e w1 ⟨rfl, h⟩; clear H hc; have H := Aside0.mk h; have hc := (K1.out _ h).cell 1; simp at hc; clear h))
    rw [rounds_succ]
    go_wp2_with (first | (go_at_call 78; refine (H1.out _ H.out).mono ?_; rintro e w2 ⟨rfl, h⟩; clear H hc; have H := Aside0.mk h; have hc := (K2.out _ h).cell 2; simp at hc; clear h))
    all_goals
      go_ret
      have h := H.out
      exact Or.inr (Or.inl ⟨Z27, (by first | exact z1 | simpa using z1), (by first | rfl | simp), h⟩)
  subst z1
  by_cases z2 : e2 = 0
  rotate_left
  · go_enter Try.func62, Try.ntmps62
    go_wp2_with (fail)
    refine wp_loop_rounds 5 ?_
    rw [rounds_succ]
    go_wp2_with (first | (go_at_call 78; refine (H0.out _ H.out).mono ?_; rintro e w1 ⟨rfl, h⟩; clear H hc; have H := Aside0.mk h; have hc := (K1.out _ h).cell 1; simp at hc; clear h))
    rw [rounds_succ]
    go_wp2_with (first | (go_at_call 78; refine (H1.out _ H.out).mono ?_; rintro e w2 ⟨rfl, h⟩; clear H hc; have H := Aside0.mk h; have hc := (K2.out _ h).cell 2; simp at hc; clear h))
    rw [rounds_succ]
    go_wp2_with (first | (go_at_call 78; refine (H2.out _ H.out).mono ?_; rintro e w3 ⟨rfl, h⟩; clear H hc; have H := Aside0.mk h; have hc := (K3.out _ h).cell 3; simp at hc; clear h))
    all_goals
      go_ret
      have h := H.out
      exact Or.inr (Or.inr (Or.inl ⟨Z27, Z27, (by first | exact z2 | simpa using z2), (by first | rfl | simp), h⟩))
  subst z2
  by_cases z3 : e3 = 0
  rotate_left
  · go_enter Try.func62, Try.ntmps62
    go_wp2_with (fail)
    refine wp_loop_rounds 5 ?_
    rw [rounds_succ]
    go_wp2_with (first | (go_at_call 78; refine (H0.out _ H.out).mono ?_; rintro e w1 ⟨rfl, h⟩; clear H hc; have H := Aside0.mk h; have hc := (K1.out _ h).cell 1; simp at hc; clear h))
    rw [rounds_succ]
    go_wp2_with (first | (go_at_call 78; refine (H1.out _ H.out).mono ?_; rintro e w2 ⟨rfl, h⟩; clear H hc; have H := Aside0.mk h; have hc := (K2.out _ h).cell 2; simp at hc; clear h))
    rw [rounds_succ]
    go_wp2_with (first | (go_at_call 78; refine (H2.out _ H.out).mono ?_; rintro e w3 ⟨rfl, h⟩; clear H hc; have H := Aside0.mk h; have hc := (K3.out _ h).cell 3; simp at hc; clear h))
    rw [rounds_succ]
    go_wp2_with (first | (go_at_call 69; refine (H3.out _ H.out).mono ?_; rintro e w4 ⟨rfl, h⟩; clear H hc; have H := Aside0.mk h; have hc : True := trivial; clear h))
    all_goals
      go_ret
      have h := H.out
      exact Or.inr (Or.inr (Or.inr (⟨Z27, Z27, Z27, (by first | rfl | simp), h⟩)))
  subst z3
  go_enter Try.func62, Try.ntmps62
  go_wp2_with (fail)
  refine wp_loop_rounds 5 ?_
  rw [rounds_succ]
  go_wp2_with (first | (go_at_call 78; refine (H0.out _ H.out).mono ?_; rintro e w1 ⟨rfl, h⟩; clear H hc; have H := Aside0.mk h; have hc := (K1.out _ h).cell 1; simp at hc; clear h))
  rw [rounds_succ]
  go_wp2_with (first | (go_at_call 78; refine (H1.out _ H.out).mono ?_; rintro e w2 ⟨rfl, h⟩; clear H hc; have H := Aside0.mk h; have hc := (K2.out _ h).cell 2; simp at hc; clear h))
  rw [rounds_succ]
  go_wp2_with (first | (go_at_call 78; refine (H2.out _ H.out).mono ?_; rintro e w3 ⟨rfl, h⟩; clear H hc; have H := Aside0.mk h; have hc := (K3.out _ h).cell 3; simp at hc; clear h))
  rw [rounds_succ]
  go_wp2_with (first | (go_at_call 69; refine (H3.out _ H.out).mono ?_; rintro e w4 ⟨rfl, h⟩; clear H hc; have H := Aside0.mk h; have hc : True := trivial; clear h))
  rw [rounds_succ]
  go_wp2_with (fail)
  all_goals
    go_ret
    have h := H.out
    exact Or.inr (Or.inr (Or.inr (⟨Z27, Z27, Z27, (by first | rfl | simp), h⟩)))
theorem sem_two {W : World} {gS tS B t1 t2 ga1 gb1 gp1 gP ga2 gb2 gp2 gQ : Nat} {a b c d : List Int} {A1 A2 A3 A4 : Option Addr} {c1 c2 c3 c4 : Nat} {o1 o2 : Value}
    (hS : Vr W gS #[prodF gp1 ga1 gb1, prodF gp2 ga2 gb2] tS)
    (ha1 : Vr W ga1 #[.slice A1 a.length c1] 25) (hb1 : Vr W gb1 #[.slice A2 b.length c2] 25) (hp1 : Vr W gp1 #[.pointer (some ⟨gP, 0, none⟩)] t1) (hP : Vr W gP #[o1] 25)
    (ha2 : Vr W ga2 #[.slice A3 c.length c3] 25) (hb2 : Vr W gb2 #[.slice A4 d.length c4] 25) (hp2 : Vr W gp2 #[.pointer (some ⟨gQ, 0, none⟩)] t2) (hQ : Vr W gQ #[o2] 25)
    (n1 : ga2 ≠ gP) (n2 : gb2 ≠ gP) (n3 : gp2 ≠ gP) (n4 : gQ ≠ gP) (n5 : gS ≠ gP) (n6 : gS ≠ gQ) (hB : B ≤ gP)
    (h1 : Fr B W (.slice A1 a.length c1) a) (h2 : Fr B W (.slice A2 b.length c2) b) (h3 : Fr B W (.slice A3 c.length c3) c) (h4 : Fr B W (.slice A4 d.length c4) d) :
    Calls Try.prog 62 #[.slice (some ⟨gS, 0, none⟩) 2 2] W fun e w' => ∃ A k wa, Fr B wa (.slice A (mulS a b).1.length k) (mulS a b).1 ∧ Below W.heap.size W wa ∧
      (((mulS a b).2 ≠ 0 ∧ e = .returned (.int .i64 (mulS a b).2) ∧ w' = wa.setCell ⟨gP, 0, none⟩ (.slice A (mulS a b).1.length k)) ∨
       ((mulS a b).2 = 0 ∧ e = .returned (.int .i64 (mulS c d).2) ∧ ∃ A' k' wb, w' = wb.setCell ⟨gQ, 0, none⟩ (.slice A' (mulS c d).1.length k') ∧ Fr B wb (.slice A' (mulS c d).1.length k') (mulS c d).1 ∧
         Below (wa.setCell ⟨gP, 0, none⟩ (.slice A (mulS a b).1.length k)).heap.size (wa.setCell ⟨gP, 0, none⟩ (.slice A (mulS a b).1.length k)) wb)) := by
  have hnat : (25 : Nat) ≠ 3 := by decide
  refine (sem_products2 (e0 := (mulS a b).2) (e1 := (mulS c d).2) (gS := gS) (t := tS) (x0_0 := .pointer (some ⟨ga1, 0, none⟩)) (x0_1 := .pointer (some ⟨gb1, 0, none⟩)) (x0_2 := .pointer (some ⟨gp1, 0, none⟩)) (x1_0 := .pointer (some ⟨ga2, 0, none⟩)) (x1_1 := .pointer (some ⟨gb2, 0, none⟩)) (x1_2 := .pointer (some ⟨gp2, 0, none⟩))
    (R0 := fun w => w = W)
    (R1 := fun w => ∃ A k wa, w = wa.setCell ⟨gP, 0, none⟩ (.slice A (mulS a b).1.length k) ∧ Fr B wa (.slice A (mulS a b).1.length k) (mulS a b).1 ∧ Below W.heap.size W wa)
    (R2 := fun w => ∃ A k wa, Fr B wa (.slice A (mulS a b).1.length k) (mulS a b).1 ∧ Below W.heap.size W wa ∧ ∃ A' k' wb, w = wb.setCell ⟨gQ, 0, none⟩ (.slice A' (mulS c d).1.length k') ∧ Fr B wb (.slice A' (mulS c d).1.length k') (mulS c d).1 ∧ Below (wa.setCell ⟨gP, 0, none⟩ (.slice A (mulS a b).1.length k)).heap.size (wa.setCell ⟨gP, 0, none⟩ (.slice A (mulS a b).1.length k)) wb)
    ?_ ?_ ?_ ?_ rfl).mono ?_
  · rintro w rfl
    exact (sem_product1 ha1 hb1 hp1 hP h1 h2).mono fun e w' ⟨A, k, w1, he, hw, hf, hb⟩ => ⟨he, A, k, w1, hw, hf, hb⟩
  · rintro w ⟨A, k, wa, rfl, hf, hb⟩
    have P1 := hP.below hb
    refine (sem_product1 (B := B) ((ha2.below hb).ne n1 _ _) ((hb2.below hb).ne n2 _ _) ((hp2.below hb).ne n3 _ _) ((hQ.below hb).ne n4 _ _) ((h3.below hb).setV P1 hnat hB) ((h4.below hb).setV P1 hnat hB)).mono ?_
    rintro e w' ⟨A', k', w1, he, hw, hf', hb'⟩
    exact ⟨he, A, k, wa, hf, hb, A', k', w1, hw, hf', hb'⟩
  · rintro w rfl
    exact hS
  · rintro w ⟨A, k, wa, rfl, hf, hb⟩
    exact (hS.below hb).ne n5 _ _
  · rintro e w' (⟨hz, he, A, k, wa, hw, hf, hb⟩ | ⟨hz, he, A, k, wa, hf, hb, A', k', wb, hw, hf', hb'⟩)
    · exact ⟨A, k, wa, hf, hb, .inl ⟨hz, he, hw⟩⟩
    · exact ⟨A, k, wa, hf, hb, .inr ⟨hz, he, A', k', wb, hw, hf', hb'⟩⟩
theorem sem_two' {W : World} {gS tS B t1 t2 ga1 gb1 gp1 gP ga2 gb2 gp2 gQ : Nat} {a b c d : List Int} {A1 A2 A3 A4 : Option Addr} {c1 c2 c3 c4 : Nat} {o1 o2 : Value} {m1 m2 : List Int} {e1 e2 : Int}
    (hm1 : mulS a b = (m1, e1)) (hm2 : mulS c d = (m2, e2))
    (hS : Vr W gS #[prodF gp1 ga1 gb1, prodF gp2 ga2 gb2] tS)
    (ha1 : Vr W ga1 #[.slice A1 a.length c1] 25) (hb1 : Vr W gb1 #[.slice A2 b.length c2] 25) (hp1 : Vr W gp1 #[.pointer (some ⟨gP, 0, none⟩)] t1) (hP : Vr W gP #[o1] 25)
    (ha2 : Vr W ga2 #[.slice A3 c.length c3] 25) (hb2 : Vr W gb2 #[.slice A4 d.length c4] 25) (hp2 : Vr W gp2 #[.pointer (some ⟨gQ, 0, none⟩)] t2) (hQ : Vr W gQ #[o2] 25)
    (hn : ga2 ≠ gP ∧ gb2 ≠ gP ∧ gp2 ≠ gP ∧ gQ ≠ gP ∧ gS ≠ gP ∧ gS ≠ gQ) (hB : B ≤ gP ∧ B ≤ gQ)
    (h1 : Fr B W (.slice A1 a.length c1) a) (h2 : Fr B W (.slice A2 b.length c2) b) (h3 : Fr B W (.slice A3 c.length c3) c) (h4 : Fr B W (.slice A4 d.length c4) d) :
    Calls Try.prog 62 #[.slice (some ⟨gS, 0, none⟩) 2 2] W fun e w' => e = .returned (.int .i64 (if e1 = 0 then e2 else e1)) ∧ Mv (fun k => k = gP ∨ (k = gQ ∨ False)) W w' ∧
      (e1 = 0 → ∃ A k A' k', Vr w' gP #[.slice A m1.length k] 25 ∧ Vr w' gQ #[.slice A' m2.length k'] 25 ∧ Fr B w' (.slice A m1.length k) m1 ∧ Fr B w' (.slice A' m2.length k') m2) := by
  obtain ⟨n1, n2, n3, n4, n5, n6⟩ := hn
  have hnat : (25 : Nat) ≠ 3 := by decide
  refine (sem_two hS ha1 hb1 hp1 hP ha2 hb2 hp2 hQ n1 n2 n3 n4 n5 n6 hB.1 h1 h2 h3 h4).mono ?_
  rw [hm1, hm2]
  rintro e w' ⟨A, k, wa, hf, hb, (⟨hz, he, rfl⟩ | ⟨hz, he, A', k', wb, rfl, hf', hb'⟩)⟩
  · exact ⟨by rw [he, if_neg hz], Mv.set (Mv.of_below hb) (.inl rfl), fun e0 => absurd e0 hz⟩
  · have P1 := hP.below hb
    have P2 := (P1.set 0 (.slice A m1.length k)).below hb'
    have Q2 := ((hQ.below hb).ne n4 0 (.slice A m1.length k)).below hb'
    refine ⟨by rw [he, if_pos hz], Mv.set (Mv.step (Mv.set (Mv.of_below hb) (.inl rfl)) hb') (.inr (.inl rfl)), fun _ => ⟨A, k, A', k', ?_, ?_, ?_, ?_⟩⟩
    · exact (P2.ne (fun e => n4 e.symm) 0 _).eq rfl
    · exact (Q2.set 0 _).eq rfl
    · exact ((hf.setV P1 hnat hB.1).below hb').setV Q2 hnat hB.2
    · exact hf'.setV Q2 hnat hB.2
theorem mulS_ok {a b : List Int} (ha : okN a = true) (hb : okN b = true) : mulS a b = fitS (val a * val b) := by unfold mulS; rw [if_pos ⟨ha, hb⟩]
theorem fit_facts {n : Int} (h0 : 0 ≤ n) {m : List Int} (h : fitS n = (m, 0)) : okN m = true ∧ val m = n ∧ (n ≠ 0 → m ≠ []) ∧ m = dg n := by
  unfold fitS at h
  split at h
  · rename_i hl
    injection h with h1 _
    subst h1
    exact ⟨okN_iff.2 (ok_dg h0 hl), val_dg h0, fun hn e => hn ((dg_nil h0).1 e), rfl⟩
  · injection h with _ h2
    exact absurd h2 (by decide)
end Go.Proofs.Ytbjamhkhocjdkaa.Px
namespace Go.Proofs.Ytbjamhkhocjdkaa.Px
open Go.RowKit Go.Proofs.YtbjamhkhocjdkaaW.PrintWords Go.Proofs.YtbjamhkhocjdkaaW.PrintLast Go.Proofs.YtbjamhkhocjdkaaW.PrintMore Go.Proofs.Ytbjamhkhocjdkaa.Mat
set_option linter.unusedVariables false
set_option linter.unusedSimpArgs false
attribute [local go_sem] prodF
def mulR (x y : Rt) : Rt × Int := if rvB x = true ∧ rvB y = true then (if (mulS x.p y.p).2 = 0 then (if (mulS x.q y.q).2 = 0 then (redS (!(x.neg == y.neg)) (mulS x.p y.p).1 (mulS x.q y.q).1, 0) else (zR, (mulS x.q y.q).2)) else (zR, (mulS x.p y.p).2)) else (zR, 3)
theorem below_prodW {w W : World} (h : Below w.heap.size w W) (P : Addr) (a b : Value) : Below w.heap.size w (prodW W P a b) := below_alloc (below_alloc (below_alloc h _) _) _
theorem bc {w W : World} (h : Below w.heap.size w W) {b o : Nat} (hb : b < w.heap.size) : W.cell? ⟨b, o, none⟩ = w.cell? ⟨b, o, none⟩ := h.cell (p := ⟨b, o, none⟩) hb
theorem Vr.prodW {w : World} {g t : Nat} {cs : Array Value} (h : Vr w g cs t) {P : Addr} {a b : Value} : Vr (prodW w P a b) g cs t := h.below (below_prodW (Below.refl _ _) _ _ _)
theorem Env.prodW {B : Nat} {w : World} {L : List (Value × List Int)} (h : Env B w L) {P : Addr} {a b : Value} : Env B (prodW w P a b) L := h.below (below_prodW (Below.refl _ _) _ _ _)
theorem Fr.prodW {B : Nat} {w : World} {v : Value} {x : List Int} (h : Fr B w v x) {P : Addr} {a b : Value} : Fr B (prodW w P a b) v x := h.below (below_prodW (Below.refl _ _) _ _ _)
set_option maxHeartbeats 400000 in
theorem sem_Mul_a {x y : Rt} {v v' : Value} {w : World} {B : Nat} (b1 b2 : Bool) (hv1 : rvB x = b1) (hv2 : rvB y = b2) (hb12 : (b1 && b2) = false) (hB : B ≤ w.heap.size) (h : RaF B w v x) (h' : RaF B w v' y) : Calls Try.prog 49 #[v, v'] w (GiveR B w (zR, 3)) := by
  obtain ⟨A1, c1, A2, c2, rfl, h1, h2⟩ := h
  obtain ⟨A3, c3, A4, c4, rfl, h3, h4⟩ := h'
  obtain ⟨ng, p, q⟩ := x
  obtain ⟨ng', p', q'⟩ := y
  have HE := Aside0.mk (((((Env.nil B w).cons h4).cons h3).cons h2).cons h1)
  have HB := Aside0.mk (Below.refl w.heap.size w)
  have HV := Aside0.mk (And.intro hv1 hv2)
  simp only
  clear h1 h2 h3 h4 hv1 hv2
  go_enter Try.func49, Try.ntmps49
  go_wp2_with (first | (go_at_call 61; refine (sem_valid2_a (B := B) (x := ⟨ng, p, q⟩) (y := ⟨ng', p', q'⟩) (g := w.heap.size + 1 + 1 + 1) (t := 27) Z20 (by omega) (by decide) b1 b2 HV.out.1 HV.out.2 Xv ?_ ?_ ?_ ?_).mono ?_; exact Xf; exact Xf; exact Xf; exact Xf; rintro e w1 ⟨rfl, hb⟩; clear HV; have n_ := Aside0.mk (Env.below Xe hb); have nb_ := Aside0.mk (below_step (w := w) Xb hb); have hz1 := hb.size; (try simp at hz1); clear HE HB; have HE := n_; have HB := nb_; clear n_ nb_; have HX := Aside0.mk (Vr.below (g := w.heap.size) Z5 hb); have HY := Aside0.mk (Vr.below (g := w.heap.size + 1) Z5 hb); have HR := Aside0.mk (Vr.below (g := w.heap.size + 1 + 1) Z5 hb); (first | obtain ⟨hc_HX, hf_HX, hl_HX⟩ := Vr.q3 HX.out | (obtain ⟨hc_HX, hf_HX, hl_HX⟩ := Vr.p3 HX.out; (try simp at hc_HX))); (first | obtain ⟨hc_HY, hf_HY, hl_HY⟩ := Vr.q3 HY.out | (obtain ⟨hc_HY, hf_HY, hl_HY⟩ := Vr.p3 HY.out; (try simp at hc_HY))); (first | obtain ⟨hc_HR, hf_HR, hl_HR⟩ := Vr.q3 HR.out | (obtain ⟨hc_HR, hf_HR, hl_HR⟩ := Vr.p3 HR.out; (try simp at hc_HR))); clear hb))
  all_goals
    refine bodyPost_ret (results_list (rs := [.cell 4 27, .tmp 5]) rfl (by simp) (vals_vr Xv rfl Try.underlying27 rfl Z6 (.tmp .nil))) rfl ?_
    exact ⟨_, rfl, ⟨_, _, _, _, rfl, Xf, Xf⟩, Xb⟩
set_option maxHeartbeats 1000000 in
theorem sem_Mul_b {x y : Rt} {v v' : Value} {w : World} {B : Nat} {m1 m2 : List Int} {e1 e2 : Int} (hm1 : mulS x.p y.p = (m1, e1)) (hm2 : mulS x.q y.q = (m2, e2)) (he : ¬ e1 = 0) (hv1 : rvB x = true) (hv2 : rvB y = true) (hB : B ≤ w.heap.size) (h : RaF B w v x) (h' : RaF B w v' y) : Calls Try.prog 49 #[v, v'] w (GiveR B w (zR, e1)) := by
  obtain ⟨A1, c1, A2, c2, rfl, h1, h2⟩ := h
  obtain ⟨A3, c3, A4, c4, rfl, h3, h4⟩ := h'
  obtain ⟨ng, p, q⟩ := x
  obtain ⟨ng', p', q'⟩ := y
  have HE := Aside0.mk (((((Env.nil B w).cons h4).cons h3).cons h2).cons h1)
  have HB := Aside0.mk (Below.refl w.heap.size w)
  have HV := Aside0.mk (And.intro hv1 hv2)
  have HM := Aside0.mk (And.intro hm1 hm2)
  have HN := Aside0.mk he
  have he' : (e1 == 0) = false := beq_false_of_ne he
  simp only
  clear h1 h2 h3 h4 hv1 hv2 hm1 hm2
  go_enter Try.func49, Try.ntmps49
  go_wp2_with (first | (go_at_call 61; refine (sem_valid2_a (B := B) (x := ⟨ng, p, q⟩) (y := ⟨ng', p', q'⟩) (g := w.heap.size + 1 + 1 + 1) (t := 27) Z20 (by omega) (by decide) true true HV.out.1 HV.out.2 Xv ?_ ?_ ?_ ?_).mono ?_; exact Xf; exact Xf; exact Xf; exact Xf; rintro e w1 ⟨rfl, hb⟩; clear HV; have n_ := Aside0.mk (Env.below Xe hb); have nb_ := Aside0.mk (below_step (w := w) Xb hb); have hz1 := hb.size; (try simp at hz1); clear HE HB; have HE := n_; have HB := nb_; clear n_ nb_; have HX := Aside0.mk (Vr.below (g := w.heap.size) Z5 hb); have HY := Aside0.mk (Vr.below (g := w.heap.size + 1) Z5 hb); have HR := Aside0.mk (Vr.below (g := w.heap.size + 1 + 1) Z5 hb); (first | obtain ⟨hc_HX, hf_HX, hl_HX⟩ := Vr.q3 HX.out | (obtain ⟨hc_HX, hf_HX, hl_HX⟩ := Vr.p3 HX.out; (try simp at hc_HX))); (first | obtain ⟨hc_HY, hf_HY, hl_HY⟩ := Vr.q3 HY.out | (obtain ⟨hc_HY, hf_HY, hl_HY⟩ := Vr.p3 HY.out; (try simp at hc_HY))); (first | obtain ⟨hc_HR, hf_HR, hl_HR⟩ := Vr.q3 HR.out | (obtain ⟨hc_HR, hf_HR, hl_HR⟩ := Vr.p3 HR.out; (try simp at hc_HR))); clear hb))
  go_region_held3 (fun w' => w'.cell? ⟨w.heap.size, 1, none⟩ = some (.slice A1 p.length c1) ∧ w'.cell? ⟨w.heap.size, 2, none⟩ = some (.slice A2 q.length c2) ∧ w'.cell? ⟨w.heap.size + 1, 1, none⟩ = some (.slice A3 p'.length c3) ∧ w'.cell? ⟨w.heap.size + 1, 2, none⟩ = some (.slice A4 q'.length c4)) ((repeat' apply And.intro) <;> (first | exact hc_HX.1 | exact hc_HX.2.1 | exact hc_HX.2.2 | exact hc_HY.1 | exact hc_HY.2.1 | exact hc_HY.2.2 | (rw [bc (w := w1) Z29 (by omega)]; first | exact hc_HX.1 | exact hc_HX.2.1 | exact hc_HX.2.2 | exact hc_HY.1 | exact hc_HY.2.1 | exact hc_HY.2.2))) (first | (go_at_call 63; refine (sem_product _ Value.nilFunc Value.nilFunc _ _ _ _ _ _).mono ?_; rintro e w2 ⟨rfl, rfl⟩; simp only [prodF, prodW]) | (go_at_call 62; refine (sem_two' (B := B) (a := p) (b := p') (c := q) (d := q') (A1 := A1) (c1 := c1) (A2 := A3) (c2 := c3) (A3 := A2) (c3 := c2) (A4 := A4) (c4 := c4) (o1 := Value.slice none 0 0) (o2 := Value.slice none 0 0) (t1 := 78) (t2 := 78) (tS := 76) (gS := w1.heap.size + 1 + 1 + 1 + 1 + 1 + 1 + 1 + 1) (gP := w1.heap.size) (gQ := w1.heap.size + 1) (gp1 := w1.heap.size + 1 + 1) (ga1 := w1.heap.size + 1 + 1 + 1) (gb1 := w1.heap.size + 1 + 1 + 1 + 1) (gp2 := w1.heap.size + 1 + 1 + 1 + 1 + 1) (ga2 := w1.heap.size + 1 + 1 + 1 + 1 + 1 + 1) (gb2 := w1.heap.size + 1 + 1 + 1 + 1 + 1 + 1 + 1) HM.out.1 HM.out.2 ?_ ?_ ?_ ?_ ?_ ?_ ?_ ?_ ?_ (by omega) (by omega) ?_ ?_ ?_ ?_).mono ?_; simp only [prodF]; exact Xv; exact Xv; exact Xv; exact Xv; exact Xv; exact Xv; exact Xv; exact Xv; exact Xv; exact Xf; exact Xf; exact Xf; exact Xf; rintro e w4 ⟨rfl, hm, hr⟩; rw [if_neg HN.out]; have n_ := Aside0.mk (Env.mv Xe hm (Ours.one (g := w1.heap.size) Z5 (by decide) (by omega) (Ours.one (g := w1.heap.size + 1) Z5 (by decide) (by omega) Ours.none))); have nb_ := Aside0.mk (Below.mv Xb hm (by rintro g_ (rfl | rfl | h); omega; omega; exact h.elim)); have nx_HX := Aside0.mk (Vr.mv (g := w.heap.size) Z5 hm Z21); have nx_HY := Aside0.mk (Vr.mv (g := w.heap.size + 1) Z5 hm Z21); have nx_HR := Aside0.mk (Vr.mv (g := w.heap.size + 1 + 1) Z5 hm Z21); have hz4 := hm.size; (try simp at hz4); clear HE HB HX HY HR; have HE := n_; have HB := nb_; clear n_ nb_; (try clear hc_HX); (try clear hf_HX); (try clear hl_HX); (try clear hc_HY); (try clear hf_HY); (try clear hl_HY); (try clear hc_HR); (try clear hf_HR); (try clear hl_HR); have HX := nx_HX; clear nx_HX; (first | obtain ⟨hc_HX, hf_HX, hl_HX⟩ := Vr.q3 HX.out | (obtain ⟨hc_HX, hf_HX, hl_HX⟩ := Vr.p3 HX.out; (try simp at hc_HX))); have HY := nx_HY; clear nx_HY; (first | obtain ⟨hc_HY, hf_HY, hl_HY⟩ := Vr.q3 HY.out | (obtain ⟨hc_HY, hf_HY, hl_HY⟩ := Vr.p3 HY.out; (try simp at hc_HY))); have HR := nx_HR; clear nx_HR; (first | obtain ⟨hc_HR, hf_HR, hl_HR⟩ := Vr.q3 HR.out | (obtain ⟨hc_HR, hf_HR, hl_HR⟩ := Vr.p3 HR.out; (try simp at hc_HR))); clear hm; clear hr))
  go_wp2_with (first | (go_at_call 61; refine (sem_valid2_a (B := B) (x := ⟨ng, p, q⟩) (y := ⟨ng', p', q'⟩) (g := w.heap.size + 1 + 1 + 1) (t := 27) Z20 (by omega) (by decide) true true HV.out.1 HV.out.2 Xv ?_ ?_ ?_ ?_).mono ?_; exact Xf; exact Xf; exact Xf; exact Xf; rintro e w1 ⟨rfl, hb⟩; clear HV; have n_ := Aside0.mk (Env.below Xe hb); have nb_ := Aside0.mk (below_step (w := w) Xb hb); have hz1 := hb.size; (try simp at hz1); clear HE HB; have HE := n_; have HB := nb_; clear n_ nb_; have HX := Aside0.mk (Vr.below (g := w.heap.size) Z5 hb); have HY := Aside0.mk (Vr.below (g := w.heap.size + 1) Z5 hb); have HR := Aside0.mk (Vr.below (g := w.heap.size + 1 + 1) Z5 hb); (first | obtain ⟨hc_HX, hf_HX, hl_HX⟩ := Vr.q3 HX.out | (obtain ⟨hc_HX, hf_HX, hl_HX⟩ := Vr.p3 HX.out; (try simp at hc_HX))); (first | obtain ⟨hc_HY, hf_HY, hl_HY⟩ := Vr.q3 HY.out | (obtain ⟨hc_HY, hf_HY, hl_HY⟩ := Vr.p3 HY.out; (try simp at hc_HY))); (first | obtain ⟨hc_HR, hf_HR, hl_HR⟩ := Vr.q3 HR.out | (obtain ⟨hc_HR, hf_HR, hl_HR⟩ := Vr.p3 HR.out; (try simp at hc_HR))); clear hb))
  all_goals
    refine bodyPost_ret (results_list (rs := [.cell 4 27, .tmp 5]) rfl (by simp) (vals_vr Xv rfl Try.underlying27 rfl Z6 (.tmp .nil))) rfl ?_
    exact ⟨_, rfl, ⟨_, _, _, _, rfl, Xf, Xf⟩, Xb⟩
set_option maxHeartbeats 1000000 in
theorem sem_Mul_c {x y : Rt} {v v' : Value} {w : World} {B : Nat} {m1 m2 : List Int} {e2 : Int} (hm1 : mulS x.p y.p = (m1, 0)) (hm2 : mulS x.q y.q = (m2, e2)) (he : ¬ e2 = 0) (hv1 : rvB x = true) (hv2 : rvB y = true) (hB : B ≤ w.heap.size) (h : RaF B w v x) (h' : RaF B w v' y) : Calls Try.prog 49 #[v, v'] w (GiveR B w (zR, e2)) := by
  obtain ⟨A1, c1, A2, c2, rfl, h1, h2⟩ := h
  obtain ⟨A3, c3, A4, c4, rfl, h3, h4⟩ := h'
  obtain ⟨ng, p, q⟩ := x
  obtain ⟨ng', p', q'⟩ := y
  have HE := Aside0.mk (((((Env.nil B w).cons h4).cons h3).cons h2).cons h1)
  have HB := Aside0.mk (Below.refl w.heap.size w)
  have HV := Aside0.mk (And.intro hv1 hv2)
  have HM := Aside0.mk (And.intro hm1 hm2)
  have he' : (e2 == 0) = false := beq_false_of_ne he
  simp only
  clear h1 h2 h3 h4 hv1 hv2 hm1 hm2
  go_enter Try.func49, Try.ntmps49
  go_wp2_with (first | (go_at_call 61; refine (sem_valid2_a (B := B) (x := ⟨ng, p, q⟩) (y := ⟨ng', p', q'⟩) (g := w.heap.size + 1 + 1 + 1) (t := 27) Z20 (by omega) (by decide) true true HV.out.1 HV.out.2 Xv ?_ ?_ ?_ ?_).mono ?_; exact Xf; exact Xf; exact Xf; exact Xf; rintro e w1 ⟨rfl, hb⟩; clear HV; have n_ := Aside0.mk (Env.below Xe hb); have nb_ := Aside0.mk (below_step (w := w) Xb hb); have hz1 := hb.size; (try simp at hz1); clear HE HB; have HE := n_; have HB := nb_; clear n_ nb_; have HX := Aside0.mk (Vr.below (g := w.heap.size) Z5 hb); have HY := Aside0.mk (Vr.below (g := w.heap.size + 1) Z5 hb); have HR := Aside0.mk (Vr.below (g := w.heap.size + 1 + 1) Z5 hb); (first | obtain ⟨hc_HX, hf_HX, hl_HX⟩ := Vr.q3 HX.out | (obtain ⟨hc_HX, hf_HX, hl_HX⟩ := Vr.p3 HX.out; (try simp at hc_HX))); (first | obtain ⟨hc_HY, hf_HY, hl_HY⟩ := Vr.q3 HY.out | (obtain ⟨hc_HY, hf_HY, hl_HY⟩ := Vr.p3 HY.out; (try simp at hc_HY))); (first | obtain ⟨hc_HR, hf_HR, hl_HR⟩ := Vr.q3 HR.out | (obtain ⟨hc_HR, hf_HR, hl_HR⟩ := Vr.p3 HR.out; (try simp at hc_HR))); clear hb))
  go_region_held3 (fun w' => w'.cell? ⟨w.heap.size, 1, none⟩ = some (.slice A1 p.length c1) ∧ w'.cell? ⟨w.heap.size, 2, none⟩ = some (.slice A2 q.length c2) ∧ w'.cell? ⟨w.heap.size + 1, 1, none⟩ = some (.slice A3 p'.length c3) ∧ w'.cell? ⟨w.heap.size + 1, 2, none⟩ = some (.slice A4 q'.length c4)) ((repeat' apply And.intro) <;> (first | exact hc_HX.1 | exact hc_HX.2.1 | exact hc_HX.2.2 | exact hc_HY.1 | exact hc_HY.2.1 | exact hc_HY.2.2 | (rw [bc (w := w1) Z29 (by omega)]; first | exact hc_HX.1 | exact hc_HX.2.1 | exact hc_HX.2.2 | exact hc_HY.1 | exact hc_HY.2.1 | exact hc_HY.2.2))) (first | (go_at_call 63; refine (sem_product _ Value.nilFunc Value.nilFunc _ _ _ _ _ _).mono ?_; rintro e w2 ⟨rfl, rfl⟩; simp only [prodF, prodW]) | (go_at_call 62; refine (sem_two' (B := B) (a := p) (b := p') (c := q) (d := q') (A1 := A1) (c1 := c1) (A2 := A3) (c2 := c3) (A3 := A2) (c3 := c2) (A4 := A4) (c4 := c4) (o1 := Value.slice none 0 0) (o2 := Value.slice none 0 0) (t1 := 78) (t2 := 78) (tS := 76) (gS := w1.heap.size + 1 + 1 + 1 + 1 + 1 + 1 + 1 + 1) (gP := w1.heap.size) (gQ := w1.heap.size + 1) (gp1 := w1.heap.size + 1 + 1) (ga1 := w1.heap.size + 1 + 1 + 1) (gb1 := w1.heap.size + 1 + 1 + 1 + 1) (gp2 := w1.heap.size + 1 + 1 + 1 + 1 + 1) (ga2 := w1.heap.size + 1 + 1 + 1 + 1 + 1 + 1) (gb2 := w1.heap.size + 1 + 1 + 1 + 1 + 1 + 1 + 1) HM.out.1 HM.out.2 ?_ ?_ ?_ ?_ ?_ ?_ ?_ ?_ ?_ (by omega) (by omega) ?_ ?_ ?_ ?_).mono ?_; simp only [prodF]; exact Xv; exact Xv; exact Xv; exact Xv; exact Xv; exact Xv; exact Xv; exact Xv; exact Xv; exact Xf; exact Xf; exact Xf; exact Xf; rintro e w4 ⟨rfl, hm, hr⟩; rw [if_pos rfl]; obtain ⟨A5, k5, A6, k6, hP, hQ, f1, f2⟩ := hr rfl; have n_ := Aside0.mk (Env.cons (Env.cons (Env.mv Xe hm (Ours.one (g := w1.heap.size) Z5 (by decide) (by omega) (Ours.one (g := w1.heap.size + 1) Z5 (by decide) (by omega) Ours.none))) (f1)) (f2)); have nb_ := Aside0.mk (Below.mv Xb hm (by rintro g_ (rfl | rfl | h); omega; omega; exact h.elim)); have nx_HX := Aside0.mk (Vr.mv (g := w.heap.size) Z5 hm Z21); have nx_HY := Aside0.mk (Vr.mv (g := w.heap.size + 1) Z5 hm Z21); have nx_HR := Aside0.mk (Vr.mv (g := w.heap.size + 1 + 1) Z5 hm Z21); have hz4 := hm.size; (try simp at hz4); clear HE HB HX HY HR; have HE := n_; have HB := nb_; clear n_ nb_; (try clear hc_HX); (try clear hf_HX); (try clear hl_HX); (try clear hc_HY); (try clear hf_HY); (try clear hl_HY); (try clear hc_HR); (try clear hf_HR); (try clear hl_HR); have HX := nx_HX; clear nx_HX; (first | obtain ⟨hc_HX, hf_HX, hl_HX⟩ := Vr.q3 HX.out | (obtain ⟨hc_HX, hf_HX, hl_HX⟩ := Vr.p3 HX.out; (try simp at hc_HX))); have HY := nx_HY; clear nx_HY; (first | obtain ⟨hc_HY, hf_HY, hl_HY⟩ := Vr.q3 HY.out | (obtain ⟨hc_HY, hf_HY, hl_HY⟩ := Vr.p3 HY.out; (try simp at hc_HY))); have HR := nx_HR; clear nx_HR; (first | obtain ⟨hc_HR, hf_HR, hl_HR⟩ := Vr.q3 HR.out | (obtain ⟨hc_HR, hf_HR, hl_HR⟩ := Vr.p3 HR.out; (try simp at hc_HR))); clear hm; have HP := Aside0.mk hP; have HQ := Aside0.mk hQ; clear hP hQ; (first | obtain ⟨hc_HP, hf_HP, hl_HP⟩ := Vr.q1 HP.out | (obtain ⟨hc_HP, hf_HP, hl_HP⟩ := Vr.p1 HP.out; (try simp at hc_HP))); (first | obtain ⟨hc_HQ, hf_HQ, hl_HQ⟩ := Vr.q1 HQ.out | (obtain ⟨hc_HQ, hf_HQ, hl_HQ⟩ := Vr.p1 HQ.out; (try simp at hc_HQ)))))
  go_wp2_with (first | (go_at_call 61; refine (sem_valid2_a (B := B) (x := ⟨ng, p, q⟩) (y := ⟨ng', p', q'⟩) (g := w.heap.size + 1 + 1 + 1) (t := 27) Z20 (by omega) (by decide) true true HV.out.1 HV.out.2 Xv ?_ ?_ ?_ ?_).mono ?_; exact Xf; exact Xf; exact Xf; exact Xf; rintro e w1 ⟨rfl, hb⟩; clear HV; have n_ := Aside0.mk (Env.below Xe hb); have nb_ := Aside0.mk (below_step (w := w) Xb hb); have hz1 := hb.size; (try simp at hz1); clear HE HB; have HE := n_; have HB := nb_; clear n_ nb_; have HX := Aside0.mk (Vr.below (g := w.heap.size) Z5 hb); have HY := Aside0.mk (Vr.below (g := w.heap.size + 1) Z5 hb); have HR := Aside0.mk (Vr.below (g := w.heap.size + 1 + 1) Z5 hb); (first | obtain ⟨hc_HX, hf_HX, hl_HX⟩ := Vr.q3 HX.out | (obtain ⟨hc_HX, hf_HX, hl_HX⟩ := Vr.p3 HX.out; (try simp at hc_HX))); (first | obtain ⟨hc_HY, hf_HY, hl_HY⟩ := Vr.q3 HY.out | (obtain ⟨hc_HY, hf_HY, hl_HY⟩ := Vr.p3 HY.out; (try simp at hc_HY))); (first | obtain ⟨hc_HR, hf_HR, hl_HR⟩ := Vr.q3 HR.out | (obtain ⟨hc_HR, hf_HR, hl_HR⟩ := Vr.p3 HR.out; (try simp at hc_HR))); clear hb))
  all_goals
    refine bodyPost_ret (results_list (rs := [.cell 4 27, .tmp 5]) rfl (by simp) (vals_vr Xv rfl Try.underlying27 rfl Z6 (.tmp .nil))) rfl ?_
    exact ⟨_, rfl, ⟨_, _, _, _, rfl, Xf, Xf⟩, Xb⟩
set_option maxHeartbeats 1000000 in
theorem sem_Mul_d {x y : Rt} {v v' : Value} {w : World} {B : Nat} {m1 m2 : List Int} (hm1 : mulS x.p y.p = (m1, 0)) (hm2 : mulS x.q y.q = (m2, 0)) (ho : okN m1 = true ∧ okN m2 = true ∧ m2 ≠ []) (hv1 : rvB x = true) (hv2 : rvB y = true) (hB : B ≤ w.heap.size) (h : RaF B w v x) (h' : RaF B w v' y) : Calls Try.prog 49 #[v, v'] w (GiveR B w (redS (!(x.neg == y.neg)) m1 m2, 0)) := by
  obtain ⟨A1, c1, A2, c2, rfl, h1, h2⟩ := h
  obtain ⟨A3, c3, A4, c4, rfl, h3, h4⟩ := h'
  obtain ⟨ng, p, q⟩ := x
  obtain ⟨ng', p', q'⟩ := y
  have HE := Aside0.mk (((((Env.nil B w).cons h4).cons h3).cons h2).cons h1)
  have HB := Aside0.mk (Below.refl w.heap.size w)
  have HV := Aside0.mk (And.intro hv1 hv2)
  have HM := Aside0.mk (And.intro hm1 hm2)
  have HO := Aside0.mk ho
  simp only
  obtain ⟨rr, hr⟩ : ∃ x, redS (!(ng == ng')) m1 m2 = x := ⟨_, rfl⟩
  rw [hr]
  have HRR := Aside0.mk hr
  clear h1 h2 h3 h4 hv1 hv2 hm1 hm2 hr ho
  go_enter Try.func49, Try.ntmps49
  go_wp2_with (first | (go_at_call 61; refine (sem_valid2_a (B := B) (x := ⟨ng, p, q⟩) (y := ⟨ng', p', q'⟩) (g := w.heap.size + 1 + 1 + 1) (t := 27) Z20 (by omega) (by decide) true true HV.out.1 HV.out.2 Xv ?_ ?_ ?_ ?_).mono ?_; exact Xf; exact Xf; exact Xf; exact Xf; rintro e w1 ⟨rfl, hb⟩; clear HV; have n_ := Aside0.mk (Env.below Xe hb); have nb_ := Aside0.mk (below_step (w := w) Xb hb); have hz1 := hb.size; (try simp at hz1); clear HE HB; have HE := n_; have HB := nb_; clear n_ nb_; have HX := Aside0.mk (Vr.below (g := w.heap.size) Z5 hb); have HY := Aside0.mk (Vr.below (g := w.heap.size + 1) Z5 hb); have HR := Aside0.mk (Vr.below (g := w.heap.size + 1 + 1) Z5 hb); (first | obtain ⟨hc_HX, hf_HX, hl_HX⟩ := Vr.q3 HX.out | (obtain ⟨hc_HX, hf_HX, hl_HX⟩ := Vr.p3 HX.out; (try simp at hc_HX))); (first | obtain ⟨hc_HY, hf_HY, hl_HY⟩ := Vr.q3 HY.out | (obtain ⟨hc_HY, hf_HY, hl_HY⟩ := Vr.p3 HY.out; (try simp at hc_HY))); (first | obtain ⟨hc_HR, hf_HR, hl_HR⟩ := Vr.q3 HR.out | (obtain ⟨hc_HR, hf_HR, hl_HR⟩ := Vr.p3 HR.out; (try simp at hc_HR))); clear hb))
  go_region_held3 (fun w' => w'.cell? ⟨w.heap.size, 1, none⟩ = some (.slice A1 p.length c1) ∧ w'.cell? ⟨w.heap.size, 2, none⟩ = some (.slice A2 q.length c2) ∧ w'.cell? ⟨w.heap.size + 1, 1, none⟩ = some (.slice A3 p'.length c3) ∧ w'.cell? ⟨w.heap.size + 1, 2, none⟩ = some (.slice A4 q'.length c4)) ((repeat' apply And.intro) <;> (first | exact hc_HX.1 | exact hc_HX.2.1 | exact hc_HX.2.2 | exact hc_HY.1 | exact hc_HY.2.1 | exact hc_HY.2.2 | (rw [bc (w := w1) Z29 (by omega)]; first | exact hc_HX.1 | exact hc_HX.2.1 | exact hc_HX.2.2 | exact hc_HY.1 | exact hc_HY.2.1 | exact hc_HY.2.2))) (first | (go_at_call 63; refine (sem_product _ Value.nilFunc Value.nilFunc _ _ _ _ _ _).mono ?_; rintro e w2 ⟨rfl, rfl⟩; simp only [prodF, prodW]) | (go_at_call 62; refine (sem_two' (B := B) (a := p) (b := p') (c := q) (d := q') (A1 := A1) (c1 := c1) (A2 := A3) (c2 := c3) (A3 := A2) (c3 := c2) (A4 := A4) (c4 := c4) (o1 := Value.slice none 0 0) (o2 := Value.slice none 0 0) (t1 := 78) (t2 := 78) (tS := 76) (gS := w1.heap.size + 1 + 1 + 1 + 1 + 1 + 1 + 1 + 1) (gP := w1.heap.size) (gQ := w1.heap.size + 1) (gp1 := w1.heap.size + 1 + 1) (ga1 := w1.heap.size + 1 + 1 + 1) (gb1 := w1.heap.size + 1 + 1 + 1 + 1) (gp2 := w1.heap.size + 1 + 1 + 1 + 1 + 1) (ga2 := w1.heap.size + 1 + 1 + 1 + 1 + 1 + 1) (gb2 := w1.heap.size + 1 + 1 + 1 + 1 + 1 + 1 + 1) HM.out.1 HM.out.2 ?_ ?_ ?_ ?_ ?_ ?_ ?_ ?_ ?_ (by omega) (by omega) ?_ ?_ ?_ ?_).mono ?_; simp only [prodF]; exact Xv; exact Xv; exact Xv; exact Xv; exact Xv; exact Xv; exact Xv; exact Xv; exact Xv; exact Xf; exact Xf; exact Xf; exact Xf; rintro e w4 ⟨rfl, hm, hr⟩; rw [if_pos rfl]; obtain ⟨A5, k5, A6, k6, hP, hQ, f1, f2⟩ := hr rfl; have n_ := Aside0.mk (Env.cons (Env.cons (Env.mv Xe hm (Ours.one (g := w1.heap.size) Z5 (by decide) (by omega) (Ours.one (g := w1.heap.size + 1) Z5 (by decide) (by omega) Ours.none))) (f1)) (f2)); have nb_ := Aside0.mk (Below.mv Xb hm (by rintro g_ (rfl | rfl | h); omega; omega; exact h.elim)); have nx_HX := Aside0.mk (Vr.mv (g := w.heap.size) Z5 hm Z21); have nx_HY := Aside0.mk (Vr.mv (g := w.heap.size + 1) Z5 hm Z21); have nx_HR := Aside0.mk (Vr.mv (g := w.heap.size + 1 + 1) Z5 hm Z21); have hz4 := hm.size; (try simp at hz4); clear HE HB HX HY HR; have HE := n_; have HB := nb_; clear n_ nb_; (try clear hc_HX); (try clear hf_HX); (try clear hl_HX); (try clear hc_HY); (try clear hf_HY); (try clear hl_HY); (try clear hc_HR); (try clear hf_HR); (try clear hl_HR); have HX := nx_HX; clear nx_HX; (first | obtain ⟨hc_HX, hf_HX, hl_HX⟩ := Vr.q3 HX.out | (obtain ⟨hc_HX, hf_HX, hl_HX⟩ := Vr.p3 HX.out; (try simp at hc_HX))); have HY := nx_HY; clear nx_HY; (first | obtain ⟨hc_HY, hf_HY, hl_HY⟩ := Vr.q3 HY.out | (obtain ⟨hc_HY, hf_HY, hl_HY⟩ := Vr.p3 HY.out; (try simp at hc_HY))); have HR := nx_HR; clear nx_HR; (first | obtain ⟨hc_HR, hf_HR, hl_HR⟩ := Vr.q3 HR.out | (obtain ⟨hc_HR, hf_HR, hl_HR⟩ := Vr.p3 HR.out; (try simp at hc_HR))); clear hm; have HP := Aside0.mk hP; have HQ := Aside0.mk hQ; clear hP hQ; (first | obtain ⟨hc_HP, hf_HP, hl_HP⟩ := Vr.q1 HP.out | (obtain ⟨hc_HP, hf_HP, hl_HP⟩ := Vr.p1 HP.out; (try simp at hc_HP))); (first | obtain ⟨hc_HQ, hf_HQ, hl_HQ⟩ := Vr.q1 HQ.out | (obtain ⟨hc_HQ, hf_HQ, hl_HQ⟩ := Vr.p1 HQ.out; (try simp at hc_HQ)))))
  go_wp2_with (first | (go_at_call 64; refine (sem_reduced (B := B) _ (p := m1) (q := m2) (by omega) ?_ ?_ HO.out.1 HO.out.2.1 HO.out.2.2).mono ?_; exact Xf; exact Xf; rw [HRR.out]; rintro e w5 ⟨v5, rfl, ⟨A7, c7, A8, c8, rfl, hs1, hs2⟩, hb⟩; have n_ := Aside0.mk (Env.cons (Env.cons (Env.below Xe hb) (hs1)) (hs2)); have nb_ := Aside0.mk (below_step (w := w) Xb hb); have hz5 := hb.size; (try simp at hz5); clear HE HB; have HE := n_; have HB := nb_; clear n_ nb_; replace HX := Aside0.mk (Vr.below (g := w.heap.size) Z5 hb); replace HY := Aside0.mk (Vr.below (g := w.heap.size + 1) Z5 hb); replace HR := Aside0.mk (Vr.below (g := w.heap.size + 1 + 1) Z5 hb); replace HP := Aside0.mk (Vr.below (g := w1.heap.size) Z5 hb); replace HQ := Aside0.mk (Vr.below (g := w1.heap.size + 1) Z5 hb); (try clear hc_HX hf_HX hl_HX); (try clear hc_HY hf_HY hl_HY); (try clear hc_HR hf_HR hl_HR); (try clear hc_HP hf_HP hl_HP); (try clear hc_HQ hf_HQ hl_HQ); (first | obtain ⟨hc_HX, hf_HX, hl_HX⟩ := Vr.q3 HX.out | (obtain ⟨hc_HX, hf_HX, hl_HX⟩ := Vr.p3 HX.out; (try simp at hc_HX))); (first | obtain ⟨hc_HY, hf_HY, hl_HY⟩ := Vr.q3 HY.out | (obtain ⟨hc_HY, hf_HY, hl_HY⟩ := Vr.p3 HY.out; (try simp at hc_HY))); (first | obtain ⟨hc_HR, hf_HR, hl_HR⟩ := Vr.q3 HR.out | (obtain ⟨hc_HR, hf_HR, hl_HR⟩ := Vr.p3 HR.out; (try simp at hc_HR))); (first | obtain ⟨hc_HP, hf_HP, hl_HP⟩ := Vr.q1 HP.out | (obtain ⟨hc_HP, hf_HP, hl_HP⟩ := Vr.p1 HP.out; (try simp at hc_HP))); (first | obtain ⟨hc_HQ, hf_HQ, hl_HQ⟩ := Vr.q1 HQ.out | (obtain ⟨hc_HQ, hf_HQ, hl_HQ⟩ := Vr.p1 HQ.out; (try simp at hc_HQ))); clear hb))
  all_goals
    refine bodyPost_ret (results_list (rs := [.cell 4 27, .tmp 5]) rfl (by simp) (vals_vr Xv rfl Try.underlying27 rfl Z6 (.tmp .nil))) rfl ?_
    exact ⟨_, rfl, ⟨_, _, _, _, rfl, Xf, Xf⟩, Xb⟩
end Go.Proofs.Ytbjamhkhocjdkaa.Px
