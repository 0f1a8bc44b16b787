/- The functions of the program as functions of values, a further part: a proof's lemmas, with no condition of their own. -/
import Derived.Test.YtbjamhkhocjdkaaFaa
import Derived.Test.YtbjamhkhocjdkaaFab
import Derived.Test.YtbjamhkhocjdkaaFac
import Derived.Test.YtbjamhkhocjdkaaFad
import Derived.Test.YtbjamhkhocjdkaaFae
set_option linter.unusedVariables false
set_option linter.unusedSimpArgs false
namespace Go.Proofs.Ytbjamhkhocjdkaa.Px
open Go.Proofs.Ytbjamhkhocjdkaa.Wd Go.Proofs.Ytbjamhkhocjdkaa.Mat
set_option linter.unusedVariables false
theorem add_eq {x y z : Rt} (h : addR x y = (z, 0)) : nn z * (dd x * dd y) = (nn x * dd y + nn y * dd x) * dd z := (addR_ok h).elim (fun h => h.2.2.2.2) (fun h => absurd rfl h.1)
theorem sub_eq {x y z : Rt} (h : subR x y = (z, 0)) : nn z * (dd x * dd y) = (nn x * dd y - nn y * dd x) * dd z := (subR_ok h).elim (fun h => h.2.2.2.2) (fun h => absurd rfl h.1)
theorem mul_eq {x y z : Rt} (h : mulR x y = (z, 0)) : nn z * (dd x * dd y) = nn x * nn y * dd z := (mulR_ok h).elim (fun h => h.2.2.2.2) (fun h => absurd rfl h.1)
theorem dpos {x : Rt} {a b : Nat} (h : bd x a b) : 0 < dd x := (rv_facts h.1).1
theorem cancel {a b k : Int} (hk : 0 < k) (h : a * k = b * k) : a = b := Int.eq_of_mul_eq_mul_right (show k ≠ 0 by omega) h
/-- A step: white water afterwards. -/
theorem done_val {f r c : Int} {x : Rt} (hc : checkS f r c = 0) (hx : bd x 3 3) : ∃ w, (doneR f r c x).2.2 = w ∧ bd w 13 10 ∧ nn w * (1000000 * dd x) = (f * dd x + nn x) * ((1000 - r) * c) * dd w := by
  obtain ⟨⟨f1, f2⟩, ⟨r1, r2⟩, c1, c2⟩ := checkS_zero hc
  have p1 : pw 1 = 1000000000 := pw_one
  have p2 : pw 2 = 1000000000000000000 := pw_two
  obtain ⟨F, hF, bF, vF⟩ := make_bd (p := f) (q := 1) (a := 2) (b := 1) f1 f2 (by decide) (by decide) (by omega) (by omega)
  obtain ⟨u, hu, bu, vu⟩ := make_bd (p := r) (q := 1000) (a := 1) (b := 1) (by omega) (by omega) (by decide) (by decide) (by omega) (by omega)
  obtain ⟨v, hv, bv, vv⟩ := make_bd (p := c) (q := 1000) (a := 1) (b := 1) (by omega) (by omega) (by decide) (by decide) (by omega) (by omega)
  obtain ⟨h, hh, bh⟩ := add_bd 6 bF hx (by decide) (by decide) (by decide) (by decide)
  obtain ⟨a, ha, ba⟩ := mul_bd bh bu (by decide) (by decide)
  obtain ⟨rs, hrs, brs⟩ := sub_bd 12 bh ba (by decide) (by decide) (by decide) (by decide)
  obtain ⟨w, hw, bw⟩ := mul_bd brs bv (by decide) (by decide)
  refine ⟨w, ?_, bw, ?_⟩
  · unfold doneR timesR
    simp only [hF, hu, hv, hh, ha, hrs, hw]
  have e1 := add_eq hh
  have e2 := mul_eq ha
  have e3 := sub_eq hrs
  have e4 := mul_eq hw
  have dF := dpos bF; have du := dpos bu; have dv := dpos bv; have dh := dpos bh; have da := dpos ba; have dr := dpos brs; have dw := dpos bw; have dx := dpos hx
  rw [Int.mul_one] at vF
  -- the head
  have h1 : nn h * dd x = (f * dd x + nn x) * dd h := by
    refine cancel dF ?_
    rw [vF] at e1
    grind
  -- the paper: a thousandth times r
  have h2 : nn a * (1000 * dd h) = r * nn h * dd a := by
    refine cancel du ?_
    grind
  -- the rest
  have h3 : nn rs * (1000 * dd h) = (1000 - r) * nn h * dd rs := by
    refine cancel da ?_
    grind
  have h4 : nn w * (1000 * dd rs) = c * nn rs * dd w := by
    refine cancel dv ?_
    grind
  have h5 : nn w * (1000000 * dd h) = (1000 - r) * c * nn h * dd w := by
    refine cancel dr ?_
    grind
  refine cancel dh ?_
  grind
theorem steady_facts {f r c : Int} (hc : checkS f r c = 0) : ∃ s, timesR (makeS f 1).1 ((1000 - r) * c) (1000000 - (1000 - r) * c) = s ∧ bd s 3 2 ∧ s.neg = false ∧ nn s * (1000000 - (1000 - r) * c) = f * ((1000 - r) * c) * dd s := by
  obtain ⟨⟨f1, f2⟩, ⟨r1, r2⟩, c1, c2⟩ := checkS_zero hc
  have p1 : pw 1 = 1000000000 := pw_one
  have p2 : pw 2 = 1000000000000000000 := pw_two
  have k0 : 0 ≤ (1000 - r) * c := Int.mul_nonneg (by omega) c1
  have k1 : (1000 - r) * c ≤ 998001 := by
    have h1 : (1000 - r) * c ≤ 999 * c := Int.mul_le_mul_of_nonneg_right (by omega) c1
    omega
  generalize (1000 - r) * c = k at *
  obtain ⟨F, hF, bF, vF⟩ := make_bd (p := f) (q := 1) (a := 2) (b := 1) f1 f2 (by decide) (by decide) (by omega) (by omega)
  obtain ⟨t, ht, bt, vt⟩ := make_bd (p := k) (q := 1000000 - k) (a := 1) (b := 1) k0 (by omega) (by omega) (by omega) (by omega) (by omega)
  obtain ⟨s, hs, bs⟩ := mul_bd bF bt (by decide) (by decide)
  refine ⟨s, by unfold timesR; rw [hF, ht, hs], bs, ?_, ?_⟩
  · have := timesR_neg (x := (makeS f 1).1) (n := k) (m := 1000000 - k) (makeS_neg f1 (by decide)) k0 (by omega)
    unfold timesR at this
    rwa [hF, ht, hs] at this
  · have e := mul_eq hs
    rw [Int.mul_one] at vF
    have dF := dpos bF; have dt := dpos bt
    refine cancel dF (cancel dt ?_)
    rw [vF] at e
    grind
theorem white_bd {x : Rt} {a b : Nat} (h : bd x a b) (ha : a ≤ 8) (hb : b ≤ 8) (hn : x.neg = false) : whiteS x = 0 := by
  obtain ⟨x1, x2, _⟩ := rvB_iff.1 h.1
  have l1 := (len_le (okN_iff.1 x1).2).2 h.2.1
  have l2 := (len_le (okN_iff.1 x2).2).2 h.2.2
  unfold whiteS
  rw [if_pos h.1, if_neg (by simp [hn]), if_neg (by omega)]
theorem bd_mono {x : Rt} {a b a' b' : Nat} (h : bd x a b) (ha : a ≤ a') (hb : b ≤ b') : bd x a' b' := by
  have := pwle ha
  have := pwle hb
  exact ⟨h.1, by have := h.2.1; omega, by have := h.2.2; omega⟩
/-- The steady state is left as it is; its paper and sewer are the fresh fibre. -/
theorem steady_step {f r c : Int} {s : Rt} (hc : checkS f r c = 0) (bs : bd s 3 2) (vs : nn s * (1000000 - (1000 - r) * c) = f * ((1000 - r) * c) * dd s) : ∃ a b, doneR f r c s = (a, b, s) ∧ rvB a = true ∧ rvB b = true ∧ addR a b = ((makeS f 1).1, 0) := by
  have b3 := bd_mono bs (Nat.le_refl 3) (show 2 ≤ 3 by decide)
  obtain ⟨a, b, w, s', t, ed, va, vb, vw, e1, e2, e3⟩ := balance hc b3
  obtain ⟨w', hw, bw, ew⟩ := done_val hc b3
  rw [ed] at hw
  dsimp only at hw
  subst hw
  have ds := dpos bs
  have dw := dpos bw
  have ws : w = s := by
    refine canon vw bs.1 ?_
    refine cancel (show (0 : Int) < 1000000 by decide) (cancel ds ?_)
    grind
  subst ws
  obtain ⟨⟨f1, f2⟩, _⟩ := checkS_zero hc
  have p2 : pw 2 = 1000000000000000000 := pw_two
  have p1 : pw 1 = 1000000000 := pw_one
  obtain ⟨F, hF, bF, vF⟩ := make_bd (p := f) (q := 1) (a := 2) (b := 1) f1 f2 (by decide) (by decide) (by omega) (by omega)
  rw [hF] at e3 ⊢
  have q2 := add_eq e2
  have q3 := add_eq e3
  have vs' : rvB s' = true := (addR_ok e1).elim (fun h => h.2.2.2.1) (fun h => absurd rfl h.1)
  have vt : rvB t = true := (addR_ok e2).elim (fun h => h.2.2.2.1) (fun h => absurd rfl h.1)
  have ds' := (rv_facts vs').1
  have dt := (rv_facts vt).1
  have dF := dpos bF
  have : s' = F := by
    refine canon vs' bF.1 ?_
    refine cancel ds (cancel ds (cancel dt ?_))
    grind
  subst this
  exact ⟨a, b, ed, va, vb, e1⟩
theorem alg1 {Np Dd DK Nd NK Dp k : Int} (hK : 0 < DK) (vK : NK * 1000000 = k * DK) (e2 : Np * (Dd * DK) = Nd * NK * Dp) : Np * (1000000 * Dd) = k * Nd * Dp := by
  refine cancel hK ?_
  grind
theorem alg2 {Np Dd Nd Dp k Dx Ds M : Int} (hd : 0 < Dd) (g : Np * (1000000 * Dd) = k * Nd * Dp) (e1 : Nd * (Dx * Ds) = M * Dd) : Np * (1000000 * (Dx * Ds)) = k * M * Dp := by
  refine cancel hd ?_
  grind
theorem alg3 {Nq Dw Ds Nw Ns Dq k Dx Nx F : Int} (hw : 0 < Dw) (vs : Ns * (1000000 - k) = F * k * Ds) (ew : Nw * (1000000 * Dx) = (F * Dx + Nx) * k * Dw) (e3 : Nq * (Dw * Ds) = (Nw * Ds - Ns * Dw) * Dq) : Nq * (1000000 * (Dx * Ds)) = k * (Nx * Ds - Ns * Dx) * Dq := by
  refine cancel hw ?_
  have h1 : Nq * (1000000 * (Dx * Ds)) * Dw = (Nw * Ds - Ns * Dw) * Dq * (1000000 * Dx) := by grind
  have h2 : (Nw * Ds - Ns * Dw) * (1000000 * Dx) = k * (Nx * Ds - Ns * Dx) * Dw := by grind
  grind
theorem alg4 {P Q A B M X : Int} (hX : 0 < X) (h1 : P * (1000000 * X) = M * A) (h2 : Q * (1000000 * X) = M * B) : P * B = Q * A := by
  refine cancel (show (0 : Int) < 1000000 by decide) (cancel hX ?_)
  grind
/-- The distance to the steady state is multiplied by one factor. -/
theorem steady_dist {f r c : Int} {s x : Rt} (hc : checkS f r c = 0) (bs : bd s 3 2) (vs : nn s * (1000000 - (1000 - r) * c) = f * ((1000 - r) * c) * dd s) (hx : bd x 3 3) :
    ∃ w, (doneR f r c x).2.2 = w ∧ rvB w = true ∧ (mulR (subR x s).1 (makeS ((1000 - r) * c) 1000000).1).1 = (subR w s).1 := by
  obtain ⟨w, hw, bw, ew⟩ := done_val hc hx
  obtain ⟨_, ⟨r1, r2⟩, c1, c2⟩ := checkS_zero hc
  have p1 : pw 1 = 1000000000 := pw_one
  have k0 : 0 ≤ (1000 - r) * c := Int.mul_nonneg (by omega) c1
  have k1 : (1000 - r) * c ≤ 998001 := by
    have h1 : (1000 - r) * c ≤ 999 * c := Int.mul_le_mul_of_nonneg_right (by omega) c1
    omega
  refine ⟨w, hw, bw.1, ?_⟩
  generalize (1000 - r) * c = k at *
  obtain ⟨K, hK, bK, vK⟩ := make_bd (p := k) (q := 1000000) (a := 1) (b := 1) k0 (by omega) (by decide) (by decide) (by omega) (by omega)
  obtain ⟨d, hd, bd'⟩ := sub_bd 7 hx bs (by decide) (by decide) (by decide) (by decide)
  obtain ⟨p, hp, bp⟩ := mul_bd bd' bK (by decide) (by decide)
  obtain ⟨q, hq, bq⟩ := sub_bd 16 bw bs (by decide) (by decide) (by decide) (by decide)
  rw [hd, hK, hp, hq]
  have ds := dpos bs; have dw := dpos bw; have dx := dpos hx; have dK := dpos bK; have dd' := dpos bd'
  have e1 := sub_eq hd
  have e2 := mul_eq hp
  have e3 := sub_eq hq
  have g1 := alg1 dK vK e2
  have g2 := alg2 dd' g1 e1
  have g3 := alg3 dw vs ew e3
  exact canon bp.1 bq.1 (alg4 (Int.mul_pos dx ds) g2 g3)
end Go.Proofs.Ytbjamhkhocjdkaa.Px
namespace Go.Proofs.Ytbjamhkhocjdkaa.Pw
open Go Wd Px Mat
set_option linter.unusedVariables false
set_option linter.unusedSimpArgs false
set_option maxRecDepth 100000
set_option maxHeartbeats 8000000
attribute [local irreducible] Int.tmod Int.tdiv
theorem white_vals (x : Rt) : whiteS x = 0 ∨ whiteS x = 1 ∨ whiteS x = 3 ∨ whiteS x = 32 := by
  rcases white_cases x with ⟨_, e⟩ | ⟨_, _, e⟩ | ⟨_, _, _, e⟩ | ⟨_, _, _, _, e⟩ | ⟨_, _, _, _, e⟩ <;> simp [e]
theorem check_vals (f r c : Int) : checkS f r c = 0 ∨ checkS f r c = 1 ∨ checkS f r c = 18 := by
  rcases check_cases f r c with ⟨_, e⟩ | ⟨_, _, e⟩ | ⟨_, _, _, e⟩ | ⟨_, _, _, _, e⟩ | ⟨_, _, _, _, _, e⟩ | ⟨_, _, _, _, _, _, e⟩ | ⟨_, _, _, _, _, _, e⟩ <;> simp [e]
theorem WetSteady.c (f r c : Int) (x : Rt) : Sound Try.prog 7 [Wt f r c, R x] (B true) := by
  by_cases hc : checkS f r c = 0
  rotate_left
  · have c1 := wet_Steady.bad f r c hc
    obtain ⟨xn, xp, xq⟩ := x
    rcases check_vals f r c with e | e | e <;> rw [e] at c1
    · exact absurd e hc
    all_goals exact runL tok mixed [16, 15, 26, 17, 10, 13, 24, 23, 25, 27, 28, 29, 14] 300 6 (Good.cons c1 (Good.cons awake.c Good.nil)) (by kernel_rfl)
  obtain ⟨s, es, bs, ns, vs⟩ := steady_facts hc
  obtain ⟨a, b, ed, va, vb, e1⟩ := steady_step hc bs vs
  have ws : whiteS s = 0 := white_bd bs (by decide) (by decide) ns
  have hbs : beginS f r c s = 0 := by unfold beginS; rw [if_pos hc, ws]
  have hw := checkS_zero hc
  have c1 := wet_Steady.ok f r c hc
  rw [show steadyR f r c = s from es] at c1
  have c2 := r20_Check.c f r c
  rw [hc] at c2
  have c3 := r3_Valid.c s
  rw [bs.1] at c3
  have c4 := r20_White.c s
  rw [ws] at c4
  have c5 := wet_Step.ok f r c s hbs
  rw [ed] at c5
  have c6 := r3_Valid.c a
  have c7 := r3_Valid.c b
  rw [va] at c6; rw [vb] at c7
  have c8 := r3_Add.c a b
  rw [e1] at c8
  have c9 := same.c s
  have c10 := whole.c f (by omega)
  have c11 := same.c (makeS f 1).1
  have c12 := light.c x
  have c13 := r20_White.c x
  by_cases hl : lightS x = true
  rotate_left
  · replace hl : lightS x = false := by simpa using hl
    rw [hl] at c12
    generalize makeS f 1 = F at *
    clear hbs ws ed e1 va vb bs vs es
    obtain ⟨xn, xp, xq⟩ := x; obtain ⟨sn, sp, sq⟩ := s; obtain ⟨an, ap, aq⟩ := a; obtain ⟨bn, bp, bq⟩ := b; obtain ⟨⟨Fn, Fp, Fq⟩, Fe⟩ := F
    exact runL tok mixed [16, 15, 26, 17, 10, 13, 24, 23, 25, 27, 28, 29, 14] 300 6 (Good.cons c1 (Good.cons c2 (Good.cons c3 (Good.cons c4 (Good.cons c5 (Good.cons c6 (Good.cons c7 (Good.cons c8 (Good.cons c9 (Good.cons c10 (Good.cons c11 (Good.cons c12 (Good.cons awake.c Good.nil))))))))))))) (by kernel_rfl)
  rw [hl] at c12
  by_cases hx : whiteS x = 0
  rotate_left
  · generalize makeS f 1 = F at *
    clear hbs ws ed e1 va vb bs vs es
    obtain ⟨xn, xp, xq⟩ := x; obtain ⟨sn, sp, sq⟩ := s; obtain ⟨an, ap, aq⟩ := a; obtain ⟨bn, bp, bq⟩ := b; obtain ⟨⟨Fn, Fp, Fq⟩, Fe⟩ := F
    rcases white_vals ⟨xn, xp, xq⟩ with e | e | e | e <;> rw [e] at c13
    · exact absurd e hx
    all_goals exact runL tok mixed [16, 15, 26, 17, 10, 13, 24, 23, 25, 27, 28, 29, 14] 300 6 (Good.cons c1 (Good.cons c2 (Good.cons c3 (Good.cons c4 (Good.cons c5 (Good.cons c6 (Good.cons c7 (Good.cons c8 (Good.cons c9 (Good.cons c10 (Good.cons c11 (Good.cons c12 (Good.cons c13 (Good.cons awake.c Good.nil)))))))))))))) (by kernel_rfl)
  rw [hx] at c13
  obtain ⟨w, hw2, vw, ew⟩ := steady_dist hc bs vs (light_bd hl hx)
  have d1 := wet_Step.ok f r c x (by unfold beginS; rw [if_pos hc, hx])
  rw [hw2] at d1
  have d2 := r3_Valid.c w
  rw [vw] at d2
  obtain ⟨hA, _⟩ := raw_back hc
  obtain ⟨k1, k2⟩ := back_facts hc
  have d3 := r3_Make.c (IntKind.i64.wrap (IntKind.i64.wrap (1000 - r) * c)) 1000000 (by omega) (by decide)
  rw [show makeS (IntKind.i64.wrap (IntKind.i64.wrap (1000 - r) * c)) 1000000 = makeS ((1000 - r) * c) 1000000 by rw [hA]] at d3
  generalize makeS ((1000 - r) * c) 1000000 = K at *
  have d4 := r3_Sub.c x s
  generalize subR x s = d at *
  have d5 := r3_Mul.c d.1 K.1
  generalize mulR d.1 K.1 = p at *
  have d6 := r3_Sub.c w s
  generalize subR w s = q at *
  have d7 := same.c p.1
  have hq : Sound Try.prog 14 [R p.1, R q.1] (B true) := by rw [← ew]; exact d7
  generalize (doneR f r c x).1 = y1 at *
  generalize (doneR f r c x).2.1 = y2 at *
  generalize makeS f 1 = F at *
  clear hbs ws ed e1 va vb bs vs es ew hw2 vw d7 hA
  obtain ⟨xn, xp, xq⟩ := x; obtain ⟨sn, sp, sq⟩ := s; obtain ⟨an, ap, aq⟩ := a; obtain ⟨bn, bp, bq⟩ := b; obtain ⟨⟨Fn, Fp, Fq⟩, Fe⟩ := F
  obtain ⟨wn, wp, wq⟩ := w; obtain ⟨⟨Kn, Kp, Kq⟩, Ke⟩ := K; obtain ⟨⟨dn, dp, dq⟩, de⟩ := d; obtain ⟨⟨pn, pp, pq⟩, pe⟩ := p; obtain ⟨⟨qn, qp, qq⟩, qe⟩ := q; obtain ⟨y1n, y1p, y1q⟩ := y1; obtain ⟨y2n, y2p, y2q⟩ := y2
  dsimp only at *
  exact runL tok mixed [16, 15, 26, 17, 10, 13, 24, 23, 25, 27, 28, 29, 14] 300 6 (Good.cons c1 (Good.cons c2 (Good.cons c3 (Good.cons c4 (Good.cons c5 (Good.cons c6 (Good.cons c7 (Good.cons c8 (Good.cons c9 (Good.cons c10 (Good.cons c11 (Good.cons c12 (Good.cons c13 (Good.cons d1 (Good.cons d2 (Good.cons d3 (Good.cons d4 (Good.cons d5 (Good.cons d6 (Good.cons hq (Good.cons awake.c Good.nil))))))))))))))))))))) (by kernel_rfl)
end Go.Proofs.Ytbjamhkhocjdkaa.Pw
