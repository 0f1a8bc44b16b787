/- One step on the way to the rows: contracts of the program's functions, each for every argument that its statement names. -/
import Derived.Test.YtbjamhkhocjdkaaDb
namespace Go.Proofs.Ytbjamhkhocjdkaa.Px
open Go.RowKit Go.Proofs.YtbjamhkhocjdkaaW.PrintWords Go.Proofs.YtbjamhkhocjdkaaW.PrintLast Go.Proofs.YtbjamhkhocjdkaaW.PrintMore Go.Proofs.Ytbjamhkhocjdkaa.Mat
set_option linter.unusedVariables false
theorem tdiv_e {a b : Int} (h : 0 ≤ a) : Int.tdiv a b = a / b := Int.tdiv_eq_ediv_of_nonneg h
theorem tmod_e {a b : Int} (h : 0 ≤ a) : Int.tmod a b = a % b := Int.tmod_eq_emod_of_nonneg h
theorem padded_e (l : List Int) (n : Int) (h : n ≤ 1000000000) (hl : l.length ≤ 1000000000) : nat_padded.f l n = some (l ++ List.replicate (n.toNat - l.length) 0) := by
  unfold nat_padded.f
  rw [if_pos]
  unfold mx
  split <;> omega
theorem ev_Add_l0 (b : List Int) (hb : Dig b) (hbl : b.length ≤ 1000) (S : Int) : ∀ (d : Nat) (x : List Int) (c i : Int), Dig x → x.length ≤ 1000 → 0 ≤ i → i ≤ x.length → (x.length : Int) - i = d → b.length ≤ x.length →
    0 ≤ c → c ≤ 1 → val x + (c + val (b.drop i.toNat)) * pw i.toNat = S → S < pw x.length →
    Ev (fun k => nat_Add.l0 k b x c x.length i) (fitS S) := by
  intro d
  induction d with
  | zero =>
    intro x c i hx hxl h0 h1 hd hbx hc0 hc1 hS hSl
    have e : b.drop i.toNat = [] := List.drop_eq_nil_of_le (by omega)
    have ei : i.toNat = x.length := by omega
    rw [e, ei] at hS
    simp only [val, Int.add_zero] at hS
    have hv := val_nonneg hx
    have hp := pw_pos x.length
    have hc : c = 0 := by
      rcases (show c = 0 ∨ c = 1 by omega) with h | h
      · exact h
      · rw [h] at hS; omega
    rw [hc] at hS
    have hS' : val x = S := by omega
    refine Ev.step (f := fun k => nat_fitted.f k x) (fun k => ?_) (hS' ▸ ev_fitted x hx (by omega))
    simp only [nat_Add.l0]
    rw [if_neg (by omega)]
    cases nat_fitted.f k x with
    | none => rfl
    | some p => rfl
  | succ d ih =>
    intro x c i hx hxl h0 h1 hd hbx hc0 hc1 hS hSl
    have ei : (i + 1).toNat = i.toNat + 1 := by omega
    have hr := hx.rd i
    by_cases cb : i < b.length
    · have hrb := hb.rd i
      have hsum : 0 ≤ rd x i + c + rd b i := by omega
      have hvb := val_drop (l := b) h0 cb
      have hm := Int.emod_add_mul_ediv (rd x i + c + rd b i) 1000000000
      have hs := val_set (l := x) ((rd x i + c + rd b i) % 1000000000) h0 (by omega)
      have hlen : (x.set i.toNat ((rd x i + c + rd b i) % 1000000000)).length = x.length := List.length_set
      have := ih (x.set i.toNat ((rd x i + c + rd b i) % 1000000000)) ((rd x i + c + rd b i) / 1000000000) (i + 1) (hx.set _ (by omega)) (by omega) (by omega) (by omega) (by omega) (by omega) (by omega) (by omega)
        (by rw [hs, ei, pw_succ]; rw [hvb] at hS; grind) (by rw [hlen]; exact hSl)
      rw [hlen] at this
      refine Ev.step (fun k => ?_) this
      simp only [nat_Add.l0]
      rw [if_pos (by omega), if_pos h0, if_pos (by omega), if_pos cb, w64 (x := rd x i + c) (by omega) (by omega), w64 (x := rd x i + c + rd b i) (by omega) (by omega), tmod_e hsum, tdiv_e hsum, w64 (by omega) (by omega), w64 (by omega) (by omega)]
    · have hsum : 0 ≤ rd x i + c := by omega
      have e1 : b.drop i.toNat = [] := List.drop_eq_nil_of_le (by omega)
      have e2 : b.drop (i.toNat + 1) = [] := List.drop_eq_nil_of_le (by omega)
      have hm := Int.emod_add_mul_ediv (rd x i + c) 1000000000
      have hs := val_set (l := x) ((rd x i + c) % 1000000000) h0 (by omega)
      have hlen : (x.set i.toNat ((rd x i + c) % 1000000000)).length = x.length := List.length_set
      have := ih (x.set i.toNat ((rd x i + c) % 1000000000)) ((rd x i + c) / 1000000000) (i + 1) (hx.set _ (by omega)) (by omega) (by omega) (by omega) (by omega) (by omega) (by omega) (by omega)
        Z28 (by rw [hlen]; exact hSl)
      rw [hlen] at this
      refine Ev.step (fun k => ?_) this
      simp only [nat_Add.l0]
      rw [if_pos (by omega), if_pos h0, if_pos (by omega), if_neg cb, w64 (x := rd x i + c) (by omega) (by omega), tmod_e hsum, tdiv_e hsum, w64 (by omega) (by omega), w64 (by omega) (by omega)]
def addS (a b : List Int) : List Int × Int := if okN a = true ∧ okN b = true then fitS (val a + val b) else ([], 3)
theorem ev_Add (a b : List Int) : Ev (fun k => nat_Add.f k a b) (addS a b) := by
  unfold addS
  by_cases ca : okN a = true
  · by_cases cb : okN b = true
    · rw [if_pos ⟨ca, cb⟩]
      have oa := okN_iff.1 ca
      have ob := okN_iff.1 cb
      have hla := oa.1
      have hlb := ob.1
      refine Ev.bind (ev_Valid a) ?_
      rw [ca]
      simp only [if_true]
      refine Ev.bind (ev_Valid b) ?_
      rw [cb]
      have hmx : mx (a.length : Int) (b.length : Int) ≤ 48 ∧ (a.length : Int) ≤ mx (a.length : Int) (b.length : Int) ∧ (b.length : Int) ≤ mx (a.length : Int) (b.length : Int) := by unfold mx; split <;> omega
      obtain ⟨n, hn⟩ : ∃ n : Nat, mx (a.length : Int) (b.length : Int) = n := ⟨(mx (a.length : Int) (b.length : Int)).toNat, by omega⟩
      rw [hn] at hmx
      have hlen : (a ++ List.replicate (((n : Int) + 1).toNat - a.length) 0).length = n + 1 := by simp; omega
      have h1 := val_lt oa.2.1
      have h2 := val_lt ob.2.1
      have h3 := pw_le (show a.length ≤ n by omega)
      have h4 := pw_le (show b.length ≤ n by omega)
      have h5 := pw_pos n
      have := ev_Add_l0 b ob.2.1 (by omega) (val a + val b) (n + 1) (a ++ List.replicate (((n : Int) + 1).toNat - a.length) 0) 0 0 (oa.2.1.append (Dig.rep _)) (by omega) (by omega) (by omega) (by omega) (by omega) (by omega) (by omega)
        (by rw [val_pad]; simp [pw_zero]) (by rw [hlen, pw_succ]; omega)
      refine Ev.step (fun k => ?_) this
      simp only [nat_Add.j0]
      rw [if_neg (by simp), hn, w64 (by omega) (by omega), padded_e _ _ (by omega) (by omega), Option.bind_some]
    · rw [if_neg (fun h => cb h.2)]
      refine Ev.bind (ev_Valid a) ?_
      rw [ca]
      simp only [if_true]
      refine Ev.bind (ev_Valid b) ?_
      rw [Bool.eq_false_iff.2 cb]
      refine Ev.step (f := fun _ => some _) (fun k => ?_) (Ev.now _)
      simp [nat_Add.j0]
  · rw [if_neg (fun h => ca h.1)]
    refine Ev.bind (ev_Valid a) ?_
    rw [Bool.eq_false_iff.2 ca]
    simp only [Bool.false_eq_true, if_false]
    refine Ev.step (f := fun _ => some _) (fun k => ?_) (Ev.now _)
    simp [nat_Add.j0]
theorem ev_Sub_l0 (b : List Int) (hb : Dig b) (hbl : b.length ≤ 1000) (S : Int) (hS0 : 0 ≤ S) : ∀ (d : Nat) (x : List Int) (c i : Int), Dig x → x.length ≤ 1000 → 0 ≤ i → i ≤ x.length → (x.length : Int) - i = d → b.length ≤ x.length →
    0 ≤ c → c ≤ 1 → val x - (c + val (b.drop i.toNat)) * pw i.toNat = S →
    Ev (fun k => nat_Sub.l0 k b x c x.length i) (dg S, 0) := by
  intro d
  induction d with
  | zero =>
    intro x c i hx hxl h0 h1 hd hbx hc0 hc1 hS
    have e : b.drop i.toNat = [] := List.drop_eq_nil_of_le (by omega)
    have ei : i.toNat = x.length := by omega
    rw [e, ei] at hS
    simp only [val, Int.add_zero] at hS
    have hv := val_lt hx
    have hc : c = 0 := by
      rcases (show c = 0 ∨ c = 1 by omega) with h | h
      · exact h
      · rw [h] at hS; omega
    rw [hc] at hS
    have hS' : val x = S := by omega
    refine Ev.step (f := fun k => (nat_trimmed.f k x).bind fun t => some (t, 0)) (fun k => ?_) (Ev.bind (hS' ▸ ev_trimmed x hx (by omega)) (Ev.now _))
    simp only [nat_Sub.l0]
    rw [if_neg (by omega)]
  | succ d ih =>
    intro x c i hx hxl h0 h1 hd hbx hc0 hc1 hS
    have ei : (i + 1).toNat = i.toNat + 1 := by omega
    have hr := hx.rd i
    by_cases cb : i < b.length
    · have hrb := hb.rd i
      have hvb := val_drop (l := b) h0 cb
      by_cases cn : rd x i - c - rd b i < 0
      · have hs := val_set (l := x) (rd x i - c - rd b i + 1000000000) h0 (by omega)
        have hlen : (x.set i.toNat (rd x i - c - rd b i + 1000000000)).length = x.length := List.length_set
        have := ih (x.set i.toNat (rd x i - c - rd b i + 1000000000)) 1 (i + 1) (hx.set _ (by omega)) (by omega) (by omega) (by omega) (by omega) (by omega) (by omega) (by omega)
          (by rw [hs, ei, pw_succ]; rw [hvb] at hS; grind)
        rw [hlen] at this
        refine Ev.step (fun k => ?_) this
        simp only [nat_Sub.l0]
        rw [if_pos (by omega), if_pos h0, if_pos (by omega), if_pos cb, w64 (x := rd x i - c) (by omega) (by omega), w64 (x := rd x i - c - rd b i) (by omega) (by omega), if_pos cn, w64 (by omega) (by omega), w64 (by omega) (by omega)]
      · have hs := val_set (l := x) (rd x i - c - rd b i) h0 (by omega)
        have hlen : (x.set i.toNat (rd x i - c - rd b i)).length = x.length := List.length_set
        have := ih (x.set i.toNat (rd x i - c - rd b i)) 0 (i + 1) (hx.set _ (by omega)) (by omega) (by omega) (by omega) (by omega) (by omega) (by omega) (by omega)
          (by rw [hs, ei, pw_succ]; rw [hvb] at hS; grind)
        rw [hlen] at this
        refine Ev.step (fun k => ?_) this
        simp only [nat_Sub.l0]
        rw [if_pos (by omega), if_pos h0, if_pos (by omega), if_pos cb, w64 (x := rd x i - c) (by omega) (by omega), w64 (x := rd x i - c - rd b i) (by omega) (by omega), if_neg cn, w64 (by omega) (by omega)]
    · have e1 : b.drop i.toNat = [] := List.drop_eq_nil_of_le (by omega)
      have e2 : b.drop (i.toNat + 1) = [] := List.drop_eq_nil_of_le (by omega)
      by_cases cn : rd x i - c < 0
      · have hs := val_set (l := x) (rd x i - c + 1000000000) h0 (by omega)
        have hlen : (x.set i.toNat (rd x i - c + 1000000000)).length = x.length := List.length_set
        have := ih (x.set i.toNat (rd x i - c + 1000000000)) 1 (i + 1) (hx.set _ (by omega)) (by omega) (by omega) (by omega) (by omega) (by omega) (by omega) (by omega)
          Z28
        rw [hlen] at this
        refine Ev.step (fun k => ?_) this
        simp only [nat_Sub.l0]
        rw [if_pos (by omega), if_pos h0, if_pos (by omega), if_neg cb, w64 (x := rd x i - c) (by omega) (by omega), if_pos cn, w64 (by omega) (by omega), w64 (by omega) (by omega)]
      · have hs := val_set (l := x) (rd x i - c) h0 (by omega)
        have hlen : (x.set i.toNat (rd x i - c)).length = x.length := List.length_set
        have := ih (x.set i.toNat (rd x i - c)) 0 (i + 1) (hx.set _ (by omega)) (by omega) (by omega) (by omega) (by omega) (by omega) (by omega) (by omega)
          Z28
        rw [hlen] at this
        refine Ev.step (fun k => ?_) this
        simp only [nat_Sub.l0]
        rw [if_pos (by omega), if_pos h0, if_pos (by omega), if_neg cb, w64 (x := rd x i - c) (by omega) (by omega), if_neg cn, w64 (by omega) (by omega)]
theorem len_of_le {a b : List Int} (ha : Nrm a) (hb : Nrm b) (h : val b ≤ val a) : b.length ≤ a.length := by
  by_cases c : b.length ≤ a.length
  · exact c
  · have := len_lt_val ha hb (by omega); omega
def subS (a b : List Int) : List Int × Int := if okN a = true ∧ okN b = true then (if val a < val b then ([], 1) else (dg (val a - val b), 0)) else ([], 3)
theorem ev_Sub (a b : List Int) : Ev (fun k => nat_Sub.f k a b) (subS a b) := by
  unfold subS
  by_cases ca : okN a = true
  · by_cases cb : okN b = true
    · rw [if_pos ⟨ca, cb⟩]
      have oa := okN_iff.1 ca
      have ob := okN_iff.1 cb
      have hla := oa.1
      have hlb := ob.1
      refine Ev.bind (ev_Valid a) ?_
      rw [ca]
      simp only [if_true]
      refine Ev.bind (ev_Valid b) ?_
      rw [cb]
      by_cases c : val a < val b
      · rw [if_pos c]
        refine Ev.step (f := fun k => (nat_compare.f k a b).bind fun t => if t < 0 then (some (([] : List Int), 1)) else ((nat_padded.f a (a.length : Int)).bind fun t322 => (nat_Sub.l0 k b t322 0 (t322.length : Int) 0))) (fun k => ?_) (Ev.bind (ev_compare a b oa.2 ob.2 (by omega)) ?_)
        · simp only [nat_Sub.j0]; rw [if_neg (by simp)]
        · refine Ev.congr (f := fun _ => some _) (fun k => ?_) (Ev.now _)
          unfold cmpS; rw [if_pos c, if_pos (by omega)]
      · rw [if_neg c]
        have hbl := len_of_le oa.2 ob.2 (by omega)
        have := ev_Sub_l0 b ob.2.1 (by omega) (val a - val b) (by omega) a.length a 0 0 oa.2.1 (by omega) (by omega) (by omega) (by omega) hbl (by omega) (by omega) (by simp [pw_zero])
        refine Ev.step (f := fun k => (nat_compare.f k a b).bind fun t => if t < 0 then (some (([] : List Int), 1)) else ((nat_padded.f a (a.length : Int)).bind fun t322 => (nat_Sub.l0 k b t322 0 (t322.length : Int) 0))) (fun k => ?_) (Ev.bind (ev_compare a b oa.2 ob.2 (by omega)) ?_)
        · simp only [nat_Sub.j0]; rw [if_neg (by simp)]
        · have hcm : ¬ cmpS (val a) (val b) < 0 := by unfold cmpS; rw [if_neg c]; split <;> omega
          refine Ev.congr (fun k => ?_) this
          rw [if_neg hcm, padded_e _ _ (by omega) (by omega), Option.bind_some]
          have e : ((a.length : Int)).toNat - a.length = 0 := by omega
          rw [e]; simp
    · rw [if_neg (fun h => cb h.2)]
      refine Ev.bind (ev_Valid a) ?_
      rw [ca]
      simp only [if_true]
      refine Ev.bind (ev_Valid b) ?_
      rw [Bool.eq_false_iff.2 cb]
      refine Ev.step (f := fun _ => some _) (fun k => ?_) (Ev.now _)
      simp [nat_Sub.j0]
  · rw [if_neg (fun h => ca h.1)]
    refine Ev.bind (ev_Valid a) ?_
    rw [Bool.eq_false_iff.2 ca]
    simp only [Bool.false_eq_true, if_false]
    refine Ev.step (f := fun _ => some _) (fun k => ?_) (Ev.now _)
    simp [nat_Sub.j0]
end Go.Proofs.Ytbjamhkhocjdkaa.Px
namespace Go.Proofs.Ytbjamhkhocjdkaa.Px
open Go.RowKit Go.Proofs.YtbjamhkhocjdkaaW.PrintWords Go.Proofs.YtbjamhkhocjdkaaW.PrintLast Go.Proofs.YtbjamhkhocjdkaaW.PrintMore
set_option linter.unusedVariables false
set_option linter.unusedSimpArgs false
def nat_Of.l0 : Nat → Int → List Int → Option (List Int × Int)
  | 0, _, _ => none
  | k + 1, x0, x4 => if x0 > 0 then (if x4.length < 17592186044416 then (nat_Of.l0 k (wrap64 (Int.tdiv x0 1000000000)) (x4 ++ [Int.tmod x0 1000000000])) else (none)) else (some (x4, 0))
def nat_Of.f (k : Nat) (a0 : Int) : Option (List Int × Int) := if a0 < 0 then (some (([] : List Int), 1)) else (nat_Of.l0 k a0 ([] : List Int))
set_option maxHeartbeats 8000000 in
set_option maxRecDepth 100000 in
theorem nat_Of.calls (k : Nat) (a0 : Int) (r1 : List Int) (r2 : Int) (w : World) (h : nat_Of.f k a0 = some (r1, r2)) :
    Calls Try.prog 81 #[.int .i64 a0] w fun e w' => ∃ v0_ : Value, e = .returned (.tuple #[v0_, .int .i64 r2]) ∧ Kd.R (Kd.int .i64) 3 w' w.heap.size (fun _ => True) v0_ r1 ∧ Below w.heap.size w w' := by
  have HB := Aside0.mk (Below.refl w.heap.size w)
  have H : (if a0 < 0 then (some (([] : List Int), 1)) else (nat_Of.l0 k a0 ([] : List Int))) = some (r1, r2) := h
  clear h
  by_cases c2 : a0 < 0
  · rw [if_pos c2] at H
    have c2b0 : decide (a0 < 0) = true := decide_eq_true c2
    clear c2
    simp only [Option.some.injEq, Prod.mk.injEq] at H
    obtain ⟨rfl, rfl⟩ := H
    go_enter Try.func81, Try.ntmps81
    go_wp2
    go_ret2
    exact ⟨_, by first | rfl | (simp [errW_none, errW_some] <;> rfl) | (simp [*, errW_none, errW_some] <;> rfl), by first | exact Kd.R_nil _ _ _ _ _ | exact Kd.N_nil _ _ _ _ _ | exact Kd.V_nil _ _ _ _ _ | exact Kd.Q_nil _ _ _ _ _ | exact Kd.S_nil _ _ _ _ _, by repeat (first | (with_reducible first | exact HB.out | apply below_alloc | apply pw_below_drewN | apply below_drew1) | exact HB.out)⟩
  · rw [if_neg c2] at H
    have c2b0 : decide (a0 < 0) = false := decide_eq_false c2
    clear c2
    have H' := Aside0.mk H
    clear H
    go_enter Try.func81, Try.ntmps81
    go_wp2
    go_loopg [0, 4] k (fun kq v0 v4 w' => ∃ (x0_1 : Int) (x4_1 : List Int), v0 = .int .i64 x0_1 ∧ Aside0 (nat_Of.l0 kq x0_1 x4_1 = some (r1, r2)) ∧ Aside0 (kq ≤ k) ∧ Aside0 (Kd.R (Kd.int .i64) 3 w' w.heap.size (fun _ => True) v4 x4_1) ∧ Aside0 (Below w.heap.size w w'))
    case atStart => exact ⟨(a0), (([] : List Int)), Z4, H', ⟨Nat.le_refl _⟩, ⟨by first | exact Kd.R_nil _ _ _ _ _ | exact Kd.N_nil _ _ _ _ _ | exact Kd.V_nil _ _ _ _ _ | exact Kd.Q_nil _ _ _ _ _ | exact Kd.S_nil _ _ _ _ _⟩, ⟨by repeat (first | (with_reducible first | exact HB.out | apply below_alloc | apply pw_below_drewN | apply below_drew1) | exact HB.out)⟩⟩
    case round =>
      clear H'
      try clear c2
      try clear c2b0
      try clear p2
      obtain ⟨x0_1, x4_1, rfl, HA, HK1, HO_4, HB⟩ := hrel
      cases gk with
      | zero => exact absurd HA.out (by simp [nat_Of.l0])
      | succ k1 =>
        have H := HA.out
        clear HA
        simp only [nat_Of.l0] at H
        by_cases c3 : x0_1 > 0
        · rw [if_pos c3] at H
          have c3b0 : decide (0 < x0_1) = true := decide_eq_true c3
          clear c3
          by_cases c4 : x4_1.length < 17592186044416
          · rw [if_pos c4] at H
            have LMc4 := Aside0.mk c4
            clear c4
            obtain ⟨y225, hy225⟩ : ∃ y_ : List Int, y_ = (x4_1 ++ [Int.tmod x0_1 1000000000]) := ⟨_, rfl⟩
            replace H : (nat_Of.l0 k1 (wrap64 (Int.tdiv x0_1 1000000000)) y225) = some (r1, r2) := by first | (rw [hy225]; with_reducible exact H) | (have H2_ := (Option.bind_some _ _).symm.trans H; rw [hy225]; with_reducible exact H2_) | (have H2_ := (Option.bind_some _ _).symm.trans H; with_reducible exact H2_) | with_reducible exact H | (rw [hy225]; exact H) | exact H
            have Ny225 := Aside0.mk hy225
            clear hy225
            have H' := Aside0.mk H
            clear H
            go_wp2_with (first | ((with_reducible refine gate_builtin (b := .append) (xs := #[.tmp 11, .tmp 14]) rfl ?_); at_builtin; refine Kd.R_append (Kd.int .i64) (w0 := w) w.heap.size rfl (.tmp 11) (.tmp 14) 25 3 (.int .i64 0) 8 rfl Try.underlying25 info3 rfl (by decide) (by omega) u4 x4_1 (Int.tmod x0_1 1000000000) [.int .i64 (Int.tmod x0_1 1000000000)] (fun _ => True) (fun _ => False) rfl rfl ?aP (fun _ hk => hk.elim) ?aF ?aO ?aB ?aS ?aL ?_; (case aP => exact rfl); (case aB => exact Z0); (case aF => exact (fun _ _ => trivial)); (case aO => exact (by (with_reducible repeat (first | apply Kd.R_alloc | apply Kd.R_drewN | apply Kd.R_drew)); exact HO_4.out)); (case aS => exact (below_size Z0)); (case aL => have := LMc4.out; omega); intro v226 w5 ho hb hg hat; rw [← Ny225.out] at ho; have n0_ := Aside0.mk (hb); have n1_ := Aside0.mk (ho); clear HB; clear HO_4; have HB := n0_; have HO227 := n1_; clear n0_ n1_; clear ho hb hg hat))
            go_roundg k1
            case measure => have := HK1.out; omega
            case rel => exact ⟨(wrap64 (Int.tdiv x0_1 1000000000)), (y225), Z4, H', ⟨by have := HK1.out; omega⟩, ⟨by (with_reducible repeat (first | apply Kd.R_alloc | apply Kd.R_drewN | apply Kd.R_drew)); exact HO227.out⟩, ⟨by repeat (first | (with_reducible first | exact HB.out | apply below_alloc | apply pw_below_drewN | apply below_drew1) | exact HB.out)⟩⟩
          · rw [if_neg c4] at H
            exact absurd H (by simp)
        · rw [if_neg c3] at H
          have c3b0 : decide (0 < x0_1) = false := decide_eq_false c3
          clear c3
          simp only [Option.some.injEq, Prod.mk.injEq] at H
          obtain ⟨rfl, rfl⟩ := H
          go_wp2
          go_ret2
          exact ⟨_, by first | rfl | (simp [errW_none, errW_some] <;> rfl) | (simp [*, errW_none, errW_some] <;> rfl), by (with_reducible repeat (first | apply Kd.R_alloc | apply Kd.R_drewN | apply Kd.R_drew)); exact HO_4.out, by repeat (first | (with_reducible first | exact HB.out | apply below_alloc | apply pw_below_drewN | apply below_drew1) | exact HB.out)⟩
def nat_small.l0 : Nat → List Int → Int → Int → Option (Int)
  | 0, _, _, _ => none
  | k + 1, x0, x3, x4 => if x4 ≥ 0 then (if 0 ≤ x4 then (if x4 < (x0.length : Int) then (nat_small.l0 k x0 (wrap64 ((wrap64 (x3 * 1000000000)) + (rd x0 x4))) (wrap64 (x4 - 1))) else (none)) else (none)) else (some x3)
def nat_small.f (k : Nat) (l0 : List Int) : Option (Int) := nat_small.l0 k l0 0 (wrap64 ((l0.length : Int) - 1))
set_option maxHeartbeats 8000000 in
set_option maxRecDepth 100000 in
theorem nat_small.calls (k : Nat) (A0 : Option Addr) (c0 : Nat) (l0 : List Int) (r : Int) (w : World) (hr0 : Kd.C (Kd.int .i64) w A0 l0.length l0) (hc0 : l0.length ≤ c0) (h : nat_small.f k l0 = some r) :
    Calls Try.prog 85 #[.slice A0 l0.length c0] w fun e w' => e = .returned (.int .i64 r) ∧ Drawn0 w w' := by
  have HR0 := Aside0.mk hr0
  have HC0 := Aside0.mk hc0
  clear hr0 hc0
  have H : (nat_small.l0 k l0 0 (wrap64 ((l0.length : Int) - 1))) = some r := h
  clear h
  have H' := Aside0.mk H
  clear H
  go_enter Try.func85, Try.ntmps85
  go_wp2
  go_loopg [3, 4] k (fun kq v3 v4 w' => ∃ (x3_1 : Int) (x4_1 : Int), v3 = .int .i64 x3_1 ∧ v4 = .int .i64 x4_1 ∧ Aside0 (nat_small.l0 kq l0 x3_1 x4_1 = some r) ∧ Aside0 (kq ≤ k) ∧ Drawn0 w w')
  case atStart => exact ⟨(0), (wrap64 ((l0.length : Int) - 1)), Z4, Z4, H', ⟨Nat.le_refl _⟩, by repeat (first | exact Drawn0.refl _ | apply Drawn0.step)⟩
  case round =>
    clear H'
    obtain ⟨x3_1, x4_1, rfl, rfl, HA, HK1, ⟨m1, rfl⟩⟩ := hrel
    cases gk with
    | zero => exact absurd HA.out (by simp [nat_small.l0])
    | succ k1 =>
      have H := HA.out
      clear HA
      simp only [nat_small.l0] at H
      by_cases c2 : x4_1 ≥ 0
      · rw [if_pos c2] at H
        have c2b0 : decide (0 ≤ x4_1) = true := decide_eq_true c2
        clear c2
        by_cases c3 : 0 ≤ x4_1
        · rw [if_pos c3] at H
          have c3b0 : decide (0 ≤ x4_1) = true := decide_eq_true c3
          clear c3
          by_cases c4 : x4_1 < (l0.length : Int)
          · rw [if_pos c4] at H
            have c4b0 : decide (x4_1 < (l0.length : Int)) = true := decide_eq_true c4
            clear c4
            have H' := Aside0.mk H
            clear H
            have p228 : 0 ≤ (x4_1 : Int) := of_decide_eq_true Z1
            have q228 : x4_1 < (l0.length : Int) := of_decide_eq_true Z1
            obtain ⟨ad228, e228, hx228_0⟩ := Kd.at_int HR0.out x4_1 p228 q228
            cases e228
            replace p228 := eq_true p228
            replace q228 := eq_true q228
            go_wp2
            go_roundg k1
            case measure => have := HK1.out; omega
            case rel => exact ⟨(wrap64 ((wrap64 (x3_1 * 1000000000)) + (rd l0 x4_1))), (wrap64 (x4_1 - 1)), Z4, Z4, H', ⟨by have := HK1.out; omega⟩, by repeat (first | exact Drawn0.refl _ | apply Drawn0.step)⟩
          · rw [if_neg c4] at H
            exact absurd H (by simp)
        · rw [if_neg c3] at H
          exact absurd H (by simp)
      · rw [if_neg c2] at H
        have c2b0 : decide (0 ≤ x4_1) = false := decide_eq_false c2
        clear c2
        obtain rfl := Option.some.inj H
        go_wp2
        go_ret
        exact ⟨by first | rfl | (simp; done) | (simp [*]; done), by repeat (first | exact Drawn0.refl _ | apply Drawn0.step)⟩
def nat_short.l0 : Nat → List Int → Int → List Int → Int → Int → Option (List Int × List Int)
  | 0, _, _, _, _, _ => none
  | k + 1, x0, x1, x6, x7, x8 => if x8 ≥ 0 then (if 0 ≤ x8 then (if x8 < (x0.length : Int) then (if x1 = 0 then (none) else (if x8 < (x6.length : Int) then (nat_short.l0 k x0 x1 (x6.set (x8 : Int).toNat (wrap64 (Int.tdiv (wrap64 ((wrap64 (x7 * 1000000000)) + (rd x0 x8))) x1))) (Int.tmod (wrap64 ((wrap64 (x7 * 1000000000)) + (rd x0 x8))) x1) (wrap64 (x8 - 1))) else (none))) else (none)) else (none)) else ((nat_trimmed.f k x6).bind fun t165 => ((nat_trimmed.f k (([x7] : List Int))).bind fun t171 => (some (t165, t171))))
def nat_short.f (k : Nat) (l0 : List Int) (a1 : Int) : Option (List Int × List Int) := if 0 ≤ (l0.length : Int) then (if ((l0.length : Int) : Int).toNat ≤ 35184372088832 then (nat_short.l0 k l0 a1 (List.replicate ((l0.length : Int) : Int).toNat 0) 0 (wrap64 ((l0.length : Int) - 1))) else (none)) else (none)
def nat_short.T7 : Bool × List (List Nat × List Nat) := (true, [([], []), ([], []), ([], []), ([], []), ([2, 3], [2, 3]), ([], []), ([], []), ([5, 6], [5, 6]), ([0, 1, 0, 1, 2, 3, 4], [0, 1]), ([8, 4, 0, 1, 2, 3, 4], [4, 8]), ([7, 9, 0, 1, 2, 3, 4, 5, 6, 7, 8, 9], [7])])
def nat_short.B7 : List Nat := [0, 0, 0, 0, 12, 0, 0, 96, 31, 287, 1023]
theorem nat_short.tab7 : rtab .any (opsOf Try.f88 7) = nat_short.T7 := by kernel_rfl
theorem nat_short.bits7 : waitsOk nat_short.T7.2 nat_short.B7 = true := by kernel_rfl
set_option maxHeartbeats 8000000 in
set_option maxRecDepth 100000 in
theorem nat_short.calls (k : Nat) (A0 : Option Addr) (c0 : Nat) (l0 : List Int) (a1 : Int) (r1 : List Int) (r2 : List Int) (w : World) (hr0 : Kd.C (Kd.int .i64) w A0 l0.length l0) (hc0 : l0.length ≤ c0) (h : nat_short.f k l0 a1 = some (r1, r2)) :
    Calls Try.prog 88 #[.slice A0 l0.length c0, .int .i64 a1] w fun e w' => ∃ v0_ v1_ : Value, e = .returned (.tuple #[v0_, v1_]) ∧ Kd.R (Kd.int .i64) 3 w' w.heap.size (fun k_ => some k_ ≠ (v1_ : Value).ownBlock) v0_ r1 ∧ Kd.R (Kd.int .i64) 3 w' w.heap.size (fun k_ => some k_ ≠ (v0_ : Value).ownBlock) v1_ r2 ∧ Below w.heap.size w w' := by
  have HR0 := Aside0.mk hr0
  have HC0 := Aside0.mk hc0
  clear hr0 hc0
  have HB := Aside0.mk (Below.refl w.heap.size w)
  have H : (if 0 ≤ (l0.length : Int) then (if ((l0.length : Int) : Int).toNat ≤ 35184372088832 then (nat_short.l0 k l0 a1 (List.replicate ((l0.length : Int) : Int).toNat 0) 0 (wrap64 ((l0.length : Int) - 1))) else (none)) else (none)) = some (r1, r2) := h
  clear h
  by_cases c3 : 0 ≤ (l0.length : Int)
  · rw [if_pos c3] at H
    have c3b0 := eq_true c3
    have c3b1 : decide (0 ≤ (l0.length : Int)) = true := decide_eq_true c3
    clear c3
    by_cases c4 : ((l0.length : Int) : Int).toNat ≤ 35184372088832
    · rw [if_pos c4] at H
      have c4b0 := eq_true c4
      have c4b1 : decide (((l0.length : Int) : Int).toNat ≤ 35184372088832) = true := decide_eq_true c4
      clear c4
      obtain ⟨y160, hy160⟩ : ∃ y_ : List Int, y_ = (List.replicate ((l0.length : Int) : Int).toNat 0) := ⟨_, rfl⟩
      replace H : (nat_short.l0 k l0 a1 y160 0 (wrap64 ((l0.length : Int) - 1))) = some (r1, r2) := by first | (rw [hy160]; with_reducible exact H) | (have H2_ := (Option.bind_some _ _).symm.trans H; rw [hy160]; with_reducible exact H2_) | (have H2_ := (Option.bind_some _ _).symm.trans H; with_reducible exact H2_) | with_reducible exact H | (rw [hy160]; exact H) | exact H
      have Ny160 := Aside0.mk hy160
      clear hy160
      have H' := Aside0.mk H
      clear H
      go_enter Try.func88, Try.ntmps88
      go_wp2_with (first | ((with_reducible refine gate_dst (N := 12) rfl ?_); refine Kd.R_make (Kd.int .i64) _ 3 rfl (N := 12) rfl 24 _ _ rfl (l0.length : Int) rfl rfl Try.underlying24 (.int .i64 0) 8 info3 rfl (by decide) (by omega) 0 (ok := fun _ => True) (okp := fun _ => True) rfl (fun _ hk => hk) trivial (of_decide_eq_true Z1) (Nat.le_trans (Nat.mul_le_mul_right _ (of_decide_eq_true Z1 : (l0.length : Int).toNat ≤ 35184372088832)) (by omega)) (Below.refl _ _) (Nat.le_refl _) ?_; intro v161 w5 ho6 hb hg_ hnew_; clear hg_ hnew_; (first | rw [← Ny160.out] at ho6 | (simp only [Int.reduceToNat] at ho6; rw [← Ny160.out] at ho6)); have n0_ := Aside0.mk (Kd.R_lower ho6 (below_size Z0)); have n1_ := Aside0.mk (below_step Z0 hb); clear HB; have HO162 := n0_; have HB := n1_; clear n0_ n1_; clear hb ho6))
      go_loopg [7, 8] k (fun kq v7 v8 w' => ∃ (x6_1 : List Int) (x7_1 : Int) (x8_1 : Int), v7 = .int .i64 x7_1 ∧ v8 = .int .i64 x8_1 ∧ Aside0 (nat_short.l0 kq l0 a1 x6_1 x7_1 x8_1 = some (r1, r2)) ∧ Aside0 (kq ≤ k) ∧ Aside0 (Kd.R (Kd.int .i64) 3 w' w.heap.size (fun _ => True) v161 x6_1) ∧ Aside0 (Below w.heap.size w w'))
      case atStart => exact ⟨(y160), (0), (wrap64 ((l0.length : Int) - 1)), Z4, Z4, H', ⟨Nat.le_refl _⟩, ⟨by (with_reducible repeat (first | apply Kd.R_alloc | apply Kd.R_drewN | apply Kd.R_drew)); exact HO162.out⟩, ⟨by repeat (first | (with_reducible first | exact HB.out | apply below_alloc | apply pw_below_drewN | apply below_drew1) | exact HB.out)⟩⟩
      case round =>
        clear H'
        try clear p2
        try clear c3
        try clear c3b0
        try clear c3b1
        try clear c4
        try clear c4b0
        try clear c4b1
        try clear p6
        obtain ⟨x6_1, x7_1, x8_1, rfl, rfl, HA, HK1, HO_6, HB⟩ := hrel
        cases gk with
        | zero => exact absurd HA.out (by simp [nat_short.l0])
        | succ k1 =>
          have H := HA.out
          clear HA
          simp only [nat_short.l0] at H
          by_cases c7 : x8_1 ≥ 0
          · rw [if_pos c7] at H
            have c7b0 : decide (0 ≤ x8_1) = true := decide_eq_true c7
            clear c7
            by_cases c8 : 0 ≤ x8_1
            · rw [if_pos c8] at H
              have c8b0 : decide (0 ≤ x8_1) = true := decide_eq_true c8
              clear c8
              by_cases c9 : x8_1 < (l0.length : Int)
              · rw [if_pos c9] at H
                have c9b0 : decide (x8_1 < (l0.length : Int)) = true := decide_eq_true c9
                clear c9
                by_cases c10 : a1 = 0
                · rw [if_pos c10] at H
                  exact absurd H (by simp)
                · rw [if_neg c10] at H
                  have c10b0 : (a1 == 0) = false := beq_eq_false_iff_ne.mpr c10
                  have c10b1 : (a1 != 0) = true := bne_iff_ne.mpr c10
                  by_cases c11 : x8_1 < (x6_1.length : Int)
                  · rw [if_pos c11] at H
                    have c11b0 : decide (x8_1 < (x6_1.length : Int)) = true := decide_eq_true c11
                    clear c11
                    obtain ⟨y164, hy164⟩ : ∃ y_ : List Int, y_ = (x6_1.set (x8_1 : Int).toNat (wrap64 (Int.tdiv (wrap64 ((wrap64 (x7_1 * 1000000000)) + (rd l0 x8_1))) a1))) := ⟨_, rfl⟩
                    replace H : (nat_short.l0 k1 l0 a1 y164 (Int.tmod (wrap64 ((wrap64 (x7_1 * 1000000000)) + (rd l0 x8_1))) a1) (wrap64 (x8_1 - 1))) = some (r1, r2) := by first | (rw [hy164]; with_reducible exact H) | (have H2_ := (Option.bind_some _ _).symm.trans H; rw [hy164]; with_reducible exact H2_) | (have H2_ := (Option.bind_some _ _).symm.trans H; with_reducible exact H2_) | with_reducible exact H | (rw [hy164]; exact H) | exact H
                    have Ny164 := Aside0.mk hy164
                    clear hy164
                    have H' := Aside0.mk H
                    clear H
                    have p163 : 0 ≤ (x8_1 : Int) := of_decide_eq_true Z1
                    have q163 : x8_1 < (l0.length : Int) := of_decide_eq_true Z1
                    obtain ⟨ad163, e163, hx163_0⟩ := Kd.at_int HR0.out x8_1 p163 q163
                    cases e163
                    replace hx163_0 := (HB.out.cell (World.block_lt_of_cell? w _ hx163_0)).trans hx163_0
                    replace p163 := eq_true p163
                    replace q163 := eq_true q163
                    try go_wp2
                    have n0_ := Aside0.mk (Kd.R_drew HO_6.out)
                    have n1_ := Aside0.mk (below_drew1 HB.out)
                    clear HO_6
                    clear HB
                    have HO_6 := n0_
                    have HB := n1_
                    clear n0_ n1_
                    have p12 : 0 ≤ (x8_1 : Int) := of_decide_eq_true Z1
                    have q12 : (x8_1 : Int) < ((x6_1.length : Int) : Int) := of_decide_eq_true Z1
                    obtain ⟨go12, co12, eo12, gb12, gl12, cl12, HG12⟩ := Kd.R_form HO_6.out (by omega)
                    (first | cases eo12 | (injection eo12 with ea_ en_ ec_; (first | subst ea_ | (injection ea_ with ea_; subst ea_)); subst ec_; clear en_))
                    have GB12 := Aside0.mk gb12
                    have GG12 := Aside0.mk HG12
                    clear gb12 gl12 HG12
                    obtain ⟨hx12_0, hf12_0⟩ := Kd.R_celln 0 HO_6.out (x8_1 : Int) p12 q12
                    replace p12 := eq_true p12
                    replace q12 := eq_true q12
                    have HP14 := Kd.R_putn HO_6.out (x8_1 : Int) (wrap64 (Int.tdiv (wrap64 ((wrap64 (x7_1 * 1000000000)) + (rd l0 x8_1))) a1))
                    rw [← Ny164.out] at HP14
                    have HQ14 := Aside0.mk HP14
                    clear HP14
                    refine start_ (n := 11) (S := fun w' => True) (ds := [9]) #[false, false, false, false, false, false, false, false, false, false, false] Z6 rfl rfl trivial (fun hHeld => ?_); refine with_tabW nat_short.tab7 nat_short.bits7 (fun HT_ HW_ => ?_)
                    generalize wr.drew = w13 at HO_6 HB GG12 HQ14 hf12_0 hx12_0 hHeld ⊢
                    refine pure_ (i := 0) (N := some 27) (v := ?_) (a' := ?_) #[true, false, false, false, false, false, false, false, false, false, false] rfl rfl (any_of HT_.out Z6) (fun _ _ _ h => h) (Or.inl ⟨by rfl, ?_⟩) ?_ ?_
                    rotate_left
                    · intro w'
                      go_simp
                      with_reducible rfl
                    rotate_left
                    · simp only [Act.put, List.setIfInBounds_toArray, List.set_cons_zero, List.set_cons_succ, i64_w, i32_w]
                      rfl
                    refine pure_ (i := 1) (N := some 28) (v := ?_) (a' := ?_) #[true, true, false, false, false, false, false, false, false, false, false] rfl rfl (any_of HT_.out Z6) (fun _ _ _ h => h) (Or.inl ⟨by rfl, ?_⟩) ?_ ?_
                    rotate_left
                    · intro w'
                      go_simp
                      with_reducible rfl
                    rotate_left
                    · simp only [Act.put, List.setIfInBounds_toArray, List.set_cons_zero, List.set_cons_succ, i64_w, i32_w]
                      rfl
                    refine pure_ (i := 2) (N := some 29) (v := ?_) (a' := ?_) #[true, true, true, false, false, false, false, false, false, false, false] rfl rfl (any_of HT_.out Z6) (fun _ _ _ h => h) (Or.inl ⟨by rfl, ?_⟩) ?_ ?_
                    rotate_left
                    · intro w'
                      go_simp
                      with_reducible rfl
                    rotate_left
                    · simp only [Act.put, List.setIfInBounds_toArray, List.set_cons_zero, List.set_cons_succ, i64_w, i32_w]
                      rfl
                    refine pure_ (i := 3) (N := some 30) (v := ?_) (a' := ?_) #[true, true, true, true, false, false, false, false, false, false, false] rfl rfl (any_of HT_.out Z6) (fun _ _ _ h => h) (Or.inl ⟨by rfl, ?_⟩) ?_ ?_
                    rotate_left
                    · intro w'
                      go_simp
                      with_reducible rfl
                    rotate_left
                    · simp only [Act.put, List.setIfInBounds_toArray, List.set_cons_zero, List.set_cons_succ, i64_w, i32_w]
                      rfl
                    refine pure_ (i := 4) (N := some 31) (v := ?_) (a' := ?_) #[true, true, true, true, true, false, false, false, false, false, false] rfl rfl (any_of HT_.out Z6) (fun _ _ _ h => h) (Or.inl ⟨by rfl, ?_⟩) ?_ ?_
                    rotate_left
                    · intro w'
                      go_simp
                      with_reducible rfl
                    rotate_left
                    · simp only [Act.put, List.setIfInBounds_toArray, List.set_cons_zero, List.set_cons_succ, i64_w, i32_w]
                      rfl
                    refine pure_ (i := 5) (N := some 32) (v := ?_) (a' := ?_) #[true, true, true, true, true, true, false, false, false, false, false] rfl rfl (any_of HT_.out Z6) (fun _ _ _ h => h) (Or.inl ⟨by rfl, ?_⟩) ?_ ?_
                    rotate_left
                    · intro w'
                      go_simp
                      with_reducible rfl
                    rotate_left
                    · simp only [Act.put, List.setIfInBounds_toArray, List.set_cons_zero, List.set_cons_succ, i64_w, i32_w]
                      rfl
                    refine pure_ (i := 6) (N := some 33) (v := ?_) (a' := ?_) #[true, true, true, true, true, true, true, false, false, false, false] rfl rfl (any_of HT_.out Z6) (fun _ _ _ h => h) (Or.inl ⟨by rfl, ?_⟩) ?_ ?_
                    rotate_left
                    · intro w'
                      go_simp
                      with_reducible rfl
                    rotate_left
                    · simp only [Act.put, List.setIfInBounds_toArray, List.set_cons_zero, List.set_cons_succ, i64_w, i32_w]
                      rfl
                    refine pure_ (i := 7) (N := some 34) (v := ?_) (a' := ?_) #[true, true, true, true, true, true, true, true, false, false, false] rfl rfl (any_of HT_.out Z6) (fun _ _ _ h => h) (Or.inl ⟨by rfl, ?_⟩) ?_ ?_
                    rotate_left
                    · intro w'
                      go_simp
                      with_reducible rfl
                    rotate_left
                    · simp only [Act.put, List.setIfInBounds_toArray, List.set_cons_zero, List.set_cons_succ, i64_w, i32_w]
                      rfl
                    refine pure_ (i := 8) (N := some 35) (v := ?_) (a' := ?_) #[true, true, true, true, true, true, true, true, true, false, false] rfl rfl (any_of HT_.out Z6) (fun _ _ _ h => h) (Or.inl ⟨by rfl, ?_⟩) ?_ ?_
                    rotate_left
                    · intro w'
                      go_simp
                      with_reducible rfl
                    rotate_left
                    · simp only [Act.put, List.setIfInBounds_toArray, List.set_cons_zero, List.set_cons_succ, i64_w, i32_w]
                      rfl
                    refine last_ (i := 9) (N := none) #[true, true, true, true, true, true, true, true, true, true, false] rfl rfl (one_of HT_.out Z6) (by decide) (fun K hK => ?_)
                    refine skip_ (w1 := ?_) (by rfl) rfl ?_ ?_
                    rotate_left
                    · go_simp
                      rfl
                    refine hK.out _ _ ?_
                    clear hK K
                    refine pure_ (i := 10) (N := some 7) (v := ?_) (a' := ?_) #[true, true, true, true, true, true, true, true, true, true, true] rfl rfl (any_of HT_.out Z6) (fun _ _ _ h => h) (Or.inl ⟨by rfl, ?_⟩) ?_ ?_
                    rotate_left
                    · intro w'
                      go_simp
                      with_reducible rfl
                    rotate_left
                    · simp only [Act.put, List.setIfInBounds_toArray, List.set_cons_zero, List.set_cons_succ, i64_w, i32_w]
                      rfl
                    refine done_ (done_of HT_.out Z6) ?_
                    try go_wp2
                    go_roundg k1
                    case measure => have := HK1.out; omega
                    case rel => exact ⟨(y164), (Int.tmod (wrap64 ((wrap64 (x7_1 * 1000000000)) + (rd l0 x8_1))) a1), (wrap64 (x8_1 - 1)), Z4, Z4, H', ⟨by have := HK1.out; omega⟩, ⟨by (with_reducible repeat (first | apply Kd.R_alloc | apply Kd.R_drewN | apply Kd.R_drew)); exact HQ14.out⟩, ⟨by repeat (first | (with_reducible first | exact HB.out | apply below_alloc | apply pw_below_drewN | apply below_drew1 | refine below_set ?_ GB12.out) | exact HB.out)⟩⟩
                  · rw [if_neg c11] at H
                    exact absurd H (by simp)
              · rw [if_neg c9] at H
                exact absurd H (by simp)
            · rw [if_neg c8] at H
              exact absurd H (by simp)
          · rw [if_neg c7] at H
            have c7b0 : decide (0 ≤ x8_1) = false := decide_eq_false c7
            clear c7
            replace H := Option.bind_eq_some_iff.mp H
            obtain ⟨t165, A150, H⟩ := H
            replace H : ((nat_trimmed.f k1 (([x7_1] : List Int))).bind fun t171 => (some (t165, t171))) = some (r1, r2) := H
            have A15 := Aside0.mk A150
            clear A150
            obtain ⟨y168, hy168⟩ : ∃ y_ : List Int, y_ = (([x7_1] : List Int)) := ⟨_, rfl⟩
            replace H : ((nat_trimmed.f k1 y168).bind fun t171 => (some (t165, t171))) = some (r1, r2) := by first | (rw [hy168]; with_reducible exact H) | (have H2_ := (Option.bind_some _ _).symm.trans H; rw [hy168]; with_reducible exact H2_) | (have H2_ := (Option.bind_some _ _).symm.trans H; with_reducible exact H2_) | with_reducible exact H | (rw [hy168]; exact H) | exact H
            have Ny168 := Aside0.mk hy168
            clear hy168
            replace H := Option.bind_eq_some_iff.mp H
            obtain ⟨t171, A160, H⟩ := H
            replace H : (some (t165, t171)) = some (r1, r2) := H
            have A16 := Aside0.mk A160
            clear A160
            simp only [Option.some.injEq, Prod.mk.injEq] at H
            obtain ⟨rfl, rfl⟩ := H
            obtain ⟨Ao17, co17, eo17⟩ := Kd.R_slice HO_6.out
            subst eo17
            go_wp2_with (first | ((with_reducible refine gate_callee (f := 83) rfl ?_); refine goesL_ (some 37) rfl rfl Try.func83 Z6 rfl #[.slice Ao17 x6_1.length co17] rfl Z2 ?_; (with_reducible refine (nat_trimmed.calls k1 (fun k_ => some k_ = (.slice Ao17 x6_1.length co17 : Value).ownBlock) (.slice Ao17 x6_1.length co17) x6_1 t165 w _ ?side1 ?side2 A15.out).mono ?_); (case side1 => repeat (first | (with_reducible first | exact HB.out | apply below_alloc | apply pw_below_drewN | apply below_drew1) | exact HB.out)); (case side2 => exact Kd.R_tight rfl HO_6.out); rintro e w18 ⟨v166, rfl, ho0, hb, hkp⟩; refine ⟨_, rfl, ?_⟩; have n0_ := Aside0.mk (Kd.R_mono (ok' := fun k_ => True) ho0 (fun k_ hk_ => trivial)); have n1_ := Aside0.mk (hb); clear HB; clear HO_6; have HO167 := n0_; have HB := n1_; clear n0_ n1_; (try clear hb); (try clear hkp); (try clear ho0)) | ((with_reducible refine gate_dst (N := 39) rfl ?_); refine Kd.R_lit (Kd.int .i64) _ 3 ?hg (N := 39) ?hd (xs := ([x7_1] : List Int)) (inner := [.int .i64 x7_1]) (ok := fun _ => True) (okp := fun _ => True) ?hr ?hp (fun _ hk => hk) trivial (Below.refl _ _) (Nat.le_refl _) (by simp) ?_; (case hd => rfl); (case hg => rfl); (case hr => first | (go_simp; done) | (go_simp; rfl)); (case hp => exact (Reps.one (show Kd.M (Kd.int .i64) _ _ _ x7_1 [.int .i64 x7_1] from rfl) (Reps.none _ _))); intro v169 w19 ho20 hb hg_ hnew_; clear hg_ hnew_; (first | rw [← Ny168.out] at ho20 | (simp only [Int.reduceToNat] at ho20; rw [← Ny168.out] at ho20)); have n0_ := Aside0.mk (Kd.R_elder' Z31 (Kd.R_base ho20) hb); have n1_ := Aside0.mk (Kd.R_lower (Kd.R_new' ho20 (Kd.R_lt Z31)) (below_size Z0)); have n2_ := Aside0.mk (below_step Z0 hb); clear HO167; clear HB; have HO167 := n0_; have HO170 := n1_; have HB := n2_; clear n0_ n1_ n2_; clear hb ho20; obtain ⟨Ao21, co21, eo21⟩ := Kd.R_slice HO170.out; subst eo21) | ((with_reducible refine gate_callee (f := 83) rfl ?_); refine goesL_ (some 40) rfl rfl Try.func83 Z6 rfl #[.slice Ao21 y168.length co21] rfl Z2 ?_; (with_reducible refine (nat_trimmed.calls k1 (fun k_ => some k_ = (.slice Ao21 y168.length co21 : Value).ownBlock) (.slice Ao21 y168.length co21) y168 t171 w _ ?side1 ?side2 A16.out).mono ?_); (case side1 => repeat (first | (with_reducible first | exact HB.out | apply below_alloc | apply pw_below_drewN | apply below_drew1) | exact HB.out)); (case side2 => exact Kd.R_tight rfl HO170.out); rintro e w22 ⟨v172, rfl, ho0, hb, hkp⟩; refine ⟨_, rfl, ?_⟩; have n0_ := Aside0.mk (Kd.R_mono (ok' := fun k_ => some k_ ≠ (v172 : Value).ownBlock) (Kd.R_keptB (HO167.out) hkp (fun k_ hk_ hs_ => (hk_.2) hs_)) (fun k_ hk_ => fun e_ => Or.elim (ho0.1 k_ e_.symm) (fun hs_ => hk_.2.1 hs_) (fun hn_ => Nat.not_le.2 hk_.2.2 hn_))); have n1_ := Aside0.mk (Kd.R_mono (ok' := fun k_ => some k_ ≠ (v166 : Value).ownBlock) ho0 (fun k_ hk_ => Or.elim hk_ (fun hs_ => fun e_ => (((HO167.out).1 k_ e_.symm).2) hs_) (fun hn_ => (Kd.fresh' (Kd.R_lt Z31) k_ hn_)))); have n2_ := Aside0.mk (hb); clear HO167; clear HB; clear HO170; have HO167 := n0_; have HO173 := n1_; have HB := n2_; clear n0_ n1_ n2_; (try clear hb); (try clear hkp); (try clear ho0)))
            go_ret2
            exact ⟨_, _, by first | rfl | (simp [errW_none, errW_some] <;> rfl) | (simp [*, errW_none, errW_some] <;> rfl), by (with_reducible repeat (first | apply Kd.R_alloc | apply Kd.R_drewN | apply Kd.R_drew)); exact HO167.out, by (with_reducible repeat (first | apply Kd.R_alloc | apply Kd.R_drewN | apply Kd.R_drew)); exact HO173.out, by repeat (first | (with_reducible first | exact HB.out | apply below_alloc | apply pw_below_drewN | apply below_drew1) | exact HB.out)⟩
    · rw [if_neg c4] at H
      exact absurd H (by simp)
  · rw [if_neg c3] at H
    exact absurd H (by simp)
def nat_scaled.l0 : Nat → List Int → Int → List Int → Int → Int → Int → Option (List Int)
  | 0, _, _, _, _, _, _ => none
  | k + 1, x0, x1, x5, x6, x14, x15 => if x15 < x14 then (if 0 ≤ x15 then (if x15 < (x0.length : Int) then (if x15 < (x5.length : Int) then (nat_scaled.l0 k x0 x1 (x5.set (x15 : Int).toNat (Int.tmod (wrap64 ((wrap64 ((rd x0 x15) * x1)) + x6)) 1000000000)) (wrap64 (Int.tdiv (wrap64 ((wrap64 ((rd x0 x15) * x1)) + x6)) 1000000000)) x14 (wrap64 (x15 + 1))) else (none)) else (none)) else (none)) else (if 0 ≤ (x0.length : Int) then (if (x0.length : Int) < (x5.length : Int) then (some (x5.set ((x0.length : Int) : Int).toNat x6)) else (none)) else (none))
def nat_scaled.f (k : Nat) (l0 : List Int) (a1 : Int) : Option (List Int) := if 0 ≤ (wrap64 ((l0.length : Int) + 1)) then (if (wrap64 ((l0.length : Int) + 1) : Int).toNat ≤ 35184372088832 then (nat_scaled.l0 k l0 a1 (List.replicate (wrap64 ((l0.length : Int) + 1) : Int).toNat 0) 0 (l0.length : Int) 0) else (none)) else (none)
set_option maxHeartbeats 8000000 in
set_option maxRecDepth 100000 in
theorem nat_scaled.calls (k : Nat) (A0 : Option Addr) (c0 : Nat) (l0 : List Int) (a1 : Int) (r : List Int) (w : World) (hr0 : Kd.C (Kd.int .i64) w A0 l0.length l0) (hc0 : l0.length ≤ c0) (h : nat_scaled.f k l0 a1 = some r) :
    Calls Try.prog 90 #[.slice A0 l0.length c0, .int .i64 a1] w fun e w' => ∃ v0_ : Value, e = .returned (v0_) ∧ Kd.R (Kd.int .i64) 3 w' w.heap.size (fun _ => True) v0_ r ∧ Below w.heap.size w w' := by
  have HR0 := Aside0.mk hr0
  have HC0 := Aside0.mk hc0
  clear hr0 hc0
  have HB := Aside0.mk (Below.refl w.heap.size w)
  have H : (if 0 ≤ (wrap64 ((l0.length : Int) + 1)) then (if (wrap64 ((l0.length : Int) + 1) : Int).toNat ≤ 35184372088832 then (nat_scaled.l0 k l0 a1 (List.replicate (wrap64 ((l0.length : Int) + 1) : Int).toNat 0) 0 (l0.length : Int) 0) else (none)) else (none)) = some r := h
  clear h
  obtain ⟨ji3, hji3⟩ : ∃ j_ : Int, (wrap64 ((l0.length : Int) + 1)) = j_ := ⟨_, rfl⟩
  replace H : (if 0 ≤ (ji3) then (if (ji3 : Int).toNat ≤ 35184372088832 then (nat_scaled.l0 k l0 a1 (List.replicate (ji3 : Int).toNat 0) 0 (l0.length : Int) 0) else (none)) else (none)) = some r := by first | (rw [hji3] at H; exact H) | (simp only [hji3] at H ⊢; exact H)
  have hji3w : (IntKind.i64.wrap ((l0.length : Int) + 1)) = ji3 := (i64_w _).trans hji3
  by_cases c4 : 0 ≤ (ji3)
  · rw [if_pos c4] at H
    have c4b0 := eq_true c4
    have c4b1 : decide (0 ≤ (ji3)) = true := decide_eq_true c4
    clear c4
    by_cases c5 : (ji3 : Int).toNat ≤ 35184372088832
    · rw [if_pos c5] at H
      have c5b0 := eq_true c5
      have c5b1 : decide ((ji3 : Int).toNat ≤ 35184372088832) = true := decide_eq_true c5
      clear c5
      obtain ⟨y174, hy174⟩ : ∃ y_ : List Int, y_ = (List.replicate (ji3 : Int).toNat 0) := ⟨_, rfl⟩
      replace H : (nat_scaled.l0 k l0 a1 y174 0 (l0.length : Int) 0) = some r := by first | (rw [hy174]; with_reducible exact H) | (have H2_ := (Option.bind_some _ _).symm.trans H; rw [hy174]; with_reducible exact H2_) | (have H2_ := (Option.bind_some _ _).symm.trans H; with_reducible exact H2_) | with_reducible exact H | (rw [hy174]; exact H) | exact H
      have Ny174 := Aside0.mk hy174
      clear hy174
      have H' := Aside0.mk H
      clear H
      go_enter Try.func90, Try.ntmps90
      go_wp2_with (first | ((with_reducible refine gate_dst (N := 12) rfl ?_); refine Kd.R_make (Kd.int .i64) _ 3 rfl (N := 12) rfl 24 _ _ rfl ji3 rfl rfl Try.underlying24 (.int .i64 0) 8 info3 rfl (by decide) (by omega) 0 (ok := fun _ => True) (okp := fun _ => True) rfl (fun _ hk => hk) trivial (of_decide_eq_true Z1) (Nat.le_trans (Nat.mul_le_mul_right _ (of_decide_eq_true Z1 : ji3.toNat ≤ 35184372088832)) (by omega)) (Below.refl _ _) (Nat.le_refl _) ?_; intro v175 w6 ho7 hb hg_ hnew_; clear hg_ hnew_; (first | rw [← Ny174.out] at ho7 | (simp only [Int.reduceToNat] at ho7; rw [← Ny174.out] at ho7)); have n0_ := Aside0.mk (Kd.R_lower ho7 (below_size Z0)); have n1_ := Aside0.mk (below_step Z0 hb); clear HB; have HO176 := n0_; have HB := n1_; clear n0_ n1_; clear hb ho7))
      go_loopg [6, 15] k (fun kq v6 v15 w' => ∃ (x5_1 : List Int) (x6_1 : Int) (x15_1 : Int), v6 = .int .i64 x6_1 ∧ v15 = .int .i64 x15_1 ∧ Aside0 (nat_scaled.l0 kq l0 a1 x5_1 x6_1 (l0.length : Int) x15_1 = some r) ∧ Aside0 (kq ≤ k) ∧ Aside0 (Kd.R (Kd.int .i64) 3 w' w.heap.size (fun _ => True) v175 x5_1) ∧ Aside0 (Below w.heap.size w w'))
      case atStart => exact ⟨(y174), (0), (0), Z4, Z4, H', ⟨Nat.le_refl _⟩, ⟨by (with_reducible repeat (first | apply Kd.R_alloc | apply Kd.R_drewN | apply Kd.R_drew)); exact HO176.out⟩, ⟨by repeat (first | (with_reducible first | exact HB.out | apply below_alloc | apply pw_below_drewN | apply below_drew1) | exact HB.out)⟩⟩
      case round =>
        clear H'
        try clear p2
        try clear c4
        try clear c4b0
        try clear c4b1
        try clear c5
        try clear c5b0
        try clear c5b1
        try clear p6
        obtain ⟨x5_1, x6_1, x15_1, rfl, rfl, HA, HK1, HO_5, HB⟩ := hrel
        cases gk with
        | zero => exact absurd HA.out (by simp [nat_scaled.l0])
        | succ k1 =>
          have H := HA.out
          clear HA
          simp only [nat_scaled.l0] at H
          by_cases c8 : x15_1 < (l0.length : Int)
          · rw [if_pos c8] at H
            have c8b0 : decide (x15_1 < (l0.length : Int)) = true := decide_eq_true c8
            clear c8
            by_cases c9 : 0 ≤ x15_1
            · rw [if_pos c9] at H
              have c9b0 : decide (0 ≤ x15_1) = true := decide_eq_true c9
              clear c9
              by_cases c10 : x15_1 < (l0.length : Int)
              · rw [if_pos c10] at H
                have c10b0 : decide (x15_1 < (l0.length : Int)) = true := decide_eq_true c10
                clear c10
                by_cases c11 : x15_1 < (x5_1.length : Int)
                · rw [if_pos c11] at H
                  have c11b0 : decide (x15_1 < (x5_1.length : Int)) = true := decide_eq_true c11
                  clear c11
                  obtain ⟨y178, hy178⟩ : ∃ y_ : List Int, y_ = (x5_1.set (x15_1 : Int).toNat (Int.tmod (wrap64 ((wrap64 ((rd l0 x15_1) * a1)) + x6_1)) 1000000000)) := ⟨_, rfl⟩
                  replace H : (nat_scaled.l0 k1 l0 a1 y178 (wrap64 (Int.tdiv (wrap64 ((wrap64 ((rd l0 x15_1) * a1)) + x6_1)) 1000000000)) (l0.length : Int) (wrap64 (x15_1 + 1))) = some r := by first | (rw [hy178]; with_reducible exact H) | (have H2_ := (Option.bind_some _ _).symm.trans H; rw [hy178]; with_reducible exact H2_) | (have H2_ := (Option.bind_some _ _).symm.trans H; with_reducible exact H2_) | with_reducible exact H | (rw [hy178]; exact H) | exact H
                  have Ny178 := Aside0.mk hy178
                  clear hy178
                  have H' := Aside0.mk H
                  clear H
                  have p177 : 0 ≤ (x15_1 : Int) := of_decide_eq_true Z1
                  have q177 : x15_1 < (l0.length : Int) := of_decide_eq_true Z1
                  obtain ⟨ad177, e177, hx177_0⟩ := Kd.at_int HR0.out x15_1 p177 q177
                  cases e177
                  replace hx177_0 := (HB.out.cell (World.block_lt_of_cell? w _ hx177_0)).trans hx177_0
                  replace p177 := eq_true p177
                  replace q177 := eq_true q177
                  have p12 : 0 ≤ (x15_1 : Int) := of_decide_eq_true Z1
                  have q12 : (x15_1 : Int) < ((x5_1.length : Int) : Int) := of_decide_eq_true Z1
                  obtain ⟨go12, co12, eo12, gb12, gl12, cl12, HG12⟩ := Kd.R_form HO_5.out (by omega)
                  (first | cases eo12 | (injection eo12 with ea_ en_ ec_; (first | subst ea_ | (injection ea_ with ea_; subst ea_)); subst ec_; clear en_))
                  have GB12 := Aside0.mk gb12
                  have GG12 := Aside0.mk HG12
                  clear gb12 gl12 HG12
                  obtain ⟨hx12_0, hf12_0⟩ := Kd.R_celln 0 HO_5.out (x15_1 : Int) p12 q12
                  replace p12 := eq_true p12
                  replace q12 := eq_true q12
                  have HP13 := Kd.R_putg HO_5.out (x15_1 : Int) (Int.tmod (wrap64 ((wrap64 ((rd l0 x15_1) * a1)) + x6_1)) 1000000000)
                  go_wp2_with (first | ((with_reducible refine gate_store (t := 3) (p := 32) rfl ?_); refine store_event (t := 3) (p := 32) (v := ?vo_w14) (w1 := (wr.setCell ⟨go12, (x15_1 : Int).toNat, none⟩ (.int .i64 (Int.tmod (wrap64 ((wrap64 ((rd l0 x15_1) * a1)) + x6_1)) 1000000000)))) ?hg ?ho ?hn ?hr ?_; (case ho => rfl); (case hg => rfl); (case hn => rfl); (case hr => first | (go_simp; done) | (go_simp; rfl)); intro w14 hw; have hg : wr.grownBy w14 (some go12) := (by rw [hw]; exact HP13.2); have hp_ : Kd.R (Kd.int .i64) 3 w14 w.heap.size (fun _ => True) (.slice (some ⟨go12, 0, none⟩) x5_1.length co12) y178 := (by rw [hw, Ny178.out]; exact HP13.1); clear HP13; have n0_ := Aside0.mk (hp_); have n1_ := Aside0.mk ((by rw [hw]; exact below_set (HB.out) GB12.out : Below w.heap.size w w14)); clear HO_5; clear HB; have HO_5 := n0_; have HB := n1_; clear n0_ n1_; clear hg hw hp_))
                  go_roundg k1
                  case measure => have := HK1.out; omega
                  case rel => exact ⟨(y178), (wrap64 (Int.tdiv (wrap64 ((wrap64 ((rd l0 x15_1) * a1)) + x6_1)) 1000000000)), (wrap64 (x15_1 + 1)), Z4, Z4, H', ⟨by have := HK1.out; omega⟩, ⟨by (with_reducible repeat (first | apply Kd.R_alloc | apply Kd.R_drewN | apply Kd.R_drew)); exact HO_5.out⟩, ⟨by repeat (first | (with_reducible first | exact HB.out | apply below_alloc | apply pw_below_drewN | apply below_drew1) | exact HB.out)⟩⟩
                · rw [if_neg c11] at H
                  exact absurd H (by simp)
              · rw [if_neg c10] at H
                exact absurd H (by simp)
            · rw [if_neg c9] at H
              exact absurd H (by simp)
          · rw [if_neg c8] at H
            have c8b0 : decide (x15_1 < (l0.length : Int)) = false := decide_eq_false c8
            clear c8
            by_cases c15 : 0 ≤ (l0.length : Int)
            · rw [if_pos c15] at H
              have c15b0 : decide (0 ≤ (l0.length : Int)) = true := decide_eq_true c15
              have c15b1 : decide (0 ≤ l0.length) = true := decide_eq_true (by omega)
              clear c15
              by_cases c16 : (l0.length : Int) < (x5_1.length : Int)
              · rw [if_pos c16] at H
                have c16b0 : decide ((l0.length : Int) < (x5_1.length : Int)) = true := decide_eq_true c16
                have c16b1 : decide (l0.length < x5_1.length) = true := decide_eq_true (Int.ofNat_lt.mp c16)
                clear c16
                obtain ⟨y179, hy179⟩ : ∃ y_ : List Int, y_ = (x5_1.set ((l0.length : Int) : Int).toNat x6_1) := ⟨_, rfl⟩
                replace H : (some y179) = some r := by first | (rw [hy179]; with_reducible exact H) | (have H2_ := (Option.bind_some _ _).symm.trans H; rw [hy179]; with_reducible exact H2_) | (have H2_ := (Option.bind_some _ _).symm.trans H; with_reducible exact H2_) | with_reducible exact H | (rw [hy179]; exact H) | exact H
                have Ny179 := Aside0.mk hy179
                clear hy179
                obtain rfl := Option.some.inj H
                have p17 : 0 ≤ ((l0.length : Int) : Int) := of_decide_eq_true Z1
                have q17 : ((l0.length : Int) : Int) < ((x5_1.length : Int) : Int) := of_decide_eq_true Z1
                obtain ⟨go17, co17, eo17, gb17, gl17, cl17, HG17⟩ := Kd.R_form HO_5.out (by omega)
                (first | cases eo17 | (injection eo17 with ea_ en_ ec_; (first | subst ea_ | (injection ea_ with ea_; subst ea_)); subst ec_; clear en_))
                have GB17 := Aside0.mk gb17
                have GG17 := Aside0.mk HG17
                clear gb17 gl17 HG17
                have q17n := Int.ofNat_lt.mp q17
                obtain ⟨hx17_0, hf17_0⟩ := Kd.R_celln 0 HO_5.out ((l0.length : Int) : Int) p17 q17
                simp only [Int.toNat_natCast] at hx17_0 hf17_0
                replace q17n := eq_true q17n
                replace p17 := eq_true p17
                replace q17 := eq_true q17
                have HP18 := Kd.R_putg HO_5.out ((l0.length : Int) : Int) x6_1
                simp only [Int.toNat_natCast] at HP18
                go_wp2_with (first | ((with_reducible refine gate_store (t := 3) (p := 38) rfl ?_); refine store_event (t := 3) (p := 38) (v := ?vo_w19) (w1 := (wr.setCell ⟨go17, l0.length, none⟩ (.int .i64 x6_1))) ?hg ?ho ?hn ?hr ?_; (case ho => rfl); (case hg => rfl); (case hn => rfl); (case hr => first | (go_simp; done) | (go_simp; rfl)); intro w19 hw; have hg : wr.grownBy w19 (some go17) := (by rw [hw]; exact HP18.2); have hp_ : Kd.R (Kd.int .i64) 3 w19 w.heap.size (fun _ => True) (.slice (some ⟨go17, 0, none⟩) x5_1.length co17) y179 := (by rw [hw, Ny179.out]; exact HP18.1); clear HP18; have n0_ := Aside0.mk (hp_); have n1_ := Aside0.mk ((by rw [hw]; exact below_set (HB.out) GB17.out : Below w.heap.size w w19)); clear HO_5; clear HB; have HO_5 := n0_; have HB := n1_; clear n0_ n1_; clear hg hw hp_))
                go_ret
                exact ⟨_, by first | rfl | (simp [errW_none, errW_some] <;> rfl) | (simp only [← hji3]; first | rfl | (simp [errW_none, errW_some] <;> rfl)) | (simp [*, errW_none, errW_some] <;> rfl), by (with_reducible repeat (first | apply Kd.R_alloc | apply Kd.R_drewN | apply Kd.R_drew)); exact HO_5.out, by repeat (first | (with_reducible first | exact HB.out | apply below_alloc | apply pw_below_drewN | apply below_drew1) | exact HB.out)⟩
              · rw [if_neg c16] at H
                exact absurd H (by simp)
            · rw [if_neg c15] at H
              exact absurd H (by simp)
    · rw [if_neg c5] at H
      exact absurd H (by simp)
  · rw [if_neg c4] at H
    exact absurd H (by simp)
end Go.Proofs.Ytbjamhkhocjdkaa.Px
namespace Go.Proofs.Ytbjamhkhocjdkaa.Px
open Go.RowKit Go.Proofs.YtbjamhkhocjdkaaW.PrintWords Go.Proofs.YtbjamhkhocjdkaaW.PrintLast Go.Proofs.YtbjamhkhocjdkaaW.PrintMore Go.Proofs.Ytbjamhkhocjdkaa.Mat
set_option linter.unusedVariables false
theorem mul_lt {x y : Int} (hx : 0 ≤ x ∧ x < 1000000000) (hy : 0 ≤ y ∧ y < 1000000000) : 0 ≤ x * y ∧ x * y ≤ 999999998000000001 := by
  refine ⟨Int.mul_nonneg hx.1 hy.1, ?_⟩
  have h1 := Int.mul_le_mul (show x ≤ 999999999 by omega) (show y ≤ 999999999 by omega) hy.1 (by omega)
  omega
theorem ev_Mul_l1 (a b : List Int) (ha : Dig a) (hb : Dig b) (hal : a.length ≤ 1000) (hbl : b.length ≤ 1000) (i : Int) (hi0 : 0 ≤ i) (hi1 : i < a.length) (n j : Int) (F : List Int × Int) (V : Int)
    (hnext : ∀ x : List Int, Dig x → x.length = a.length + b.length + 1 → val x = V + rd a i * val b * pw i.toNat → (∀ t : Nat, i + b.length + 1 ≤ t → rd x t = 0) → Ev (fun k => nat_Mul.l0 k a b x n (wrap64 (j + 1))) F) :
    ∀ (d : Nat) (x : List Int) (c t : Int), Dig x → x.length = a.length + b.length + 1 → 0 ≤ t → t ≤ b.length → (b.length : Int) - t = d → 0 ≤ c → c < 1000000000 →
    val x + c * pw (i.toNat + t.toNat) = V + rd a i * val (b.take t.toNat) * pw i.toNat → (∀ s : Nat, i + b.length ≤ s → rd x s = 0) →
    Ev (fun k => nat_Mul.l1 k a b x i c n j b.length t) F := by
  intro d
  induction d with
  | zero =>
    intro x c t hx hxl h0 h1 hd hc0 hc1 hV hz
    have et : t.toNat = b.length := by omega
    rw [et, List.take_length] at hV
    have e1 : (i + (b.length : Int)).toNat = i.toNat + b.length := by omega
    have hs := val_set (l := x) (i := i + (b.length : Int)) c (by omega) (by omega)
    have hz0 := hz (i + (b.length : Int)).toNat (by omega)
    have e3 : (((i + (b.length : Int)).toNat : Nat) : Int) = i + (b.length : Int) := by omega
    rw [e3] at hz0
    rw [hz0, e1] at hs
    have := hnext (x.set (i + (b.length : Int)).toNat c) (hx.set _ ⟨hc0, hc1⟩) (by rw [List.length_set]; exact hxl) (by rw [e1]; grind) (fun s hs => by rw [rd_set_ne _ (by omega)]; exact hz s (by omega))
    refine Ev.step (fun k => ?_) this
    simp only [nat_Mul.l1]
    rw [if_neg (by omega), w64 (x := i + (b.length : Int)) (by omega) (by omega), if_pos (by omega), if_pos (by omega)]
  | succ d ih =>
    intro x c t hx hxl h0 h1 hd hc0 hc1 hV hz
    have hr := hx.rd (i + t)
    have hm := mul_lt (ha.rd i) (hb.rd t)
    have et : (t + 1).toNat = t.toNat + 1 := by omega
    have eit : (i + t).toNat = i.toNat + t.toNat := by omega
    have hsum : 0 ≤ rd x (i + t) + rd a i * rd b t + c := by omega
    have hs := val_set (l := x) (i := i + t) ((rd x (i + t) + rd a i * rd b t + c) % 1000000000) (by omega) (by omega)
    have hdm := Int.emod_add_mul_ediv (rd x (i + t) + rd a i * rd b t + c) 1000000000
    have htk : val (b.take (t.toNat + 1)) = val (b.take t.toNat) + pw t.toNat * rd b t := by
      have e : b.take (t.toNat + 1) = b.take t.toNat ++ [rd b t] := by
        rw [List.take_succ_eq_append_getElem (by omega), rd_lt (by omega)]
      rw [e, val_append, List.length_take, Nat.min_eq_left (by omega)]
      simp [val]
    have hp := pw_add i.toNat t.toNat
    have := ih (x.set (i + t).toNat ((rd x (i + t) + rd a i * rd b t + c) % 1000000000)) ((rd x (i + t) + rd a i * rd b t + c) / 1000000000) (t + 1) (hx.set _ (by omega)) (by rw [List.length_set]; exact hxl) (by omega) (by omega) (by omega) (by omega) (by omega)
      (by rw [hs, et, htk, eit, ← Nat.add_assoc, pw_succ, hp]; rw [hp] at hV; grind) (fun s hs => by rw [rd_set_ne _ (by omega)]; exact hz s (by omega))
    refine Ev.step (fun k => ?_) this
    simp only [nat_Mul.l1]
    rw [if_pos (by omega), w64 (x := i + t) (by omega) (by omega), if_pos (by omega), if_pos (by omega), if_pos hi0, if_pos hi1, if_pos h0, if_pos (by omega),
      w64 (x := rd a i * rd b t) (by omega) (by omega), w64 (x := rd x (i + t) + rd a i * rd b t) (by omega) (by omega), w64 (x := rd x (i + t) + rd a i * rd b t + c) (by omega) (by omega), tmod_e hsum, tdiv_e hsum, w64 (by omega) (by omega), w64 (by omega) (by omega)]
theorem take_step (a : List Int) (i : Nat) (h : i < a.length) : val (a.take (i + 1)) = val (a.take i) + pw i * rd a i := by
  have e : a.take (i + 1) = a.take i ++ [rd a i] := by
    rw [List.take_succ_eq_append_getElem h, rd_lt (by simpa using h)]; rfl
  rw [e, val_append, List.length_take, Nat.min_eq_left (by omega)]
  simp [val]
theorem ev_Mul_l0 (a b : List Int) (ha : Dig a) (hb : Dig b) (hal : a.length ≤ 1000) (hbl : b.length ≤ 1000) : ∀ (d : Nat) (x : List Int) (i : Int), Dig x → x.length = a.length + b.length + 1 → 0 ≤ i → i ≤ a.length → (a.length : Int) - i = d →
    val x = val (a.take i.toNat) * val b → (∀ s : Nat, i + b.length ≤ s → rd x s = 0) → Ev (fun k => nat_Mul.l0 k a b x a.length i) (fitS (val a * val b)) := by
  intro d
  induction d with
  | zero =>
    intro x i hx hxl h0 h1 hd hV hz
    have ei : i.toNat = a.length := by omega
    rw [ei, List.take_length] at hV
    refine Ev.step (f := fun k => nat_fitted.f k x) (fun k => ?_) (hV ▸ ev_fitted x hx (by omega))
    simp only [nat_Mul.l0]
    rw [if_neg (by omega)]
    cases nat_fitted.f k x with
    | none => rfl
    | some p => rfl
  | succ d ih =>
    intro x i hx hxl h0 h1 hd hV hz
    have ei : (i + 1).toNat = i.toNat + 1 := by omega
    have hts := take_step a i.toNat (by omega)
    have e2 : ((i.toNat : Nat) : Int) = i := by omega
    rw [e2] at hts
    have := ev_Mul_l1 a b ha hb hal hbl i h0 (by omega) a.length i (fitS (val a * val b)) (val x) (fun y hy hyl hyv hyz => by
      rw [w64 (by omega) (by omega)]
      exact ih y (i + 1) hy hyl (by omega) (by omega) (by omega) (by rw [ei, hts, hyv, hV]; grind) (fun s hs => hyz s (by omega))) b.length x 0 0 hx hxl (by omega) (by omega) (by omega) (by omega) (by omega) (by simp [val]) hz
    refine Ev.step (fun k => ?_) this
    simp only [nat_Mul.l0]
    rw [if_pos (by omega)]
def mulS (a b : List Int) : List Int × Int := if okN a = true ∧ okN b = true then fitS (val a * val b) else ([], 3)
theorem rd_rep (n : Nat) (s : Int) : rd (List.replicate n 0) s = 0 := by
  by_cases h : s.toNat < n
  · rw [rd_lt (by simpa using h)]; simp
  · rw [rd_ge (by simpa using h)]
theorem ev_Mul (a b : List Int) : Ev (fun k => nat_Mul.f k a b) (mulS a b) := by
  unfold mulS
  by_cases ca : okN a = true
  · by_cases cb : okN b = true
    · rw [if_pos ⟨ca, cb⟩]
      have oa := okN_iff.1 ca
      have ob := okN_iff.1 cb
      have hla := oa.1
      have hlb := ob.1
      refine Ev.bind (ev_Valid a) ?_
      rw [ca]
      simp only [if_true]
      refine Ev.bind (ev_Valid b) ?_
      rw [cb]
      have := ev_Mul_l0 a b oa.2.1 ob.2.1 (by omega) (by omega) a.length (List.replicate (a.length + b.length + 1) 0) 0 (Dig.rep _) (by simp) (by omega) (by omega) (by omega) (by rw [val_rep]; simp [val]) (fun s _ => rd_rep _ _)
      refine Ev.step (fun k => ?_) this
      simp only [nat_Mul.j0]
      have e : ((a.length : Int) + (b.length : Int) + 1).toNat = a.length + b.length + 1 := by omega
      rw [if_neg (by simp), w64 (x := (a.length : Int) + (b.length : Int)) (by omega) (by omega), w64 (x := (a.length : Int) + (b.length : Int) + 1) (by omega) (by omega), if_pos (by omega), if_pos (by omega), e]
    · rw [if_neg (fun h => cb h.2)]
      refine Ev.bind (ev_Valid a) ?_
      rw [ca]
      simp only [if_true]
      refine Ev.bind (ev_Valid b) ?_
      rw [Bool.eq_false_iff.2 cb]
      refine Ev.step (f := fun _ => some _) (fun k => ?_) (Ev.now _)
      simp [nat_Mul.j0]
  · rw [if_neg (fun h => ca h.1)]
    refine Ev.bind (ev_Valid a) ?_
    rw [Bool.eq_false_iff.2 ca]
    simp only [Bool.false_eq_true, if_false]
    refine Ev.step (f := fun _ => some _) (fun k => ?_) (Ev.now _)
    simp [nat_Mul.j0]
def ofS (n : Int) : List Int × Int := if n < 0 then ([], 1) else (dg n, 0)
theorem ev_Of_l0 : ∀ (j : Nat) (n : Int) (x : List Int), n < pw j → 0 ≤ n → n ≤ 9223372036854775807 → x.length + j ≤ 1000 → Ev (fun k => nat_Of.l0 k n x) (x ++ dg n, 0) := by
  intro j
  induction j with
  | zero =>
    intro n x h h0 h1 hx
    rw [pw_zero] at h
    have : n = 0 := by omega
    subst this
    refine Ev.step (f := fun _ => some _) (fun k => ?_) (Ev.now _)
    simp only [nat_Of.l0]
    rw [if_neg (by omega), dg_zero, List.append_nil]
  | succ j ih =>
    intro n x h h0 h1 hx
    rw [pw_succ] at h
    by_cases c : 0 < n
    · have := ih (n / 1000000000) (x ++ [n % 1000000000]) (by omega) (by omega) (by omega) Z20
      rw [List.append_assoc, List.singleton_append, ← dg_pos c] at this
      refine Ev.step (fun k => ?_) this
      simp only [nat_Of.l0]
      rw [if_pos c, if_pos (by omega), tdiv_e h0, tmod_e h0, w64 (by omega) (by omega)]
    · have : n = 0 := by omega
      subst this
      refine Ev.step (f := fun _ => some _) (fun k => ?_) (Ev.now _)
      simp only [nat_Of.l0]
      rw [if_neg (by omega), dg_zero, List.append_nil]
theorem ev_Of (n : Int) (h : n ≤ 9223372036854775807) : Ev (fun k => nat_Of.f k n) (ofS n) := by
  unfold ofS
  by_cases c : n < 0
  · rw [if_pos c]
    refine Ev.congr (f := fun _ => some _) (fun k => ?_) (Ev.now _)
    unfold nat_Of.f; rw [if_pos c]
  · rw [if_neg c]
    have hp : pw 3 = 1000000000000000000000000000 := by rw [pw_succ, pw_two]; rfl
    have := ev_Of_l0 3 n [] (by omega) (by omega) h (by simp)
    refine Ev.congr (fun k => ?_) this
    unfold nat_Of.f; rw [if_neg c]
theorem ev_short_l0 (a : List Int) (ha : Dig a) (hal : a.length ≤ 1000) (m : Int) (hm0 : 0 < m) (hm1 : m ≤ 1000000000) : ∀ (d : Nat) (x : List Int) (r : Int), d ≤ a.length → Dig x → x.length = a.length → 0 ≤ r → r < m →
    val (a.drop d) = m * val (x.drop d) + r → (∀ s : Nat, s < d → rd x s = 0) → Ev (fun k => nat_short.l0 k a m x r ((d : Int) - 1)) (dg (val a / m), dg (val a % m)) := by
  intro d
  induction d with
  | zero =>
    intro x r hd hx hxl hr0 hr1 hV hz
    simp only [List.drop_zero] at hV
    have hq : val a / m = val x := by rw [hV, Int.add_comm, Int.add_mul_ediv_left _ _ (by omega), Int.ediv_eq_zero_of_lt hr0 hr1]; omega
    have hrm : val a % m = r := by rw [hV, Int.add_comm, Int.add_mul_emod_self_left, Int.emod_eq_of_lt hr0 hr1]
    have hDr : Dig [r] := Dig.cons (by omega) Dig.nil
    have hvr : val [r] = r := by simp [val]
    rw [hq, hrm]
    have h2 := ev_trimmed [r] hDr (by simp)
    rw [hvr] at h2
    refine Ev.step (f := fun k => (nat_trimmed.f k x).bind fun t139 => ((nat_trimmed.f k (([r] : List Int))).bind fun t145 => (some (t139, t145)))) (fun k => ?_) (Ev.bind (ev_trimmed x hx (by omega)) (Ev.bind h2 (Ev.now _)))
    simp only [nat_short.l0]
    rw [if_neg (by omega)]
  | succ d ih =>
    intro x r hd hx hxl hr0 hr1 hV hz
    have e1 : (((d + 1 : Nat) : Int) - 1) = d := by omega
    have hra := ha.rd d
    have hs0 : 0 ≤ r * 1000000000 + rd a d := by omega
    have hdm := Int.emod_add_mul_ediv (r * 1000000000 + rd a d) m
    have hm2 := Int.emod_nonneg (r * 1000000000 + rd a d) (show m ≠ 0 by omega)
    have hm3 := Int.emod_lt_of_pos (r * 1000000000 + rd a d) hm0
    have hq0 : 0 ≤ (r * 1000000000 + rd a d) / m := Int.ediv_nonneg hs0 (by omega)
    have hq1 : (r * 1000000000 + rd a d) / m < 1000000000 := by
      apply Int.ediv_lt_of_lt_mul hm0
      have : (r + 1) * 1000000000 ≤ m * 1000000000 := by omega
      omega
    have hda := val_drop (l := a) (i := (d : Int)) (by omega) (by omega)
    have ed : ((d : Int)).toNat = d := by omega
    rw [ed] at hda
    have hdx := val_drop (l := x.set d ((r * 1000000000 + rd a d) / m)) (i := (d : Int)) (by omega) (by rw [List.length_set]; omega)
    rw [ed] at hdx
    have hrs := rd_set_eq (l := x) (i := (d : Int)) ((r * 1000000000 + rd a d) / m) (by omega)
    rw [ed] at hrs
    rw [hrs, List.drop_set_of_lt (show d < d + 1 by omega)] at hdx
    have := ih (x.set d ((r * 1000000000 + rd a d) / m)) ((r * 1000000000 + rd a d) % m) (by omega) (hx.set _ ⟨hq0, hq1⟩) (by rw [List.length_set]; exact hxl) hm2 hm3
      (by rw [hda, hdx, hV]; grind) (fun s hs => by
        have := rd_set_ne (l := x) (i := (d : Int)) (j := (s : Int)) ((r * 1000000000 + rd a d) / m) (by omega)
        rw [ed] at this
        rw [this]; exact hz s (by omega))
    refine Ev.step (fun k => ?_) this
    simp only [nat_short.l0]
    rw [e1, if_pos (by omega), if_pos (by omega), if_pos (by omega), if_neg (by omega), if_pos (by omega), w64 (x := r * 1000000000) (by omega) (by omega), w64 (x := r * 1000000000 + rd a d) (by omega) (by omega), tdiv_e hs0, tmod_e hs0, w64 (by omega) (by omega), w64 (x := (d : Int) - 1) (by omega) (by omega), ed]
theorem ev_short (a : List Int) (ha : Dig a) (hal : a.length ≤ 1000) (m : Int) (hm0 : 0 < m) (hm1 : m ≤ 1000000000) : Ev (fun k => nat_short.f k a m) (dg (val a / m), dg (val a % m)) := by
  have := ev_short_l0 a ha hal m hm0 hm1 a.length (List.replicate a.length 0) 0 (Nat.le_refl _) (Dig.rep _) (by simp) (by omega) (by omega) (by rw [List.drop_length, List.drop_eq_nil_of_le (by simp)]; simp [val]) (fun s _ => rd_rep _ _)
  refine Ev.congr (fun k => ?_) this
  unfold nat_short.f
  have e : ((a.length : Int)).toNat = a.length := by omega
  rw [if_pos (by omega), if_pos (by omega), e, w64 (by omega) (by omega)]
theorem ev_scaled_l0 (a : List Int) (ha : Dig a) (hal : a.length ≤ 1000) (m : Int) (hm0 : 0 ≤ m) (hm1 : m < 1000000000) : ∀ (d : Nat) (x : List Int) (c i : Int), Dig x → x.length = a.length + 1 → 0 ≤ i → i ≤ a.length → (a.length : Int) - i = d → 0 ≤ c → c < 1000000000 →
    val x + c * pw i.toNat = val (a.take i.toNat) * m → (∀ s : Nat, i ≤ s → rd x s = 0) → ∃ r, Ev (fun k => nat_scaled.l0 k a m x c a.length i) r ∧ Dig r ∧ r.length = a.length + 1 ∧ val r = val a * m := by
  intro d
  induction d with
  | zero =>
    intro x c i hx hxl h0 h1 hd hc0 hc1 hV hz
    have ei : i.toNat = a.length := by omega
    rw [ei, List.take_length] at hV
    have hs := val_set (l := x) (i := (a.length : Int)) c (by omega) (by omega)
    rw [hz a.length (by omega)] at hs
    have e2 : ((a.length : Int)).toNat = a.length := by omega
    rw [e2] at hs
    refine ⟨x.set a.length c, ?_, hx.set _ ⟨hc0, hc1⟩, by rw [List.length_set]; exact hxl, by rw [hs, Int.sub_zero]; exact hV⟩
    refine Ev.step (f := fun _ => some _) (fun k => ?_) (Ev.now _)
    simp only [nat_scaled.l0]
    rw [if_neg (by omega), if_pos (by omega), if_pos (by omega), e2]
  | succ d ih =>
    intro x c i hx hxl h0 h1 hd hc0 hc1 hV hz
    have hm := mul_lt (ha.rd i) ⟨hm0, hm1⟩
    have ei : (i + 1).toNat = i.toNat + 1 := by omega
    have hsum : 0 ≤ rd a i * m + c := by omega
    have hs := val_set (l := x) (i := i) ((rd a i * m + c) % 1000000000) h0 (by omega)
    have hz0 := hz i.toNat (by omega)
    have e2 : ((i.toNat : Nat) : Int) = i := by omega
    rw [e2] at hz0
    rw [hz0] at hs
    have hdm := Int.emod_add_mul_ediv (rd a i * m + c) 1000000000
    have hts := take_step a i.toNat (by omega)
    rw [e2] at hts
    obtain ⟨r, hr, h⟩ := ih (x.set i.toNat ((rd a i * m + c) % 1000000000)) ((rd a i * m + c) / 1000000000) (i + 1) (hx.set _ (by omega)) (by rw [List.length_set]; exact hxl) (by omega) (by omega) (by omega) (by omega) (by omega)
      (by rw [hs, ei, pw_succ, hts]; grind) (fun s hs => by rw [rd_set_ne _ (by omega)]; exact hz s (by omega))
    refine ⟨r, Ev.step (fun k => ?_) hr, h⟩
    simp only [nat_scaled.l0]
    rw [if_pos (by omega), if_pos h0, if_pos (by omega), if_pos (by omega), w64 (x := rd a i * m) (by omega) (by omega), w64 (x := rd a i * m + c) (by omega) (by omega), tmod_e hsum, tdiv_e hsum, w64 (by omega) (by omega), w64 (by omega) (by omega)]
theorem ev_scaled (a : List Int) (ha : Dig a) (hal : a.length ≤ 1000) (m : Int) (hm0 : 0 ≤ m) (hm1 : m < 1000000000) : ∃ r, Ev (fun k => nat_scaled.f k a m) r ∧ Dig r ∧ r.length = a.length + 1 ∧ val r = val a * m := by
  obtain ⟨r, hr, h⟩ := ev_scaled_l0 a ha hal m hm0 hm1 a.length (List.replicate (a.length + 1) 0) 0 0 (Dig.rep _) (by simp) (by omega) (by omega) (by omega) (by omega) (by omega) (by rw [val_rep]; simp [val]) (fun s _ => rd_rep _ _)
  refine ⟨r, Ev.congr (fun k => ?_) hr, h⟩
  unfold nat_scaled.f
  have e : ((a.length : Int) + 1).toNat = a.length + 1 := by omega
  rw [w64 (by omega) (by omega), if_pos (by omega), if_pos (by omega), e]
theorem ev_small_l0 (a : List Int) (ha : Dig a) (hal : a.length ≤ 2) : ∀ (d : Nat), d ≤ a.length → Ev (fun k => nat_small.l0 k a (val (a.drop d)) ((d : Int) - 1)) (val a) := by
  intro d
  induction d with
  | zero =>
    intro hd
    refine Ev.step (f := fun _ => some _) (fun k => ?_) (Ev.now _)
    simp only [nat_small.l0]
    rw [if_neg (by omega)]; rfl
  | succ d ih =>
    intro hd
    have e1 : (((d + 1 : Nat) : Int) - 1) = d := by omega
    have hda := val_drop (l := a) (i := (d : Int)) (by omega) (by omega)
    have ed : ((d : Int)).toNat = d := by omega
    rw [ed] at hda
    have h1 := val_nonneg (ha.drop (d + 1))
    have h2 := val_lt (ha.drop (d + 1))
    have h3 := pw_le (show (a.drop (d + 1)).length ≤ 1 by rw [List.length_drop]; omega)
    rw [pw_one] at h3
    have hr := ha.rd d
    refine Ev.step (fun k => ?_) (ih (by omega))
    simp only [nat_small.l0]
    rw [e1, if_pos (by omega), if_pos (by omega), if_pos (by omega), w64 (x := val (a.drop (d + 1)) * 1000000000) (by omega) (by omega), w64 (by omega) (by omega), w64 (x := (d : Int) - 1) (by omega) (by omega), hda]
    congr 1; omega
theorem ev_small (a : List Int) (ha : Dig a) (hal : a.length ≤ 2) : Ev (fun k => nat_small.f k a) (val a) := by
  have := ev_small_l0 a ha hal a.length (Nat.le_refl _)
  rw [List.drop_length] at this
  refine Ev.congr (fun k => ?_) this
  unfold nat_small.f
  rw [w64 (by omega) (by omega)]; rfl
end Go.Proofs.Ytbjamhkhocjdkaa.Px
namespace Go.Proofs.Ytbjamhkhocjdkaa.Px
open Go.RowKit Go.Proofs.YtbjamhkhocjdkaaW.PrintWords Go.Proofs.YtbjamhkhocjdkaaW.PrintLast Go.Proofs.YtbjamhkhocjdkaaW.PrintMore
set_option linter.unusedVariables false
def ZR (pre post : List Int) (e : Nat) (W : World) (base : Nat) (ok : Nat → Prop) (v : Value) (xs : List Int) : Prop :=
  ∃ g cap, v = .slice (some ⟨g, pre.length, none⟩) xs.length (cap - pre.length) ∧ (Kd.int .i64).R e W base ok (.slice (some ⟨g, 0, none⟩) (pre ++ xs ++ post).length cap) (pre ++ xs ++ post)
section
variable {pre post : List Int} {e : Nat} {w w1 W : World} {base : Nat} {ok ok' : Nat → Prop} {v : Value} {xs : List Int}
theorem ZR_mono (h : ZR pre post e w base ok v xs) (hok : ∀ k, ok k → ok' k) : ZR pre post e w base ok' v xs := by
  obtain ⟨g, cap, hv, hr⟩ := h
  exact ⟨g, cap, hv, Kd.R_mono hr hok⟩
theorem ZR_slice (h : ZR pre post e w base ok v xs) : ∃ A c, v = .slice A xs.length c := by
  obtain ⟨g, cap, hv, hr⟩ := h
  exact ⟨_, _, hv⟩
theorem ZR_ok (h : ZR pre post e w base ok v xs) : ∀ k, v.ownBlock = some k → ok k := by
  obtain ⟨g, cap, rfl, hr⟩ := h
  exact fun k hk => hr.1 k hk
theorem ZR_alloc (h : ZR pre post e w base ok v xs) (o : Obj) : ZR pre post e (w.alloc o) base ok v xs := by
  obtain ⟨g, cap, hv, hr⟩ := h
  exact ⟨g, cap, hv, Kd.R_alloc hr o⟩
theorem ZR_drew (h : ZR pre post e w base ok v xs) : ZR pre post e w.drew base ok v xs := by
  obtain ⟨g, cap, hv, hr⟩ := h
  exact ⟨g, cap, hv, Kd.R_drew hr⟩
theorem ZR_drewN (h : ZR pre post e w base ok v xs) (m : Nat) : ZR pre post e (w.drewN m) base ok v xs := by
  obtain ⟨g, cap, hv, hr⟩ := h
  exact ⟨g, cap, hv, Kd.R_drewN hr m⟩
theorem addr_add (g off j : Nat) : (⟨g, off, none⟩ : Addr).add j = ⟨g, off + j, none⟩ := by unfold Addr.add; split <;> simp_all
theorem C_part {g cap : Nat} (h : (Kd.int .i64).C w (some ⟨g, 0, none⟩) (pre ++ xs ++ post).length (pre ++ xs ++ post)) :
    (Kd.int .i64).C w (some ⟨g, pre.length, none⟩) xs.length xs := by
  have hr := Kd.reads_of_C (enc := Value.int .i64) (d := (0 : Int)) (h1 := fun _ => rfl) h
  refine Kd.C_of_reads (enc := Value.int .i64) (d := (0 : Int)) ⟨rfl, ?_, fun hn => ?_⟩
  · have := hr.2.1; simp only [List.length_append] at this; omega
  · obtain ⟨ad, e1, hc⟩ := hr.2.2 (by simp only [List.length_append]; omega)
    injection e1 with e1
    subst e1
    refine ⟨_, rfl, fun j hj => ?_⟩
    have h2 := hc (pre.length + j) (by simp only [List.length_append]; omega)
    rw [add_plain] at h2
    rw [addr_add, h2]
    congr 2
    rw [List.append_assoc, List.getD_eq_getElem?_getD, List.getD_eq_getElem?_getD, List.getElem?_append_right (by omega), List.getElem?_append_left (by omega)]
    congr 2; omega
theorem ZR_reads' {A : Option Addr} {n c : Nat} (h : ZR pre post e w base ok (.slice A n c) xs) : n = xs.length ∧ n ≤ c ∧ (Kd.int .i64).C w A xs.length xs := by
  obtain ⟨g, cap, hv, hr⟩ := h
  injection hv with h1 h2 h3
  subst h1
  obtain ⟨-, hle, hc⟩ := Kd.R_reads' hr
  refine ⟨h2, ?_, C_part (cap := cap) hc⟩
  simp only [List.length_append] at hle; omega
theorem ZR_form (h : ZR pre post e w base ok v xs) (hp : 0 < xs.length) : ∃ g cap, v = .slice (some ⟨g, pre.length, none⟩) xs.length cap ∧ base ≤ g ∧ g < w.heap.size ∧ ∃ cells, w.heap[g]? = some (.cells cells e (0, 0)) := by
  obtain ⟨g, cap, hv, hr⟩ := h
  obtain ⟨g', cap', he, hb, hl, cells, hc⟩ := Kd.R_form hr (by simp only [List.length_append]; omega)
  injection he with h1 h2 h3
  injection h1 with h1
  injection h1 with h1
  subst h1
  exact ⟨g, _, hv, hb, hl, cells, hc⟩
variable {g n c : Nat}
theorem ZR_celln (_z : Int) (h : ZR pre post e W base ok (.slice (some ⟨g, pre.length, none⟩) n c) xs) (i : Int) (h0 : 0 ≤ i) (hi : i < n) : W.cell? ⟨g, pre.length + i.toNat, none⟩ = some (.int .i64 (rd xs i)) ∧ W.frozen? ⟨g, pre.length + i.toNat, none⟩ = false := by
  obtain ⟨g', cap, hv, hr⟩ := h
  injection hv with h1 h2 h3
  injection h1 with h1
  injection h1 with h1
  subst h1
  obtain ⟨ha, hb⟩ := Kd.R_celln 0 hr ((pre.length : Int) + i) (by omega) (by simp only [List.length_append]; omega)
  have he : ((pre.length : Int) + i).toNat = pre.length + i.toNat := by omega
  rw [he] at ha hb
  refine ⟨?_, hb⟩
  rw [ha]
  congr 2
  unfold rdOf rd
  rw [he, List.append_assoc, List.getD_eq_getElem?_getD, List.getD_eq_getElem?_getD, List.getElem?_append_right (by omega), List.getElem?_append_left (by omega)]
  congr 2; omega
theorem ZR_putg (h : ZR pre post e W base ok (.slice (some ⟨g, pre.length, none⟩) n c) xs) (i : Int) (h0 : 0 ≤ i) (hi : i < n) (x : Int) : ZR pre post e (W.setCell ⟨g, pre.length + i.toNat, none⟩ (.int .i64 x)) base ok (.slice (some ⟨g, pre.length, none⟩) n c) (xs.set i.toNat x) ∧ W.grownBy (W.setCell ⟨g, pre.length + i.toNat, none⟩ (.int .i64 x)) (some g) := by
  obtain ⟨g', cap, hv, hr⟩ := h
  injection hv with h1 h2 h3
  injection h1 with h1
  injection h1 with h1
  subst h1
  obtain ⟨ha, hb⟩ := Kd.R_putg hr ((pre.length : Int) + i.toNat) x
  have he : ((pre.length : Int) + i.toNat).toNat = pre.length + i.toNat := by omega
  rw [he] at ha hb
  refine ⟨⟨g, cap, by rw [List.length_set, h2, h3], ?_⟩, hb⟩
  by_cases hx : i.toNat < xs.length
  · have hs : (pre ++ xs ++ post).set (pre.length + i.toNat) x = pre ++ xs.set i.toNat x ++ post := by
      rw [List.append_assoc, List.set_append_right _ _ (by omega), List.set_append_left _ _ (by omega), List.append_assoc]
      congr 2; congr 1; omega
    rw [hs] at ha
    have hl : (pre ++ xs.set i.toNat x ++ post).length = (pre ++ xs ++ post).length := by simp
    rw [hl]; exact ha
  · omega
theorem ZR_back (h : ZR pre post e W base ok (.slice (some ⟨g, pre.length, none⟩) n (c - pre.length)) xs) (hc : pre.length < c) (hn : 0 < n) :
    xs.length = n ∧ (Kd.int .i64).R e W base ok (.slice (some ⟨g, 0, none⟩) (pre ++ xs ++ post).length c) (pre ++ xs ++ post) := by
  obtain ⟨g', cap, hv, hr⟩ := h
  injection hv with h1 h2 h3
  injection h1 with h1
  injection h1 with h1
  subst h1
  have h4 := (Kd.R_reads' hr).2.1
  simp only [List.length_append] at h4
  obtain rfl : c = cap := by omega
  exact ⟨h2.symm, hr⟩
theorem ZR_of (h : (Kd.int .i64).R e W base ok (.slice (some ⟨g, 0, none⟩) (pre ++ xs ++ post).length c) (pre ++ xs ++ post)) :
    ZR pre post e W base ok (.slice (some ⟨g, pre.length, none⟩) xs.length (c - pre.length)) xs := ⟨g, c, rfl, h⟩
theorem R_drawn (h : (Kd.int .i64).R e w base ok v xs) (hd : Drawn0 w w1) : (Kd.int .i64).R e w1 base ok v xs := by
  obtain ⟨m, rfl⟩ := hd.out
  exact Kd.R_drewN h m
theorem below_drawn {b : Nat} {w0 : World} (h : Below b w0 w) (hd : Drawn0 w w1) : Below b w0 w1 := by
  obtain ⟨m, rfl⟩ := hd.out
  exact pw_below_drewN h m
theorem kept_not {v : Value} {ys : List Int} {g' : Nat} (hk : Kept w w1 (fun k => k = g)) (h : (Kd.int .i64).R e w base (fun k => k = g') v ys) (hne : g ≠ g') : (Kd.int .i64).R e w1 base (fun k => k = g') v ys :=
  Kd.R_step h (fun k h1 h2 => hk.2 k h2 (fun e => hne (e.symm.trans h1)))
end
end Go.Proofs.Ytbjamhkhocjdkaa.Px
namespace Go.Proofs.Ytbjamhkhocjdkaa.Px
open Go.RowKit Go.Proofs.YtbjamhkhocjdkaaW.PrintWords Go.Proofs.YtbjamhkhocjdkaaW.PrintLast Go.Proofs.YtbjamhkhocjdkaaW.PrintMore
set_option linter.unusedVariables false
set_option linter.unusedSimpArgs false
def nat_reduce.l0 : Nat → List Int → List Int → Int → Int → Int → Int → Option (Bool × List Int)
  | 0, _, _, _, _, _, _ => none
  | k + 1, x0, x1, x2, x7, x11, x12 => if x12 < x11 then (if 0 ≤ x12 then (if x12 < (x0.length : Int) then (if x12 < (x1.length : Int) then (if (wrap64 ((wrap64 ((rd x0 x12) - x7)) - (wrap64 (x2 * (rd x1 x12))))) < 0 then (nat_reduce.l0 k (x0.set (x12 : Int).toNat (wrap64 ((wrap64 ((wrap64 ((rd x0 x12) - x7)) - (wrap64 (x2 * (rd x1 x12))))) + (wrap64 ((wrap64 (Int.tdiv (wrap64 ((wrap64 ((wrap64 (-(wrap64 ((wrap64 ((rd x0 x12) - x7)) - (wrap64 (x2 * (rd x1 x12))))))) + 1000000000)) - 1)) 1000000000)) * 1000000000))))) x1 x2 (wrap64 (Int.tdiv (wrap64 ((wrap64 ((wrap64 (-(wrap64 ((wrap64 ((rd x0 x12) - x7)) - (wrap64 (x2 * (rd x1 x12))))))) + 1000000000)) - 1)) 1000000000)) x11 (wrap64 (x12 + 1))) else (nat_reduce.l0 k (x0.set (x12 : Int).toNat (wrap64 ((wrap64 ((rd x0 x12) - x7)) - (wrap64 (x2 * (rd x1 x12)))))) x1 x2 0 x11 (wrap64 (x12 + 1)))) else (if (wrap64 ((rd x0 x12) - x7)) < 0 then (nat_reduce.l0 k (x0.set (x12 : Int).toNat (wrap64 ((wrap64 ((rd x0 x12) - x7)) + (wrap64 ((wrap64 (Int.tdiv (wrap64 ((wrap64 ((wrap64 (-(wrap64 ((rd x0 x12) - x7)))) + 1000000000)) - 1)) 1000000000)) * 1000000000))))) x1 x2 (wrap64 (Int.tdiv (wrap64 ((wrap64 ((wrap64 (-(wrap64 ((rd x0 x12) - x7)))) + 1000000000)) - 1)) 1000000000)) x11 (wrap64 (x12 + 1))) else (nat_reduce.l0 k (x0.set (x12 : Int).toNat (wrap64 ((rd x0 x12) - x7))) x1 x2 0 x11 (wrap64 (x12 + 1))))) else (none)) else (none)) else (some (decide (x7 > 0), x0))
def nat_reduce.f (k : Nat) (l0 : List Int) (l1 : List Int) (a2 : Int) : Option (Bool × List Int) := nat_reduce.l0 k l0 l1 a2 0 (l0.length : Int) 0
def nat_restore.l0 : Nat → List Int → List Int → Int → Int → Int → Option (List Int)
  | 0, _, _, _, _, _ => none
  | k + 1, x0, x1, x4, x8, x9 => if x9 < x8 then (if 0 ≤ x9 then (if x9 < (x0.length : Int) then (if x9 < (x1.length : Int) then (nat_restore.l0 k (x0.set (x9 : Int).toNat (Int.tmod (wrap64 ((wrap64 ((rd x0 x9) + x4)) + (rd x1 x9))) 1000000000)) x1 (wrap64 (Int.tdiv (wrap64 ((wrap64 ((rd x0 x9) + x4)) + (rd x1 x9))) 1000000000)) x8 (wrap64 (x9 + 1))) else (nat_restore.l0 k (x0.set (x9 : Int).toNat (Int.tmod (wrap64 ((rd x0 x9) + x4)) 1000000000)) x1 (wrap64 (Int.tdiv (wrap64 ((rd x0 x9) + x4)) 1000000000)) x8 (wrap64 (x9 + 1)))) else (none)) else (none)) else (some x0)
def nat_restore.f (k : Nat) (l0 : List Int) (l1 : List Int) : Option (List Int) := nat_restore.l0 k l0 l1 0 (l0.length : Int) 0
set_option maxHeartbeats 8000000 in
set_option maxRecDepth 100000 in
theorem nat_reduce.callsZ (pre post : List Int) (k : Nat) (P0_ : Nat → Prop) (u9000_ : Value) (l0 : List Int) (A1 : Option Addr) (c1 : Nat) (l1 : List Int) (a2 : Int) (r1 : Bool) (r2 : List Int) (w0 w : World) (hB : Below w0.heap.size w0 w) (ho0 : ZR pre post 3 w w0.heap.size P0_ u9000_ l0) (hr1 : ∀ W_, Kept w W_ (fun k_ => P0_ k_) → Kd.C (Kd.int .i64) W_ A1 l1.length l1) (hc1 : l1.length ≤ c1) (h : nat_reduce.f k l0 l1 a2 = some (r1, r2)) :
    Calls Try.prog 92 #[u9000_, .slice A1 l1.length c1, .int .i64 a2] w fun e w' => e = .returned (.bool r1) ∧ ZR pre post 3 w' w0.heap.size (fun k_ => (P0_ k_ ∨ w.heap.size ≤ k_)) u9000_ r2 ∧ Below w0.heap.size w0 w' ∧ Kept w w' (fun k_ => P0_ k_) := by
  have HO0 := Aside0.mk (show ZR pre post 3 w w0.heap.size (fun k_ => (P0_ k_ ∨ w.heap.size ≤ k_)) u9000_ l0 from ZR_mono ho0 (fun k_ hk => (.inl hk)))
  have HR1 := Aside0.mk hr1
  have HC1 := Aside0.mk hc1
  clear hr1 hc1
  have HK := Aside0.mk (Kept.refl w (fun k_ => P0_ k_))
  have HW0 := Aside0.mk hB.size
  have HB := Aside0.mk hB
  clear hB
  have H : (nat_reduce.l0 k l0 l1 a2 0 (l0.length : Int) 0) = some (r1, r2) := h
  clear h
  have H' := Aside0.mk H
  clear H
  obtain ⟨Ao4, co4, eo4⟩ := ZR_slice HO0.out
  subst eo4
  go_enter Try.func92, Try.ntmps92
  go_wp2
  go_loopg [7, 12] k (fun kq v7 v12 w' => ∃ (x0_1 : List Int) (x7_1 : Int) (x12_1 : Int), v7 = .int .i64 x7_1 ∧ v12 = .int .i64 x12_1 ∧ Aside0 (nat_reduce.l0 kq x0_1 l1 a2 x7_1 (l0.length : Int) x12_1 = some (r1, r2)) ∧ Aside0 (kq ≤ k) ∧ Aside0 (ZR pre post 3 w' w0.heap.size (fun k_ => (P0_ k_ ∨ w.heap.size ≤ k_)) (.slice Ao4 l0.length co4) x0_1) ∧ Aside0 (Kept w w' (fun k_ => P0_ k_)) ∧ Aside0 (Below w0.heap.size w0 w'))
  case atStart => exact ⟨(l0), (0), (0), Z4, Z4, H', ⟨Nat.le_refl _⟩, ⟨by (with_reducible repeat (first | apply ZR_alloc | apply ZR_drewN | apply ZR_drew)); exact HO0.out⟩, ⟨by repeat (first | (with_reducible first | exact HK.out | apply Kept.alloc | apply Kept.drewN | apply Kept.drew) | exact HK.out)⟩, ⟨by repeat (first | (with_reducible first | exact HB.out | apply below_alloc | apply pw_below_drewN | apply below_drew1) | exact HB.out)⟩⟩
  case round =>
    clear H'
    try clear c1
    try clear p2
    obtain ⟨x0_1, x7_1, x12_1, rfl, rfl, HA, HK1, HO_0, HK, HB⟩ := hrel
    have hl0_1 := (ZR_reads' HO_0.out).1
    rw [hl0_1] at HO_0
    (try simp only [hl0_1])
    cases gk with
    | zero => exact absurd HA.out (by simp [nat_reduce.l0])
    | succ k1 =>
      have H := HA.out
      clear HA
      simp only [nat_reduce.l0] at H
      by_cases c5 : x12_1 < (l0.length : Int)
      · rw [if_pos c5] at H
        have c5b0 : decide (x12_1 < (l0.length : Int)) = true := decide_eq_true c5
        clear c5
        by_cases c6 : 0 ≤ x12_1
        · rw [if_pos c6] at H
          have c6b0 : decide (0 ≤ x12_1) = true := decide_eq_true c6
          clear c6
          by_cases c7 : x12_1 < (x0_1.length : Int)
          · rw [if_pos c7] at H
            have c7b0 : decide (x12_1 < (x0_1.length : Int)) = true := decide_eq_true c7
            clear c7
            by_cases c8 : x12_1 < (l1.length : Int)
            · rw [if_pos c8] at H
              have c8b0 : decide (x12_1 < (l1.length : Int)) = true := decide_eq_true c8
              clear c8
              by_cases c9 : (wrap64 ((wrap64 ((rd x0_1 x12_1) - x7_1)) - (wrap64 (a2 * (rd l1 x12_1))))) < 0
              · rw [if_pos c9] at H
                have c9b0 : decide ((wrap64 ((wrap64 ((rd x0_1 x12_1) - x7_1)) - (wrap64 (a2 * (rd l1 x12_1))))) < 0) = true := decide_eq_true c9
                clear c9
                obtain ⟨y189, hy189⟩ : ∃ y_ : List Int, y_ = (x0_1.set (x12_1 : Int).toNat (wrap64 ((wrap64 ((wrap64 ((rd x0_1 x12_1) - x7_1)) - (wrap64 (a2 * (rd l1 x12_1))))) + (wrap64 ((wrap64 (Int.tdiv (wrap64 ((wrap64 ((wrap64 (-(wrap64 ((wrap64 ((rd x0_1 x12_1) - x7_1)) - (wrap64 (a2 * (rd l1 x12_1))))))) + 1000000000)) - 1)) 1000000000)) * 1000000000))))) := ⟨_, rfl⟩
                replace H : (nat_reduce.l0 k1 y189 l1 a2 (wrap64 (Int.tdiv (wrap64 ((wrap64 ((wrap64 (-(wrap64 ((wrap64 ((rd x0_1 x12_1) - x7_1)) - (wrap64 (a2 * (rd l1 x12_1))))))) + 1000000000)) - 1)) 1000000000)) (l0.length : Int) (wrap64 (x12_1 + 1))) = some (r1, r2) := by first | (rw [hy189]; with_reducible exact H) | (have H2_ := (Option.bind_some _ _).symm.trans H; rw [hy189]; with_reducible exact H2_) | (have H2_ := (Option.bind_some _ _).symm.trans H; with_reducible exact H2_) | with_reducible exact H | (rw [hy189]; exact H) | exact H
                have Ny189 := Aside0.mk hy189
                clear hy189
                have H' := Aside0.mk H
                clear H
                have p187 : 0 ≤ (x12_1 : Int) := of_decide_eq_true Z1
                have q187 : x12_1 < (x0_1.length : Int) := of_decide_eq_true Z1
                obtain ⟨ad187, e187, hx187_0⟩ := Kd.at_int (ZR_reads' HO_0.out).2.2 x12_1 p187 q187
                cases e187
                replace p187 := eq_true p187
                replace q187 := eq_true q187
                have p188 : 0 ≤ (x12_1 : Int) := of_decide_eq_true Z1
                have q188 : x12_1 < (l1.length : Int) := of_decide_eq_true Z1
                obtain ⟨ad188, e188, hx188_0⟩ := Kd.at_int (Kd.C_kept_now HR1.out HK.out) x12_1 p188 q188
                cases e188
                replace p188 := eq_true p188
                replace q188 := eq_true q188
                have p10 : 0 ≤ (x12_1 : Int) := of_decide_eq_true Z1
                have q10 : (x12_1 : Int) < ((x0_1.length : Int) : Int) := of_decide_eq_true Z1
                obtain ⟨go10, co10, eo10, gb10, gl10, cl10, HG10⟩ := ZR_form HO_0.out (by omega)
                (first | cases eo10 | (injection eo10 with ea_ en_ ec_; (first | subst ea_ | (injection ea_ with ea_; subst ea_)); subst ec_; clear en_))
                have GB10 := Aside0.mk gb10
                have GG10 := Aside0.mk HG10
                clear gb10 gl10 HG10
                have HMgo10 := Aside0.mk (show (P0_ go10 ∨ w.heap.size ≤ go10) from (ZR_ok HO_0.out _ rfl))
                (first | simp only [addr_add] at hx187_0 | skip)
                obtain ⟨hx10_0, hf10_0⟩ := ZR_celln 0 HO_0.out (x12_1 : Int) p10 q10
                replace p10 := eq_true p10
                replace q10 := eq_true q10
                have HP11 := ZR_putg HO_0.out (x12_1 : Int) (of_eq_true p10) (of_eq_true q10) (wrap64 ((wrap64 ((wrap64 ((rd x0_1 x12_1) - x7_1)) - (wrap64 (a2 * (rd l1 x12_1))))) + (wrap64 ((wrap64 (Int.tdiv (wrap64 ((wrap64 ((wrap64 (-(wrap64 ((wrap64 ((rd x0_1 x12_1) - x7_1)) - (wrap64 (a2 * (rd l1 x12_1))))))) + 1000000000)) - 1)) 1000000000)) * 1000000000))))
                go_wp2_with (first | ((with_reducible refine gate_store (t := 3) (p := 47) rfl ?_); refine store_event (t := 3) (p := 47) (v := ?vo_w12) (w1 := (wr.setCell ⟨go10, pre.length + (x12_1 : Int).toNat, none⟩ (.int .i64 (wrap64 ((wrap64 ((wrap64 ((rd x0_1 x12_1) - x7_1)) - (wrap64 (a2 * (rd l1 x12_1))))) + (wrap64 ((wrap64 (Int.tdiv (wrap64 ((wrap64 ((wrap64 (-(wrap64 ((wrap64 ((rd x0_1 x12_1) - x7_1)) - (wrap64 (a2 * (rd l1 x12_1))))))) + 1000000000)) - 1)) 1000000000)) * 1000000000))))))) ?hg ?ho ?hn ?hr ?_; (case ho => rfl); (case hg => rfl); (case hn => rfl); (case hr => first | (go_simp; done) | (go_simp; rfl)); intro w12 hw; have hg : wr.grownBy w12 (some go10) := (by rw [hw]; exact HP11.2); have hp_ : ZR pre post 3 w12 w0.heap.size (fun k_ => (P0_ k_ ∨ w.heap.size ≤ k_)) (.slice (some ⟨go10, pre.length, none⟩) x0_1.length co4) y189 := (by rw [hw, Ny189.out]; exact HP11.1); clear HP11; have n0_ := Aside0.mk (hp_); have n1_ := Aside0.mk ((by rw [hw]; exact below_set (HB.out) GB10.out : Below w0.heap.size w0 w12)); have n2_ := Aside0.mk (Kept.of_grown (S := (fun k_ => P0_ k_)) hg Z14 (fun k_ e_ => (ZR_ok HO_0.out k_ e_))); clear HO_0; clear HB; clear HK; have HO_0 := n0_; have HB := n1_; have HK := n2_; clear n0_ n1_ n2_; clear hg hw hp_))
                (try simp only [← hl0_1])
                go_roundg k1
                case measure => have := HK1.out; omega
                case rel => exact ⟨(y189), (wrap64 (Int.tdiv (wrap64 ((wrap64 ((wrap64 (-(wrap64 ((wrap64 ((rd x0_1 x12_1) - x7_1)) - (wrap64 (a2 * (rd l1 x12_1))))))) + 1000000000)) - 1)) 1000000000)), (wrap64 (x12_1 + 1)), Z4, Z4, H', ⟨by have := HK1.out; omega⟩, ⟨by (try simp only [hl0_1]); (with_reducible repeat (first | apply ZR_alloc | apply ZR_drewN | apply ZR_drew)); exact HO_0.out⟩, ⟨by repeat (first | (with_reducible first | exact HK.out | apply Kept.alloc | apply Kept.drewN | apply Kept.drew) | exact HK.out)⟩, ⟨by repeat (first | (with_reducible first | exact HB.out | apply below_alloc | apply pw_below_drewN | apply below_drew1) | exact HB.out)⟩⟩
              · rw [if_neg c9] at H
                have c9b0 : decide ((wrap64 ((wrap64 ((rd x0_1 x12_1) - x7_1)) - (wrap64 (a2 * (rd l1 x12_1))))) < 0) = false := decide_eq_false c9
                clear c9
                obtain ⟨y190, hy190⟩ : ∃ y_ : List Int, y_ = (x0_1.set (x12_1 : Int).toNat (wrap64 ((wrap64 ((rd x0_1 x12_1) - x7_1)) - (wrap64 (a2 * (rd l1 x12_1)))))) := ⟨_, rfl⟩
                replace H : (nat_reduce.l0 k1 y190 l1 a2 0 (l0.length : Int) (wrap64 (x12_1 + 1))) = some (r1, r2) := by first | (rw [hy190]; with_reducible exact H) | (have H2_ := (Option.bind_some _ _).symm.trans H; rw [hy190]; with_reducible exact H2_) | (have H2_ := (Option.bind_some _ _).symm.trans H; with_reducible exact H2_) | with_reducible exact H | (rw [hy190]; exact H) | exact H
                have Ny190 := Aside0.mk hy190
                clear hy190
                have H' := Aside0.mk H
                clear H
                have p187 : 0 ≤ (x12_1 : Int) := of_decide_eq_true Z1
                have q187 : x12_1 < (x0_1.length : Int) := of_decide_eq_true Z1
                obtain ⟨ad187, e187, hx187_0⟩ := Kd.at_int (ZR_reads' HO_0.out).2.2 x12_1 p187 q187
                cases e187
                replace p187 := eq_true p187
                replace q187 := eq_true q187
                have p188 : 0 ≤ (x12_1 : Int) := of_decide_eq_true Z1
                have q188 : x12_1 < (l1.length : Int) := of_decide_eq_true Z1
                obtain ⟨ad188, e188, hx188_0⟩ := Kd.at_int (Kd.C_kept_now HR1.out HK.out) x12_1 p188 q188
                cases e188
                replace p188 := eq_true p188
                replace q188 := eq_true q188
                have p13 : 0 ≤ (x12_1 : Int) := of_decide_eq_true Z1
                have q13 : (x12_1 : Int) < ((x0_1.length : Int) : Int) := of_decide_eq_true Z1
                obtain ⟨go13, co13, eo13, gb13, gl13, cl13, HG13⟩ := ZR_form HO_0.out (by omega)
                (first | cases eo13 | (injection eo13 with ea_ en_ ec_; (first | subst ea_ | (injection ea_ with ea_; subst ea_)); subst ec_; clear en_))
                have GB13 := Aside0.mk gb13
                have GG13 := Aside0.mk HG13
                clear gb13 gl13 HG13
                have HMgo13 := Aside0.mk (show (P0_ go13 ∨ w.heap.size ≤ go13) from (ZR_ok HO_0.out _ rfl))
                (first | simp only [addr_add] at hx187_0 | skip)
                obtain ⟨hx13_0, hf13_0⟩ := ZR_celln 0 HO_0.out (x12_1 : Int) p13 q13
                replace p13 := eq_true p13
                replace q13 := eq_true q13
                have HP14 := ZR_putg HO_0.out (x12_1 : Int) (of_eq_true p13) (of_eq_true q13) (wrap64 ((wrap64 ((rd x0_1 x12_1) - x7_1)) - (wrap64 (a2 * (rd l1 x12_1)))))
                go_wp2_with (first | ((with_reducible refine gate_store (t := 3) (p := 47) rfl ?_); refine store_event (t := 3) (p := 47) (v := ?vo_w15) (w1 := (wr.setCell ⟨go13, pre.length + (x12_1 : Int).toNat, none⟩ (.int .i64 (wrap64 ((wrap64 ((rd x0_1 x12_1) - x7_1)) - (wrap64 (a2 * (rd l1 x12_1)))))))) ?hg ?ho ?hn ?hr ?_; (case ho => rfl); (case hg => rfl); (case hn => rfl); (case hr => first | (go_simp; done) | (go_simp; rfl)); intro w15 hw; have hg : wr.grownBy w15 (some go13) := (by rw [hw]; exact HP14.2); have hp_ : ZR pre post 3 w15 w0.heap.size (fun k_ => (P0_ k_ ∨ w.heap.size ≤ k_)) (.slice (some ⟨go13, pre.length, none⟩) x0_1.length co4) y190 := (by rw [hw, Ny190.out]; exact HP14.1); clear HP14; have n0_ := Aside0.mk (hp_); have n1_ := Aside0.mk ((by rw [hw]; exact below_set (HB.out) GB13.out : Below w0.heap.size w0 w15)); have n2_ := Aside0.mk (Kept.of_grown (S := (fun k_ => P0_ k_)) hg Z14 (fun k_ e_ => (ZR_ok HO_0.out k_ e_))); clear HO_0; clear HB; clear HK; have HO_0 := n0_; have HB := n1_; have HK := n2_; clear n0_ n1_ n2_; clear hg hw hp_))
                (try simp only [← hl0_1])
                go_roundg k1
                case measure => have := HK1.out; omega
                case rel => exact ⟨(y190), (0), (wrap64 (x12_1 + 1)), Z4, Z4, H', ⟨by have := HK1.out; omega⟩, ⟨by (try simp only [hl0_1]); (with_reducible repeat (first | apply ZR_alloc | apply ZR_drewN | apply ZR_drew)); exact HO_0.out⟩, ⟨by repeat (first | (with_reducible first | exact HK.out | apply Kept.alloc | apply Kept.drewN | apply Kept.drew) | exact HK.out)⟩, ⟨by repeat (first | (with_reducible first | exact HB.out | apply below_alloc | apply pw_below_drewN | apply below_drew1) | exact HB.out)⟩⟩
            · rw [if_neg c8] at H
              have c8b0 : decide (x12_1 < (l1.length : Int)) = false := decide_eq_false c8
              (try simp only [hl0_1] at c8b0)
              clear c8
              by_cases c16 : (wrap64 ((rd x0_1 x12_1) - x7_1)) < 0
              · rw [if_pos c16] at H
                have c16b0 : decide ((wrap64 ((rd x0_1 x12_1) - x7_1)) < 0) = true := decide_eq_true c16
                clear c16
                obtain ⟨y191, hy191⟩ : ∃ y_ : List Int, y_ = (x0_1.set (x12_1 : Int).toNat (wrap64 ((wrap64 ((rd x0_1 x12_1) - x7_1)) + (wrap64 ((wrap64 (Int.tdiv (wrap64 ((wrap64 ((wrap64 (-(wrap64 ((rd x0_1 x12_1) - x7_1)))) + 1000000000)) - 1)) 1000000000)) * 1000000000))))) := ⟨_, rfl⟩
                replace H : (nat_reduce.l0 k1 y191 l1 a2 (wrap64 (Int.tdiv (wrap64 ((wrap64 ((wrap64 (-(wrap64 ((rd x0_1 x12_1) - x7_1)))) + 1000000000)) - 1)) 1000000000)) (l0.length : Int) (wrap64 (x12_1 + 1))) = some (r1, r2) := by first | (rw [hy191]; with_reducible exact H) | (have H2_ := (Option.bind_some _ _).symm.trans H; rw [hy191]; with_reducible exact H2_) | (have H2_ := (Option.bind_some _ _).symm.trans H; with_reducible exact H2_) | with_reducible exact H | (rw [hy191]; exact H) | exact H
                have Ny191 := Aside0.mk hy191
                clear hy191
                have H' := Aside0.mk H
                clear H
                have p187 : 0 ≤ (x12_1 : Int) := of_decide_eq_true Z1
                have q187 : x12_1 < (x0_1.length : Int) := of_decide_eq_true Z1
                obtain ⟨ad187, e187, hx187_0⟩ := Kd.at_int (ZR_reads' HO_0.out).2.2 x12_1 p187 q187
                cases e187
                replace p187 := eq_true p187
                replace q187 := eq_true q187
                have p17 : 0 ≤ (x12_1 : Int) := of_decide_eq_true Z1
                have q17 : (x12_1 : Int) < ((x0_1.length : Int) : Int) := of_decide_eq_true Z1
                obtain ⟨go17, co17, eo17, gb17, gl17, cl17, HG17⟩ := ZR_form HO_0.out (by omega)
                (first | cases eo17 | (injection eo17 with ea_ en_ ec_; (first | subst ea_ | (injection ea_ with ea_; subst ea_)); subst ec_; clear en_))
                have GB17 := Aside0.mk gb17
                have GG17 := Aside0.mk HG17
                clear gb17 gl17 HG17
                have HMgo17 := Aside0.mk (show (P0_ go17 ∨ w.heap.size ≤ go17) from (ZR_ok HO_0.out _ rfl))
                (first | simp only [addr_add] at hx187_0 | skip)
                obtain ⟨hx17_0, hf17_0⟩ := ZR_celln 0 HO_0.out (x12_1 : Int) p17 q17
                replace p17 := eq_true p17
                replace q17 := eq_true q17
                have HP18 := ZR_putg HO_0.out (x12_1 : Int) (of_eq_true p17) (of_eq_true q17) (wrap64 ((wrap64 ((rd x0_1 x12_1) - x7_1)) + (wrap64 ((wrap64 (Int.tdiv (wrap64 ((wrap64 ((wrap64 (-(wrap64 ((rd x0_1 x12_1) - x7_1)))) + 1000000000)) - 1)) 1000000000)) * 1000000000))))
                go_wp2_with (first | ((with_reducible refine gate_store (t := 3) (p := 47) rfl ?_); refine store_event (t := 3) (p := 47) (v := ?vo_w19) (w1 := (wr.setCell ⟨go17, pre.length + (x12_1 : Int).toNat, none⟩ (.int .i64 (wrap64 ((wrap64 ((rd x0_1 x12_1) - x7_1)) + (wrap64 ((wrap64 (Int.tdiv (wrap64 ((wrap64 ((wrap64 (-(wrap64 ((rd x0_1 x12_1) - x7_1)))) + 1000000000)) - 1)) 1000000000)) * 1000000000))))))) ?hg ?ho ?hn ?hr ?_; (case ho => rfl); (case hg => rfl); (case hn => rfl); (case hr => first | (go_simp; done) | (go_simp; rfl)); intro w19 hw; have hg : wr.grownBy w19 (some go17) := (by rw [hw]; exact HP18.2); have hp_ : ZR pre post 3 w19 w0.heap.size (fun k_ => (P0_ k_ ∨ w.heap.size ≤ k_)) (.slice (some ⟨go17, pre.length, none⟩) x0_1.length co4) y191 := (by rw [hw, Ny191.out]; exact HP18.1); clear HP18; have n0_ := Aside0.mk (hp_); have n1_ := Aside0.mk ((by rw [hw]; exact below_set (HB.out) GB17.out : Below w0.heap.size w0 w19)); have n2_ := Aside0.mk (Kept.of_grown (S := (fun k_ => P0_ k_)) hg Z14 (fun k_ e_ => (ZR_ok HO_0.out k_ e_))); clear HO_0; clear HB; clear HK; have HO_0 := n0_; have HB := n1_; have HK := n2_; clear n0_ n1_ n2_; clear hg hw hp_))
                (try simp only [← hl0_1])
                go_roundg k1
                case measure => have := HK1.out; omega
                case rel => exact ⟨(y191), (wrap64 (Int.tdiv (wrap64 ((wrap64 ((wrap64 (-(wrap64 ((rd x0_1 x12_1) - x7_1)))) + 1000000000)) - 1)) 1000000000)), (wrap64 (x12_1 + 1)), Z4, Z4, H', ⟨by have := HK1.out; omega⟩, ⟨by (try simp only [hl0_1]); (with_reducible repeat (first | apply ZR_alloc | apply ZR_drewN | apply ZR_drew)); exact HO_0.out⟩, ⟨by repeat (first | (with_reducible first | exact HK.out | apply Kept.alloc | apply Kept.drewN | apply Kept.drew) | exact HK.out)⟩, ⟨by repeat (first | (with_reducible first | exact HB.out | apply below_alloc | apply pw_below_drewN | apply below_drew1) | exact HB.out)⟩⟩
              · rw [if_neg c16] at H
                have c16b0 : decide ((wrap64 ((rd x0_1 x12_1) - x7_1)) < 0) = false := decide_eq_false c16
                clear c16
                obtain ⟨y192, hy192⟩ : ∃ y_ : List Int, y_ = (x0_1.set (x12_1 : Int).toNat (wrap64 ((rd x0_1 x12_1) - x7_1))) := ⟨_, rfl⟩
                replace H : (nat_reduce.l0 k1 y192 l1 a2 0 (l0.length : Int) (wrap64 (x12_1 + 1))) = some (r1, r2) := by first | (rw [hy192]; with_reducible exact H) | (have H2_ := (Option.bind_some _ _).symm.trans H; rw [hy192]; with_reducible exact H2_) | (have H2_ := (Option.bind_some _ _).symm.trans H; with_reducible exact H2_) | with_reducible exact H | (rw [hy192]; exact H) | exact H
                have Ny192 := Aside0.mk hy192
                clear hy192
                have H' := Aside0.mk H
                clear H
                have p187 : 0 ≤ (x12_1 : Int) := of_decide_eq_true Z1
                have q187 : x12_1 < (x0_1.length : Int) := of_decide_eq_true Z1
                obtain ⟨ad187, e187, hx187_0⟩ := Kd.at_int (ZR_reads' HO_0.out).2.2 x12_1 p187 q187
                cases e187
                replace p187 := eq_true p187
                replace q187 := eq_true q187
                have p20 : 0 ≤ (x12_1 : Int) := of_decide_eq_true Z1
                have q20 : (x12_1 : Int) < ((x0_1.length : Int) : Int) := of_decide_eq_true Z1
                obtain ⟨go20, co20, eo20, gb20, gl20, cl20, HG20⟩ := ZR_form HO_0.out (by omega)
                (first | cases eo20 | (injection eo20 with ea_ en_ ec_; (first | subst ea_ | (injection ea_ with ea_; subst ea_)); subst ec_; clear en_))
                have GB20 := Aside0.mk gb20
                have GG20 := Aside0.mk HG20
                clear gb20 gl20 HG20
                have HMgo20 := Aside0.mk (show (P0_ go20 ∨ w.heap.size ≤ go20) from (ZR_ok HO_0.out _ rfl))
                (first | simp only [addr_add] at hx187_0 | skip)
                obtain ⟨hx20_0, hf20_0⟩ := ZR_celln 0 HO_0.out (x12_1 : Int) p20 q20
                replace p20 := eq_true p20
                replace q20 := eq_true q20
                have HP21 := ZR_putg HO_0.out (x12_1 : Int) (of_eq_true p20) (of_eq_true q20) (wrap64 ((rd x0_1 x12_1) - x7_1))
                go_wp2_with (first | ((with_reducible refine gate_store (t := 3) (p := 47) rfl ?_); refine store_event (t := 3) (p := 47) (v := ?vo_w22) (w1 := (wr.setCell ⟨go20, pre.length + (x12_1 : Int).toNat, none⟩ (.int .i64 (wrap64 ((rd x0_1 x12_1) - x7_1))))) ?hg ?ho ?hn ?hr ?_; (case ho => rfl); (case hg => rfl); (case hn => rfl); (case hr => first | (go_simp; done) | (go_simp; rfl)); intro w22 hw; have hg : wr.grownBy w22 (some go20) := (by rw [hw]; exact HP21.2); have hp_ : ZR pre post 3 w22 w0.heap.size (fun k_ => (P0_ k_ ∨ w.heap.size ≤ k_)) (.slice (some ⟨go20, pre.length, none⟩) x0_1.length co4) y192 := (by rw [hw, Ny192.out]; exact HP21.1); clear HP21; have n0_ := Aside0.mk (hp_); have n1_ := Aside0.mk ((by rw [hw]; exact below_set (HB.out) GB20.out : Below w0.heap.size w0 w22)); have n2_ := Aside0.mk (Kept.of_grown (S := (fun k_ => P0_ k_)) hg Z14 (fun k_ e_ => (ZR_ok HO_0.out k_ e_))); clear HO_0; clear HB; clear HK; have HO_0 := n0_; have HB := n1_; have HK := n2_; clear n0_ n1_ n2_; clear hg hw hp_))
                (try simp only [← hl0_1])
                go_roundg k1
                case measure => have := HK1.out; omega
                case rel => exact ⟨(y192), (0), (wrap64 (x12_1 + 1)), Z4, Z4, H', ⟨by have := HK1.out; omega⟩, ⟨by (try simp only [hl0_1]); (with_reducible repeat (first | apply ZR_alloc | apply ZR_drewN | apply ZR_drew)); exact HO_0.out⟩, ⟨by repeat (first | (with_reducible first | exact HK.out | apply Kept.alloc | apply Kept.drewN | apply Kept.drew) | exact HK.out)⟩, ⟨by repeat (first | (with_reducible first | exact HB.out | apply below_alloc | apply pw_below_drewN | apply below_drew1) | exact HB.out)⟩⟩
          · rw [if_neg c7] at H
            exact absurd H (by simp)
        · rw [if_neg c6] at H
          exact absurd H (by simp)
      · rw [if_neg c5] at H
        have c5b0 : decide (x12_1 < (l0.length : Int)) = false := decide_eq_false c5
        (try simp only [hl0_1] at c5b0)
        clear c5
        simp only [Option.some.injEq, Prod.mk.injEq] at H
        obtain ⟨rfl, rfl⟩ := H
        go_wp2
        go_ret
        exact ⟨by first | rfl | (simp [errW_none, errW_some] <;> rfl) | (simp [*, errW_none, errW_some] <;> rfl), (by first | exact Z26 | (simp only [hl0_1]; exact Z26)), by repeat (first | (with_reducible first | exact HB.out | apply below_alloc | apply pw_below_drewN | apply below_drew1) | exact HB.out), by repeat (first | (with_reducible first | exact HK.out | apply Kept.alloc | apply Kept.drewN | apply Kept.drew) | exact HK.out)⟩
set_option maxHeartbeats 8000000 in
set_option maxRecDepth 100000 in
theorem nat_restore.callsZ (pre post : List Int) (k : Nat) (P0_ : Nat → Prop) (u9000_ : Value) (l0 : List Int) (A1 : Option Addr) (c1 : Nat) (l1 : List Int) (r : List Int) (w0 w : World) (hB : Below w0.heap.size w0 w) (ho0 : ZR pre post 3 w w0.heap.size P0_ u9000_ l0) (hr1 : ∀ W_, Kept w W_ (fun k_ => P0_ k_) → Kd.C (Kd.int .i64) W_ A1 l1.length l1) (hc1 : l1.length ≤ c1) (h : nat_restore.f k l0 l1 = some r) :
    Calls Try.prog 93 #[u9000_, .slice A1 l1.length c1] w fun e w' => e = .returned (.tuple #[]) ∧ ZR pre post 3 w' w0.heap.size (fun k_ => (P0_ k_ ∨ w.heap.size ≤ k_)) u9000_ r ∧ Below w0.heap.size w0 w' ∧ Kept w w' (fun k_ => P0_ k_) := by
  have HO0 := Aside0.mk (show ZR pre post 3 w w0.heap.size (fun k_ => (P0_ k_ ∨ w.heap.size ≤ k_)) u9000_ l0 from ZR_mono ho0 (fun k_ hk => (.inl hk)))
  have HR1 := Aside0.mk hr1
  have HC1 := Aside0.mk hc1
  clear hr1 hc1
  have HK := Aside0.mk (Kept.refl w (fun k_ => P0_ k_))
  have HW0 := Aside0.mk hB.size
  have HB := Aside0.mk hB
  clear hB
  have H : (nat_restore.l0 k l0 l1 0 (l0.length : Int) 0) = some r := h
  clear h
  have H' := Aside0.mk H
  clear H
  obtain ⟨Ao3, co3, eo3⟩ := ZR_slice HO0.out
  subst eo3
  go_enter Try.func93, Try.ntmps93
  go_wp2
  go_loopg [4, 9] k (fun kq v4 v9 w' => ∃ (x0_1 : List Int) (x4_1 : Int) (x9_1 : Int), v4 = .int .i64 x4_1 ∧ v9 = .int .i64 x9_1 ∧ Aside0 (nat_restore.l0 kq x0_1 l1 x4_1 (l0.length : Int) x9_1 = some r) ∧ Aside0 (kq ≤ k) ∧ Aside0 (ZR pre post 3 w' w0.heap.size (fun k_ => (P0_ k_ ∨ w.heap.size ≤ k_)) (.slice Ao3 l0.length co3) x0_1) ∧ Aside0 (Kept w w' (fun k_ => P0_ k_)) ∧ Aside0 (Below w0.heap.size w0 w'))
  case atStart => exact ⟨(l0), (0), (0), Z4, Z4, H', ⟨Nat.le_refl _⟩, ⟨by (with_reducible repeat (first | apply ZR_alloc | apply ZR_drewN | apply ZR_drew)); exact HO0.out⟩, ⟨by repeat (first | (with_reducible first | exact HK.out | apply Kept.alloc | apply Kept.drewN | apply Kept.drew) | exact HK.out)⟩, ⟨by repeat (first | (with_reducible first | exact HB.out | apply below_alloc | apply pw_below_drewN | apply below_drew1) | exact HB.out)⟩⟩
  case round =>
    clear H'
    try clear c1
    try clear p2
    obtain ⟨x0_1, x4_1, x9_1, rfl, rfl, HA, HK1, HO_0, HK, HB⟩ := hrel
    have hl0_1 := (ZR_reads' HO_0.out).1
    rw [hl0_1] at HO_0
    (try simp only [hl0_1])
    cases gk with
    | zero => exact absurd HA.out (by simp [nat_restore.l0])
    | succ k1 =>
      have H := HA.out
      clear HA
      simp only [nat_restore.l0] at H
      by_cases c4 : x9_1 < (l0.length : Int)
      · rw [if_pos c4] at H
        have c4b0 : decide (x9_1 < (l0.length : Int)) = true := decide_eq_true c4
        clear c4
        by_cases c5 : 0 ≤ x9_1
        · rw [if_pos c5] at H
          have c5b0 : decide (0 ≤ x9_1) = true := decide_eq_true c5
          clear c5
          by_cases c6 : x9_1 < (x0_1.length : Int)
          · rw [if_pos c6] at H
            have c6b0 : decide (x9_1 < (x0_1.length : Int)) = true := decide_eq_true c6
            clear c6
            by_cases c7 : x9_1 < (l1.length : Int)
            · rw [if_pos c7] at H
              have c7b0 : decide (x9_1 < (l1.length : Int)) = true := decide_eq_true c7
              clear c7
              obtain ⟨y195, hy195⟩ : ∃ y_ : List Int, y_ = (x0_1.set (x9_1 : Int).toNat (Int.tmod (wrap64 ((wrap64 ((rd x0_1 x9_1) + x4_1)) + (rd l1 x9_1))) 1000000000)) := ⟨_, rfl⟩
              replace H : (nat_restore.l0 k1 y195 l1 (wrap64 (Int.tdiv (wrap64 ((wrap64 ((rd x0_1 x9_1) + x4_1)) + (rd l1 x9_1))) 1000000000)) (l0.length : Int) (wrap64 (x9_1 + 1))) = some r := by first | (rw [hy195]; with_reducible exact H) | (have H2_ := (Option.bind_some _ _).symm.trans H; rw [hy195]; with_reducible exact H2_) | (have H2_ := (Option.bind_some _ _).symm.trans H; with_reducible exact H2_) | with_reducible exact H | (rw [hy195]; exact H) | exact H
              have Ny195 := Aside0.mk hy195
              clear hy195
              have H' := Aside0.mk H
              clear H
              have p193 : 0 ≤ (x9_1 : Int) := of_decide_eq_true Z1
              have q193 : x9_1 < (x0_1.length : Int) := of_decide_eq_true Z1
              obtain ⟨ad193, e193, hx193_0⟩ := Kd.at_int (ZR_reads' HO_0.out).2.2 x9_1 p193 q193
              cases e193
              replace p193 := eq_true p193
              replace q193 := eq_true q193
              have p194 : 0 ≤ (x9_1 : Int) := of_decide_eq_true Z1
              have q194 : x9_1 < (l1.length : Int) := of_decide_eq_true Z1
              obtain ⟨ad194, e194, hx194_0⟩ := Kd.at_int (Kd.C_kept_now HR1.out HK.out) x9_1 p194 q194
              cases e194
              replace p194 := eq_true p194
              replace q194 := eq_true q194
              have p8 : 0 ≤ (x9_1 : Int) := of_decide_eq_true Z1
              have q8 : (x9_1 : Int) < ((x0_1.length : Int) : Int) := of_decide_eq_true Z1
              obtain ⟨go8, co8, eo8, gb8, gl8, cl8, HG8⟩ := ZR_form HO_0.out (by omega)
              (first | cases eo8 | (injection eo8 with ea_ en_ ec_; (first | subst ea_ | (injection ea_ with ea_; subst ea_)); subst ec_; clear en_))
              have GB8 := Aside0.mk gb8
              have GG8 := Aside0.mk HG8
              clear gb8 gl8 HG8
              have HMgo8 := Aside0.mk (show (P0_ go8 ∨ w.heap.size ≤ go8) from (ZR_ok HO_0.out _ rfl))
              (first | simp only [addr_add] at hx193_0 | skip)
              obtain ⟨hx8_0, hf8_0⟩ := ZR_celln 0 HO_0.out (x9_1 : Int) p8 q8
              replace p8 := eq_true p8
              replace q8 := eq_true q8
              have HP9 := ZR_putg HO_0.out (x9_1 : Int) (of_eq_true p8) (of_eq_true q8) (Int.tmod (wrap64 ((wrap64 ((rd x0_1 x9_1) + x4_1)) + (rd l1 x9_1))) 1000000000)
              go_wp2_with (first | ((with_reducible refine gate_store (t := 3) (p := 34) rfl ?_); refine store_event (t := 3) (p := 34) (v := ?vo_w10) (w1 := (wr.setCell ⟨go8, pre.length + (x9_1 : Int).toNat, none⟩ (.int .i64 (Int.tmod (wrap64 ((wrap64 ((rd x0_1 x9_1) + x4_1)) + (rd l1 x9_1))) 1000000000)))) ?hg ?ho ?hn ?hr ?_; (case ho => rfl); (case hg => rfl); (case hn => rfl); (case hr => first | (go_simp; done) | (go_simp; rfl)); intro w10 hw; have hg : wr.grownBy w10 (some go8) := (by rw [hw]; exact HP9.2); have hp_ : ZR pre post 3 w10 w0.heap.size (fun k_ => (P0_ k_ ∨ w.heap.size ≤ k_)) (.slice (some ⟨go8, pre.length, none⟩) x0_1.length co3) y195 := (by rw [hw, Ny195.out]; exact HP9.1); clear HP9; have n0_ := Aside0.mk (hp_); have n1_ := Aside0.mk ((by rw [hw]; exact below_set (HB.out) GB8.out : Below w0.heap.size w0 w10)); have n2_ := Aside0.mk (Kept.of_grown (S := (fun k_ => P0_ k_)) hg Z14 (fun k_ e_ => (ZR_ok HO_0.out k_ e_))); clear HO_0; clear HB; clear HK; have HO_0 := n0_; have HB := n1_; have HK := n2_; clear n0_ n1_ n2_; clear hg hw hp_))
              (try simp only [← hl0_1])
              go_roundg k1
              case measure => have := HK1.out; omega
              case rel => exact ⟨(y195), (wrap64 (Int.tdiv (wrap64 ((wrap64 ((rd x0_1 x9_1) + x4_1)) + (rd l1 x9_1))) 1000000000)), (wrap64 (x9_1 + 1)), Z4, Z4, H', ⟨by have := HK1.out; omega⟩, ⟨by (try simp only [hl0_1]); (with_reducible repeat (first | apply ZR_alloc | apply ZR_drewN | apply ZR_drew)); exact HO_0.out⟩, ⟨by repeat (first | (with_reducible first | exact HK.out | apply Kept.alloc | apply Kept.drewN | apply Kept.drew) | exact HK.out)⟩, ⟨by repeat (first | (with_reducible first | exact HB.out | apply below_alloc | apply pw_below_drewN | apply below_drew1) | exact HB.out)⟩⟩
            · rw [if_neg c7] at H
              have c7b0 : decide (x9_1 < (l1.length : Int)) = false := decide_eq_false c7
              (try simp only [hl0_1] at c7b0)
              clear c7
              obtain ⟨y196, hy196⟩ : ∃ y_ : List Int, y_ = (x0_1.set (x9_1 : Int).toNat (Int.tmod (wrap64 ((rd x0_1 x9_1) + x4_1)) 1000000000)) := ⟨_, rfl⟩
              replace H : (nat_restore.l0 k1 y196 l1 (wrap64 (Int.tdiv (wrap64 ((rd x0_1 x9_1) + x4_1)) 1000000000)) (l0.length : Int) (wrap64 (x9_1 + 1))) = some r := by first | (rw [hy196]; with_reducible exact H) | (have H2_ := (Option.bind_some _ _).symm.trans H; rw [hy196]; with_reducible exact H2_) | (have H2_ := (Option.bind_some _ _).symm.trans H; with_reducible exact H2_) | with_reducible exact H | (rw [hy196]; exact H) | exact H
              have Ny196 := Aside0.mk hy196
              clear hy196
              have H' := Aside0.mk H
              clear H
              have p193 : 0 ≤ (x9_1 : Int) := of_decide_eq_true Z1
              have q193 : x9_1 < (x0_1.length : Int) := of_decide_eq_true Z1
              obtain ⟨ad193, e193, hx193_0⟩ := Kd.at_int (ZR_reads' HO_0.out).2.2 x9_1 p193 q193
              cases e193
              replace p193 := eq_true p193
              replace q193 := eq_true q193
              have p11 : 0 ≤ (x9_1 : Int) := of_decide_eq_true Z1
              have q11 : (x9_1 : Int) < ((x0_1.length : Int) : Int) := of_decide_eq_true Z1
              obtain ⟨go11, co11, eo11, gb11, gl11, cl11, HG11⟩ := ZR_form HO_0.out (by omega)
              (first | cases eo11 | (injection eo11 with ea_ en_ ec_; (first | subst ea_ | (injection ea_ with ea_; subst ea_)); subst ec_; clear en_))
              have GB11 := Aside0.mk gb11
              have GG11 := Aside0.mk HG11
              clear gb11 gl11 HG11
              have HMgo11 := Aside0.mk (show (P0_ go11 ∨ w.heap.size ≤ go11) from (ZR_ok HO_0.out _ rfl))
              (first | simp only [addr_add] at hx193_0 | skip)
              obtain ⟨hx11_0, hf11_0⟩ := ZR_celln 0 HO_0.out (x9_1 : Int) p11 q11
              replace p11 := eq_true p11
              replace q11 := eq_true q11
              have HP12 := ZR_putg HO_0.out (x9_1 : Int) (of_eq_true p11) (of_eq_true q11) (Int.tmod (wrap64 ((rd x0_1 x9_1) + x4_1)) 1000000000)
              go_wp2_with (first | ((with_reducible refine gate_store (t := 3) (p := 34) rfl ?_); refine store_event (t := 3) (p := 34) (v := ?vo_w13) (w1 := (wr.setCell ⟨go11, pre.length + (x9_1 : Int).toNat, none⟩ (.int .i64 (Int.tmod (wrap64 ((rd x0_1 x9_1) + x4_1)) 1000000000)))) ?hg ?ho ?hn ?hr ?_; (case ho => rfl); (case hg => rfl); (case hn => rfl); (case hr => first | (go_simp; done) | (go_simp; rfl)); intro w13 hw; have hg : wr.grownBy w13 (some go11) := (by rw [hw]; exact HP12.2); have hp_ : ZR pre post 3 w13 w0.heap.size (fun k_ => (P0_ k_ ∨ w.heap.size ≤ k_)) (.slice (some ⟨go11, pre.length, none⟩) x0_1.length co3) y196 := (by rw [hw, Ny196.out]; exact HP12.1); clear HP12; have n0_ := Aside0.mk (hp_); have n1_ := Aside0.mk ((by rw [hw]; exact below_set (HB.out) GB11.out : Below w0.heap.size w0 w13)); have n2_ := Aside0.mk (Kept.of_grown (S := (fun k_ => P0_ k_)) hg Z14 (fun k_ e_ => (ZR_ok HO_0.out k_ e_))); clear HO_0; clear HB; clear HK; have HO_0 := n0_; have HB := n1_; have HK := n2_; clear n0_ n1_ n2_; clear hg hw hp_))
              (try simp only [← hl0_1])
              go_roundg k1
              case measure => have := HK1.out; omega
              case rel => exact ⟨(y196), (wrap64 (Int.tdiv (wrap64 ((rd x0_1 x9_1) + x4_1)) 1000000000)), (wrap64 (x9_1 + 1)), Z4, Z4, H', ⟨by have := HK1.out; omega⟩, ⟨by (try simp only [hl0_1]); (with_reducible repeat (first | apply ZR_alloc | apply ZR_drewN | apply ZR_drew)); exact HO_0.out⟩, ⟨by repeat (first | (with_reducible first | exact HK.out | apply Kept.alloc | apply Kept.drewN | apply Kept.drew) | exact HK.out)⟩, ⟨by repeat (first | (with_reducible first | exact HB.out | apply below_alloc | apply pw_below_drewN | apply below_drew1) | exact HB.out)⟩⟩
          · rw [if_neg c6] at H
            exact absurd H (by simp)
        · rw [if_neg c5] at H
          exact absurd H (by simp)
      · rw [if_neg c4] at H
        have c4b0 : decide (x9_1 < (l0.length : Int)) = false := decide_eq_false c4
        (try simp only [hl0_1] at c4b0)
        clear c4
        obtain rfl := Option.some.inj H
        go_wp2
        first | go_end0 | ((try simp only [Exit.inBlock, Exit.then]); refine bodyPost_ret (results_none rfl _ _ _) rfl ?_)
        exact ⟨by first | rfl | (simp [errW_none, errW_some] <;> rfl) | (simp [*, errW_none, errW_some] <;> rfl), (by first | exact Z26 | (simp only [hl0_1]; exact Z26)), by repeat (first | (with_reducible first | exact HB.out | apply below_alloc | apply pw_below_drewN | apply below_drew1) | exact HB.out), by repeat (first | (with_reducible first | exact HK.out | apply Kept.alloc | apply Kept.drewN | apply Kept.drew) | exact HK.out)⟩
mutual
def nat_digit.l0 : Nat → List Int → List Int → Int → Int → Int → Int → Option (Int)
  | 0, _, _, _, _, _, _ => none
  | k + 1, x0, x1, x5, x6, x8, x9 => if x8 ≥ 1000000000 then (nat_digit.j1 k x0 x1 x5 x6 x8 x9 true) else (if 0 ≤ (wrap64 (x6 - 1)) then (if (wrap64 (x6 - 1)) < (x1.length : Int) then (if 0 ≤ (wrap64 (x5 - 2)) then (if (wrap64 (x5 - 2)) < (x0.length : Int) then (nat_digit.j1 k x0 x1 x5 x6 x8 x9 (decide ((wrap64 (x8 * (rd x1 (wrap64 (x6 - 1))))) > (wrap64 ((wrap64 (x9 * 1000000000)) + (rd x0 (wrap64 (x5 - 2)))))))) else (none)) else (none)) else (none)) else (none))
def nat_digit.j1 : Nat → List Int → List Int → Int → Int → Int → Int → Bool → Option (Int)
  | 0, _, _, _, _, _, _, _ => none
  | k + 1, x0, x1, x5, x6, x8, x9, x58 => if x58 = true then (if 0 ≤ x6 then (if x6 < (x1.length : Int) then (if (wrap64 (x9 + (rd x1 x6))) ≥ 1000000000 then (some (wrap64 (x8 - 1))) else (nat_digit.l0 k x0 x1 x5 x6 (wrap64 (x8 - 1)) (wrap64 (x9 + (rd x1 x6))))) else (none)) else (none)) else (some x8)
end
def nat_digit.f (k : Nat) (l0 : List Int) (l1 : List Int) : Option (Int) := if 0 ≤ (wrap64 ((l0.length : Int) - 1)) then (if (wrap64 ((l0.length : Int) - 1)) < (l0.length : Int) then (if 0 ≤ (wrap64 ((wrap64 ((l0.length : Int) - 1)) - 1)) then (if (wrap64 ((wrap64 ((l0.length : Int) - 1)) - 1)) < (l0.length : Int) then (if 0 ≤ (wrap64 ((l1.length : Int) - 1)) then (if (wrap64 ((l1.length : Int) - 1)) < (l1.length : Int) then (if (rd l1 (wrap64 ((l1.length : Int) - 1))) = 0 then (none) else (nat_digit.l0 k l0 l1 (wrap64 ((l0.length : Int) - 1)) (wrap64 ((l1.length : Int) - 1)) (wrap64 (Int.tdiv (wrap64 ((wrap64 ((rd l0 (wrap64 ((l0.length : Int) - 1))) * 1000000000)) + (rd l0 (wrap64 ((wrap64 ((l0.length : Int) - 1)) - 1))))) (rd l1 (wrap64 ((l1.length : Int) - 1))))) (Int.tmod (wrap64 ((wrap64 ((rd l0 (wrap64 ((l0.length : Int) - 1))) * 1000000000)) + (rd l0 (wrap64 ((wrap64 ((l0.length : Int) - 1)) - 1))))) (rd l1 (wrap64 ((l1.length : Int) - 1)))))) else (none)) else (none)) else (none)) else (none)) else (none)) else (none)
set_option maxHeartbeats 8000000 in
set_option maxRecDepth 100000 in
theorem nat_digit.calls (k : Nat) (A0 : Option Addr) (c0 : Nat) (l0 : List Int) (A1 : Option Addr) (c1 : Nat) (l1 : List Int) (r : Int) (w : World) (hr0 : Kd.C (Kd.int .i64) w A0 l0.length l0) (hc0 : l0.length ≤ c0) (hr1 : Kd.C (Kd.int .i64) w A1 l1.length l1) (hc1 : l1.length ≤ c1) (h : nat_digit.f k l0 l1 = some r) :
    Calls Try.prog 91 #[.slice A0 l0.length c0, .slice A1 l1.length c1] w fun e w' => e = .returned (.int .i64 r) ∧ Drawn0 w w' := by
  have HR0 := Aside0.mk hr0
  have HC0 := Aside0.mk hc0
  clear hr0 hc0
  have HR1 := Aside0.mk hr1
  have HC1 := Aside0.mk hc1
  clear hr1 hc1
  have H : (if 0 ≤ (wrap64 ((l0.length : Int) - 1)) then (if (wrap64 ((l0.length : Int) - 1)) < (l0.length : Int) then (if 0 ≤ (wrap64 ((wrap64 ((l0.length : Int) - 1)) - 1)) then (if (wrap64 ((wrap64 ((l0.length : Int) - 1)) - 1)) < (l0.length : Int) then (if 0 ≤ (wrap64 ((l1.length : Int) - 1)) then (if (wrap64 ((l1.length : Int) - 1)) < (l1.length : Int) then (if (rd l1 (wrap64 ((l1.length : Int) - 1))) = 0 then (none) else (nat_digit.l0 k l0 l1 (wrap64 ((l0.length : Int) - 1)) (wrap64 ((l1.length : Int) - 1)) (wrap64 (Int.tdiv (wrap64 ((wrap64 ((rd l0 (wrap64 ((l0.length : Int) - 1))) * 1000000000)) + (rd l0 (wrap64 ((wrap64 ((l0.length : Int) - 1)) - 1))))) (rd l1 (wrap64 ((l1.length : Int) - 1))))) (Int.tmod (wrap64 ((wrap64 ((rd l0 (wrap64 ((l0.length : Int) - 1))) * 1000000000)) + (rd l0 (wrap64 ((wrap64 ((l0.length : Int) - 1)) - 1))))) (rd l1 (wrap64 ((l1.length : Int) - 1)))))) else (none)) else (none)) else (none)) else (none)) else (none)) else (none)) = some r := h
  clear h
  obtain ⟨ji3, hji3⟩ : ∃ j_ : Int, (wrap64 ((l0.length : Int) - 1)) = j_ := ⟨_, rfl⟩
  replace H : (if 0 ≤ (ji3) then (if (ji3) < (l0.length : Int) then (if 0 ≤ (wrap64 ((ji3) - 1)) then (if (wrap64 ((ji3) - 1)) < (l0.length : Int) then (if 0 ≤ (wrap64 ((l1.length : Int) - 1)) then (if (wrap64 ((l1.length : Int) - 1)) < (l1.length : Int) then (if (rd l1 (wrap64 ((l1.length : Int) - 1))) = 0 then (none) else (nat_digit.l0 k l0 l1 ji3 (wrap64 ((l1.length : Int) - 1)) (wrap64 (Int.tdiv (wrap64 ((wrap64 ((rd l0 (ji3)) * 1000000000)) + (rd l0 (wrap64 ((ji3) - 1))))) (rd l1 (wrap64 ((l1.length : Int) - 1))))) (Int.tmod (wrap64 ((wrap64 ((rd l0 (ji3)) * 1000000000)) + (rd l0 (wrap64 ((ji3) - 1))))) (rd l1 (wrap64 ((l1.length : Int) - 1)))))) else (none)) else (none)) else (none)) else (none)) else (none)) else (none)) = some r := by first | (rw [hji3] at H; exact H) | (simp only [hji3] at H ⊢; exact H)
  have hji3w : (IntKind.i64.wrap ((l0.length : Int) - 1)) = ji3 := (i64_w _).trans hji3
  by_cases c4 : 0 ≤ (ji3)
  · rw [if_pos c4] at H
    have c4b0 : decide (0 ≤ (ji3)) = true := decide_eq_true c4
    clear c4
    by_cases c5 : (ji3) < (l0.length : Int)
    · rw [if_pos c5] at H
      have c5b0 : decide ((ji3) < (l0.length : Int)) = true := decide_eq_true c5
      clear c5
      obtain ⟨ji6, hji6⟩ : ∃ j_ : Int, (wrap64 ((ji3) - 1)) = j_ := ⟨_, rfl⟩
      replace H : (if 0 ≤ (ji6) then (if (ji6) < (l0.length : Int) then (if 0 ≤ (wrap64 ((l1.length : Int) - 1)) then (if (wrap64 ((l1.length : Int) - 1)) < (l1.length : Int) then (if (rd l1 (wrap64 ((l1.length : Int) - 1))) = 0 then (none) else (nat_digit.l0 k l0 l1 ji3 (wrap64 ((l1.length : Int) - 1)) (wrap64 (Int.tdiv (wrap64 ((wrap64 ((rd l0 (ji3)) * 1000000000)) + (rd l0 (ji6)))) (rd l1 (wrap64 ((l1.length : Int) - 1))))) (Int.tmod (wrap64 ((wrap64 ((rd l0 (ji3)) * 1000000000)) + (rd l0 (ji6)))) (rd l1 (wrap64 ((l1.length : Int) - 1)))))) else (none)) else (none)) else (none)) else (none)) = some r := by first | (rw [hji6] at H; exact H) | (simp only [hji6] at H ⊢; exact H)
      have hji6w : (IntKind.i64.wrap ((ji3) - 1)) = ji6 := (i64_w _).trans hji6
      by_cases c7 : 0 ≤ (ji6)
      · rw [if_pos c7] at H
        have c7b0 : decide (0 ≤ (ji6)) = true := decide_eq_true c7
        clear c7
        by_cases c8 : (ji6) < (l0.length : Int)
        · rw [if_pos c8] at H
          have c8b0 : decide ((ji6) < (l0.length : Int)) = true := decide_eq_true c8
          clear c8
          obtain ⟨ji9, hji9⟩ : ∃ j_ : Int, (wrap64 ((l1.length : Int) - 1)) = j_ := ⟨_, rfl⟩
          replace H : (if 0 ≤ (ji9) then (if (ji9) < (l1.length : Int) then (if (rd l1 (ji9)) = 0 then (none) else (nat_digit.l0 k l0 l1 ji3 ji9 (wrap64 (Int.tdiv (wrap64 ((wrap64 ((rd l0 (ji3)) * 1000000000)) + (rd l0 (ji6)))) (rd l1 (ji9)))) (Int.tmod (wrap64 ((wrap64 ((rd l0 (ji3)) * 1000000000)) + (rd l0 (ji6)))) (rd l1 (ji9))))) else (none)) else (none)) = some r := by first | (rw [hji9] at H; exact H) | (simp only [hji9] at H ⊢; exact H)
          have hji9w : (IntKind.i64.wrap ((l1.length : Int) - 1)) = ji9 := (i64_w _).trans hji9
          by_cases c10 : 0 ≤ (ji9)
          · rw [if_pos c10] at H
            have c10b0 : decide (0 ≤ (ji9)) = true := decide_eq_true c10
            clear c10
            by_cases c11 : (ji9) < (l1.length : Int)
            · rw [if_pos c11] at H
              have c11b0 : decide ((ji9) < (l1.length : Int)) = true := decide_eq_true c11
              clear c11
              by_cases c12 : (rd l1 (ji9)) = 0
              · rw [if_pos c12] at H
                exact absurd H (by simp)
              · rw [if_neg c12] at H
                have c12b0 : ((rd l1 (ji9)) == 0) = false := beq_eq_false_iff_ne.mpr c12
                have c12b1 : ((rd l1 (ji9)) != 0) = true := bne_iff_ne.mpr c12
                have H' := Aside0.mk H
                clear H
                have p180 : 0 ≤ ((ji3) : Int) := of_decide_eq_true Z1
                have q180 : (ji3) < (l0.length : Int) := of_decide_eq_true Z1
                obtain ⟨ad180, e180, hx180_0⟩ := Kd.at_int HR0.out (ji3) p180 q180
                cases e180
                replace p180 := eq_true p180
                replace q180 := eq_true q180
                have p181 : 0 ≤ ((ji6) : Int) := of_decide_eq_true Z1
                have q181 : (ji6) < (l0.length : Int) := of_decide_eq_true Z1
                obtain ⟨ad181, e181, hx181_0⟩ := Kd.at_int HR0.out (ji6) p181 q181
                obtain rfl : ad180 = ad181 := (by injection e181)
                replace p181 := eq_true p181
                replace q181 := eq_true q181
                have p182 : 0 ≤ ((ji9) : Int) := of_decide_eq_true Z1
                have q182 : (ji9) < (l1.length : Int) := of_decide_eq_true Z1
                obtain ⟨ad182, e182, hx182_0⟩ := Kd.at_int HR1.out (ji9) p182 q182
                cases e182
                replace p182 := eq_true p182
                replace q182 := eq_true q182
                have p183 : 0 ≤ ((ji9) : Int) := of_decide_eq_true Z1
                have q183 : (ji9) < (l1.length : Int) := of_decide_eq_true Z1
                obtain ⟨ad183, e183, hx183_0⟩ := Kd.at_int HR1.out (ji9) p183 q183
                obtain rfl : ad182 = ad183 := (by injection e183)
                replace p183 := eq_true p183
                replace q183 := eq_true q183
                go_enter Try.func91, Try.ntmps91
                go_wp2
                repeat (go_quiet (fail); try go_wp2)
                go_loopg [8, 9] k (fun kq v8 v9 w' => ∃ (x8_1 : Int) (x9_1 : Int), v8 = .int .i64 x8_1 ∧ v9 = .int .i64 x9_1 ∧ Aside0 (nat_digit.l0 kq l0 l1 ji3 ji9 x8_1 x9_1 = some r) ∧ Aside0 (kq ≤ k) ∧ Drawn0 w w')
                case atStart => exact ⟨(wrap64 (Int.tdiv (wrap64 ((wrap64 ((rd l0 (ji3)) * 1000000000)) + (rd l0 (ji6)))) (rd l1 (ji9)))), (Int.tmod (wrap64 ((wrap64 ((rd l0 (ji3)) * 1000000000)) + (rd l0 (ji6)))) (rd l1 (ji9))), (by first | rfl | (simp; done) | (simp only [← hji3, ← hji6, ← hji9] <;> (first | rfl | simp)) | (simp [*]; done)), (by first | rfl | (simp; done) | (simp only [← hji3, ← hji6, ← hji9] <;> (first | rfl | simp)) | (simp [*]; done)), H', ⟨Nat.le_refl _⟩, by repeat (first | exact Drawn0.refl _ | apply Drawn0.step)⟩
                case round =>
                  clear H'
                  try clear c1
                  try clear p1
                  try clear q1
                  try clear hx1
                  try clear p2
                  try clear c4
                  try clear c4b0
                  try clear c5
                  try clear c5b0
                  try clear p6
                  try clear c7
                  try clear c7b0
                  try clear c8
                  try clear c8b0
                  try clear c9
                  try clear c10
                  try clear c10b0
                  try clear c11
                  try clear c11b0
                  try clear c12
                  try clear c12b0
                  try clear c12b1
                  try clear hx180_0
                  try clear hx181_0
                  try clear hx182_0
                  try clear hx183_0
                  try clear p180
                  try clear p181
                  try clear p182
                  try clear p183
                  try clear q180
                  try clear q181
                  try clear q182
                  try clear q183
                  obtain ⟨x8_1, x9_1, rfl, rfl, HA, HK1, ⟨m1, rfl⟩⟩ := hrel
                  cases gk with
                  | zero => exact absurd HA.out (by simp [nat_digit.l0])
                  | succ k1 =>
                    have H := HA.out
                    clear HA
                    simp only [nat_digit.l0] at H
                    have HC13 := Aside0.mk H
                    clear H
                    go_upto_region 4 with (fail)
                    repeat (go_quiet (fail); go_upto_region 4 with (fail))
                    go_cut [58] (fun v58 wc => ∃ (kq : Nat) (x58_12 : Bool), v58 = .bool x58_12 ∧ Aside0 (nat_digit.j1 kq l0 l1 ji3 ji9 x8_1 x9_1 x58_12 = some r) ∧ Aside0 (kq ≤ k1) ∧ Drawn0 w wc)
                    case first =>
                      have H := HC13.out
                      clear HC13
                      by_cases c14 : x8_1 ≥ 1000000000
                      · rw [if_pos c14] at H
                        have c14b0 : decide (1000000000 ≤ x8_1) = true := decide_eq_true c14
                        clear c14
                        (first | rw [c14b0] | (simp only [i64_w, i32_w]; rw [c14b0]) | skip)
                        have H' := Aside0.mk H
                        clear H
                        go_wp2
                        repeat (go_quiet (fail); try go_wp2)
                        go_meet
                        case rel => exact ⟨_, (true), Z4, H', ⟨by have := HK1.out; first | omega | exact Nat.le_refl _⟩, by repeat (first | exact Drawn0.refl _ | apply Drawn0.step)⟩
                      · rw [if_neg c14] at H
                        have c14b0 : decide (1000000000 ≤ x8_1) = false := decide_eq_false c14
                        clear c14
                        (first | rw [c14b0] | (simp only [i64_w, i32_w]; rw [c14b0]) | skip)
                        obtain ⟨ji15, hji15⟩ : ∃ j_ : Int, (wrap64 (ji9 - 1)) = j_ := ⟨_, rfl⟩
                        replace H : (if 0 ≤ (ji15) then (if (ji15) < (l1.length : Int) then (if 0 ≤ (wrap64 (ji3 - 2)) then (if (wrap64 (ji3 - 2)) < (l0.length : Int) then (nat_digit.j1 k1 l0 l1 ji3 ji9 x8_1 x9_1 (decide ((wrap64 (x8_1 * (rd l1 (ji15)))) > (wrap64 ((wrap64 (x9_1 * 1000000000)) + (rd l0 (wrap64 (ji3 - 2)))))))) else (none)) else (none)) else (none)) else (none)) = some r := by first | (rw [hji15] at H; exact H) | (simp only [hji15] at H ⊢; exact H)
                        have hji15w : (IntKind.i64.wrap (ji9 - 1)) = ji15 := (i64_w _).trans hji15
                        by_cases c16 : 0 ≤ (ji15)
                        · rw [if_pos c16] at H
                          have c16b0 : decide (0 ≤ (ji15)) = true := decide_eq_true c16
                          clear c16
                          by_cases c17 : (ji15) < (l1.length : Int)
                          · rw [if_pos c17] at H
                            have c17b0 : decide ((ji15) < (l1.length : Int)) = true := decide_eq_true c17
                            clear c17
                            obtain ⟨ji18, hji18⟩ : ∃ j_ : Int, (wrap64 (ji3 - 2)) = j_ := ⟨_, rfl⟩
                            replace H : (if 0 ≤ (ji18) then (if (ji18) < (l0.length : Int) then (nat_digit.j1 k1 l0 l1 ji3 ji9 x8_1 x9_1 (decide ((wrap64 (x8_1 * (rd l1 (ji15)))) > (wrap64 ((wrap64 (x9_1 * 1000000000)) + (rd l0 (ji18))))))) else (none)) else (none)) = some r := by first | (rw [hji18] at H; exact H) | (simp only [hji18] at H ⊢; exact H)
                            have hji18w : (IntKind.i64.wrap (ji3 - 2)) = ji18 := (i64_w _).trans hji18
                            by_cases c19 : 0 ≤ (ji18)
                            · rw [if_pos c19] at H
                              have c19b0 : decide (0 ≤ (ji18)) = true := decide_eq_true c19
                              clear c19
                              by_cases c20 : (ji18) < (l0.length : Int)
                              · rw [if_pos c20] at H
                                have c20b0 : decide ((ji18) < (l0.length : Int)) = true := decide_eq_true c20
                                clear c20
                                have H' := Aside0.mk H
                                clear H
                                have p184 : 0 ≤ ((ji15) : Int) := of_decide_eq_true Z1
                                have q184 : (ji15) < (l1.length : Int) := of_decide_eq_true Z1
                                obtain ⟨ad184, e184, hx184_0⟩ := Kd.at_int HR1.out (ji15) p184 q184
                                obtain rfl : ad182 = ad184 := (by injection e184)
                                replace p184 := eq_true p184
                                replace q184 := eq_true q184
                                have p185 : 0 ≤ ((ji18) : Int) := of_decide_eq_true Z1
                                have q185 : (ji18) < (l0.length : Int) := of_decide_eq_true Z1
                                obtain ⟨ad185, e185, hx185_0⟩ := Kd.at_int HR0.out (ji18) p185 q185
                                obtain rfl : ad180 = ad185 := (by injection e185)
                                replace p185 := eq_true p185
                                replace q185 := eq_true q185
                                go_wp2
                                repeat (go_quiet (fail); try go_wp2)
                                go_meet
                                case rel => exact ⟨_, (decide ((wrap64 (x8_1 * (rd l1 (ji15)))) > (wrap64 ((wrap64 (x9_1 * 1000000000)) + (rd l0 (ji18)))))), (by first | rfl | (simp; done) | (simp only [← hji15, ← hji18] <;> (first | rfl | simp)) | (simp [*]; done)), H', ⟨by have := HK1.out; first | omega | exact Nat.le_refl _⟩, by repeat (first | exact Drawn0.refl _ | apply Drawn0.step)⟩
                              · rw [if_neg c20] at H
                                exact absurd H (by simp)
                            · rw [if_neg c19] at H
                              exact absurd H (by simp)
                          · rw [if_neg c17] at H
                            exact absurd H (by simp)
                        · rw [if_neg c16] at H
                          exact absurd H (by simp)
                    case rest =>
                      clear HC13
                      try clear c1
                      try clear p1
                      try clear q1
                      try clear hx1
                      try clear c2
                      try clear p2
                      try clear c4
                      try clear c4b0
                      try clear c5
                      try clear c5b0
                      try clear p6
                      try clear c7
                      try clear c7b0
                      try clear c8
                      try clear c8b0
                      try clear c9
                      try clear c10
                      try clear c10b0
                      try clear c11
                      try clear c11b0
                      try clear c12
                      try clear c12b0
                      try clear c12b1
                      try clear c14
                      try clear c14b0
                      try clear c16
                      try clear c16b0
                      try clear c17
                      try clear c17b0
                      try clear p18
                      try clear q18
                      try clear hx18
                      try clear c19
                      try clear c19b0
                      try clear c20
                      try clear c20b0
                      try clear hx180_0
                      try clear hx181_0
                      try clear hx182_0
                      try clear hx183_0
                      try clear hx184_0
                      try clear hx185_0
                      try clear p1
                      try clear p180
                      try clear p181
                      try clear p182
                      try clear p183
                      try clear p184
                      try clear p185
                      try clear p2
                      try clear p6
                      try clear q1
                      try clear q180
                      try clear q181
                      try clear q182
                      try clear q183
                      try clear q184
                      try clear q185
                      obtain ⟨kq, x58_12, rfl, HA, HJ12, ⟨mc12, rfl⟩⟩ := hcut
                      cases kq with
                      | zero => exact absurd HA.out (by simp [nat_digit.j1])
                      | succ kj12 =>
                        have H := HA.out
                        clear HA
                        simp only [nat_digit.j1] at H
                        by_cases c21 : x58_12 = true
                        · subst c21
                          have H1 : (if 0 ≤ ji9 then (if ji9 < (l1.length : Int) then (if (wrap64 (x9_1 + (rd l1 ji9))) ≥ 1000000000 then (some (wrap64 (x8_1 - 1))) else (nat_digit.l0 kj12 l0 l1 ji3 ji9 (wrap64 (x8_1 - 1)) (wrap64 (x9_1 + (rd l1 ji9))))) else (none)) else (none)) = some r := by rw [if_pos rfl] at H; exact H
                          clear H
                          have H := H1
                          clear H1
                          by_cases c22 : 0 ≤ ji9
                          · rw [if_pos c22] at H
                            have c22b0 : decide (0 ≤ ji9) = true := decide_eq_true c22
                            clear c22
                            by_cases c23 : ji9 < (l1.length : Int)
                            · rw [if_pos c23] at H
                              have c23b0 : decide (ji9 < (l1.length : Int)) = true := decide_eq_true c23
                              clear c23
                              by_cases c24 : (wrap64 (x9_1 + (rd l1 ji9))) ≥ 1000000000
                              · rw [if_pos c24] at H
                                have c24b0 : decide (1000000000 ≤ (wrap64 (x9_1 + (rd l1 ji9)))) = true := decide_eq_true c24
                                clear c24
                                obtain rfl := Option.some.inj H
                                have p186 : 0 ≤ (ji9 : Int) := of_decide_eq_true Z1
                                have q186 : ji9 < (l1.length : Int) := of_decide_eq_true Z1
                                obtain ⟨ad186, e186, hx186_0⟩ := Kd.at_int HR1.out ji9 p186 q186
                                obtain rfl : ad182 = ad186 := (by injection e186)
                                replace p186 := eq_true p186
                                replace q186 := eq_true q186
                                go_wp2
                                repeat (go_quiet (fail); try go_wp2)
                                go_ret
                                exact ⟨by first | rfl | (simp; done) | (simp only [← hji3, ← hji6, ← hji9] <;> (first | rfl | simp)) | (simp [*]; done), by repeat (first | exact Drawn0.refl _ | apply Drawn0.step)⟩
                              · rw [if_neg c24] at H
                                have c24b0 : decide (1000000000 ≤ (wrap64 (x9_1 + (rd l1 ji9)))) = false := decide_eq_false c24
                                clear c24
                                have H' := Aside0.mk H
                                clear H
                                have p186 : 0 ≤ (ji9 : Int) := of_decide_eq_true Z1
                                have q186 : ji9 < (l1.length : Int) := of_decide_eq_true Z1
                                obtain ⟨ad186, e186, hx186_0⟩ := Kd.at_int HR1.out ji9 p186 q186
                                obtain rfl : ad182 = ad186 := (by injection e186)
                                replace p186 := eq_true p186
                                replace q186 := eq_true q186
                                go_wp2
                                repeat (go_quiet (fail); try go_wp2)
                                go_roundg kj12
                                case measure => have := HK1.out; have := HJ12.out; omega
                                case rel => exact ⟨(wrap64 (x8_1 - 1)), (wrap64 (x9_1 + (rd l1 ji9))), Z4, (by first | rfl | (simp; done) | (simp only [← hji9] <;> (first | rfl | simp)) | (simp [*]; done)), H', ⟨by have := HK1.out; have := HJ12.out; omega⟩, by repeat (first | exact Drawn0.refl _ | apply Drawn0.step)⟩
                            · rw [if_neg c23] at H
                              exact absurd H (by simp)
                          · rw [if_neg c22] at H
                            exact absurd H (by simp)
                        · replace c21 := Bool.eq_false_iff.mpr c21
                          subst c21
                          have H1 : (some x8_1) = some r := by rw [if_neg (show ¬ (false = true) by decide)] at H; exact H
                          clear H
                          have H := H1
                          clear H1
                          obtain rfl := Option.some.inj H
                          go_wp2
                          repeat (go_quiet (fail); try go_wp2)
                          go_ret
                          exact ⟨by first | rfl | (simp; done) | (simp only [← hji3, ← hji6, ← hji9] <;> (first | rfl | simp)) | (simp [*]; done), by repeat (first | exact Drawn0.refl _ | apply Drawn0.step)⟩
            · rw [if_neg c11] at H
              exact absurd H (by simp)
          · rw [if_neg c10] at H
            exact absurd H (by simp)
        · rw [if_neg c8] at H
          exact absurd H (by simp)
      · rw [if_neg c7] at H
        exact absurd H (by simp)
    · rw [if_neg c5] at H
      exact absurd H (by simp)
  · rw [if_neg c4] at H
    exact absurd H (by simp)
end Go.Proofs.Ytbjamhkhocjdkaa.Px
