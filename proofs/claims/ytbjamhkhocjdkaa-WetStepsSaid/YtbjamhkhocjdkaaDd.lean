/- One step on the way to the rows: contracts of the program's functions, each for every argument that its statement names. -/
import Derived.Test.YtbjamhkhocjdkaaDc
import Derived.Deep.RegionWith
import Derived.Deep.DeepCutAuto
import Derived.IntWalk
namespace Go.Proofs.Ytbjamhkhocjdkaa.Px
open Go.RowKit Go.Proofs.YtbjamhkhocjdkaaW.PrintWords Go.Proofs.YtbjamhkhocjdkaaW.PrintLast Go.Proofs.YtbjamhkhocjdkaaW.PrintMore
set_option linter.unusedVariables false
set_option linter.unusedSimpArgs false
def nat_divide.l0 : Nat → List Int → List Int → List Int → Int → Option (List Int × List Int)
  | 0, _, _, _, _ => none
  | k + 1, v, u, out, i =>
    if 0 ≤ i then
      (nat_digit.f k ((u.drop i.toNat).take (v.length + 1)) v).bind fun q =>
      (nat_reduce.f k ((u.drop i.toNat).take (v.length + 1)) v q).bind fun b =>
      if b.1 = true then
        (nat_restore.f k b.2 v).bind fun p =>
          nat_divide.l0 k v (u.take i.toNat ++ p ++ u.drop (i.toNat + (v.length + 1))) (out.set i.toNat (wrap64 (q - 1))) (i - 1)
      else nat_divide.l0 k v (u.take i.toNat ++ b.2 ++ u.drop (i.toNat + (v.length + 1))) (out.set i.toNat q) (i - 1)
    else some (u, out)
def nat_divide.f (k : Nat) (l0 l1 : List Int) : Option (List Int × List Int) :=
  if l0.length ≤ 1000000 ∧ l1.length ≤ l0.length ∧ 2 ≤ l1.length ∧ 0 ≤ rd l1 ((l1.length : Int) - 1) ∧ rd l1 ((l1.length : Int) - 1) < 1000000000 then
    (nat_scaled.f k l0 (1000000000 / (rd l1 ((l1.length : Int) - 1) + 1))).bind fun u =>
    (nat_scaled.f k l1 (1000000000 / (rd l1 ((l1.length : Int) - 1) + 1))).bind fun v =>
    if u.length = l0.length + 1 ∧ v.length = l1.length + 1 then
      (nat_divide.l0 k (v.take l1.length) u (List.replicate (l0.length - l1.length + 1) 0) ((l0.length : Int) - l1.length)).bind fun s =>
      (nat_trimmed.f k (s.1.take l1.length)).bind fun t =>
      (nat_short.f k t (1000000000 / (rd l1 ((l1.length : Int) - 1) + 1))).bind fun d =>
      (nat_trimmed.f k s.2).bind fun q => some (q, d.1)
    else none
  else none
set_option maxHeartbeats 4000000 in
set_option maxRecDepth 100000 in
theorem nat_divide.calls (k : Nat) (A0 : Option Addr) (c0 : Nat) (l0 : List Int) (A1 : Option Addr) (c1 : Nat) (l1 : List Int) (r1 r2 : List Int) (w : World) (hr0 : Kd.C (Kd.int .i64) w A0 l0.length l0) (hc0 : l0.length ≤ c0) (hr1 : Kd.C (Kd.int .i64) w A1 l1.length l1) (hc1 : l1.length ≤ c1) (h : nat_divide.f k l0 l1 = some (r1, r2)) :
    Calls Try.prog 89 #[.slice A0 l0.length c0, .slice A1 l1.length c1] w fun e w' => ∃ v0_ v1_ : Value, e = .returned (.tuple #[v0_, v1_]) ∧ Kd.R (Kd.int .i64) 3 w' w.heap.size (fun k_ => some k_ ≠ (v1_ : Value).ownBlock) v0_ r1 ∧ Kd.R (Kd.int .i64) 3 w' w.heap.size (fun k_ => some k_ ≠ (v0_ : Value).ownBlock) v1_ r2 ∧ Below w.heap.size w w' := by
  have HR0 := Aside0.mk hr0
  have HC0 := Aside0.mk hc0
  have HR1 := Aside0.mk hr1
  have HC1 := Aside0.mk hc1
  have HB := Aside0.mk (Below.refl w.heap.size w)
  clear hr0 hc0 hr1 hc1
  unfold nat_divide.f at h
  split at h
  · rename_i hg
    obtain ⟨g1, g2, g3, g4, g5⟩ := hg
    obtain ⟨d, hd⟩ : ∃ d, rd l1 ((l1.length : Int) - 1) = d := ⟨_, rfl⟩
    rw [hd] at h g4 g5
    obtain ⟨u, hu, h'⟩ := Option.bind_eq_some_iff.mp h
    clear h
    obtain ⟨v, hv, h⟩ := Option.bind_eq_some_iff.mp h'
    clear h'
    split at h
    · rename_i hl
      obtain ⟨lu, lv⟩ := hl
      obtain ⟨⟨uf, of⟩, hs, h'⟩ := Option.bind_eq_some_iff.mp h
      clear h
      obtain ⟨t, ht, h⟩ := Option.bind_eq_some_iff.mp h'
      clear h'
      obtain ⟨⟨d1, d2⟩, hdd, h'⟩ := Option.bind_eq_some_iff.mp h
      clear h
      obtain ⟨q, hq, h⟩ := Option.bind_eq_some_iff.mp h'
      clear h'
      simp only [Option.some.injEq, Prod.mk.injEq] at h
      obtain ⟨rfl, rfl⟩ := h
      have HU := Aside0.mk hu
      have HV := Aside0.mk hv
      have HS := Aside0.mk hs
      have HT := Aside0.mk ht
      have HD := Aside0.mk hdd
      have HQ := Aside0.mk hq
      have LU := Aside0.mk lu
      have LV := Aside0.mk lv
      obtain ⟨ad1, e1, hx1⟩ := Kd.at_int HR1.out ((l1.length : Int) - 1) (by omega) (by omega)
      subst e1
      rw [hd] at hx1
      have en : ((l1.length : Int) - 1).toNat = l1.length - 1 := by omega
      rw [en] at hx1
      have hnz : ((d + 1) == 0) = false := beq_eq_false_iff_ne.2 (by omega)
      clear hu hv hs ht hdd hq lu lv hd en
      go_enter Try.func89, Try.ntmps89
      go_upto_region 2 with fail
      go_cut [7, 8] (fun s7 s8 wx => ∃ (g7 c7 g8 c8 n8 : Nat), s7 = .slice (some ⟨g7, 0, none⟩) u.length c7 ∧ s8 = .slice (some ⟨g8, 0, none⟩) n8 c8 ∧ Aside0 (n8 = l1.length) ∧ Aside0 (g7 ≠ g8) ∧ Aside0 (Kd.R (Kd.int .i64) 3 wx w.heap.size (fun k => k = g7) (.slice (some ⟨g7, 0, none⟩) u.length c7) u) ∧ Aside0 (Kd.R (Kd.int .i64) 3 wx w.heap.size (fun k => k = g8) (.slice (some ⟨g8, 0, none⟩) l1.length c8) (v.take l1.length)) ∧ Aside0 (Below w.heap.size w wx))
      case first =>
        obtain ⟨i0, hi0, _, hsz0, _⟩ := info_parts info3
        clear hsz0
        go_region_with (first | (go_at_call_of 90 (Value.slice A0 l0.length c0); refine (nat_scaled.calls k _ _ l0 (1000000000 / (d + 1)) u _ ?_ HC0.out HU.out).mono ?_; (repeat (first | exact Kd.C_below HR0.out HB.out | (with_reducible refine Kd.C_alloc ?_ _) | (with_reducible refine Kd.C_drewN ?_ _) | (with_reducible refine Kd.C_drew ?_))); rintro e w5 ⟨va, rfl, ho, hb⟩; obtain ⟨g7, c7, rfl, hgb, hgl, hgc⟩ := Kd.R_form ho (by rw [LU.out]; omega); have n1_ := Aside0.mk (below_step Z0 hb); have HO7 := Aside0.mk (Kd.R_mono (ok' := fun k => k = g7) (Kd.R_tight rfl (Kd.R_lower ho (below_size Z0))) (fun k hk => Option.some.inj hk)); (first | (have h8 : g8 < _ := Kd.R_lt HO8.out _ rfl; have HNE := Aside0.mk (show g7 ≠ g8 from by omega); have n8 := Aside0.mk (Kd.R_below HO8.out hb); clear HO8; have HO8 := n8; clear n8 h8) | skip); clear HB; have HB := n1_; clear n1_ ho hb hgb hgl hgc) | (go_at_call_of 90 (Value.slice (some ad1) l1.length c1); refine (nat_scaled.calls k _ _ l1 (1000000000 / (d + 1)) v _ ?_ HC1.out HV.out).mono ?_; (repeat (first | exact Kd.C_below HR1.out HB.out | (with_reducible refine Kd.C_alloc ?_ _) | (with_reducible refine Kd.C_drewN ?_ _) | (with_reducible refine Kd.C_drew ?_))); rintro e w6 ⟨vb, rfl, ho, hb⟩; obtain ⟨g8, c8, rfl, hgb, hgl, hgc⟩ := Kd.R_form ho (by rw [LV.out]; omega); have n1_ := Aside0.mk (below_step Z0 hb); have ho8 := Kd.R_mono (ok' := fun k => k = g8) (Kd.R_tight rfl (Kd.R_lower ho (below_size Z0))) (fun k hk => Option.some.inj hk); have hcut := cut_to (P := Try.prog) 24 3 .i64 Try.underlying24 hi0 (some ⟨g8, 0, none⟩) v.length c8 (l1.length : Int) (by omega) (by rw [LV.out]; omega) (Kd.R_reads' ho8).2.1; (simp only [Int.toNat_natCast] at hcut); have HO8 := Aside0.mk (Kd.R_take (m := l1.length) ho8 (by rw [LV.out]; omega)); (first | (have h7 : g7 < _ := Kd.R_lt HO7.out _ rfl; have HNE := Aside0.mk (show g7 ≠ g8 from by omega); have n8 := Aside0.mk (Kd.R_below HO7.out hb); clear HO7; have HO7 := n8; clear n8 h7) | skip); clear HB; have HB := n1_; clear n1_ ho ho8 hb hgb hgl hgc))
        all_goals (go_wp2_with fail; go_meet; exact ⟨_, _, _, _, _, rfl, rfl, ⟨rfl⟩, HNE, HO7, HO8, HB⟩)
      case rest =>
        clear HB
        obtain ⟨g7, c7, g8, c8, n8, rfl, rfl, HN8, HNE, HO7, HO8, HB⟩ := hcut
        obtain ⟨V, hV⟩ : ∃ V, V = v.take l1.length := ⟨_, rfl⟩
        have hVl : V.length = l1.length := by rw [hV, List.length_take, LV.out]; omega
        rw [← hV] at HO8 HS
        obtain rfl : n8 = V.length := by rw [HN8.out, hVl]
        rw [← hVl] at HO8
        obtain ⟨J, hJ⟩ : ∃ J, l0.length = l1.length + J := ⟨l0.length - l1.length, by omega⟩
        have hJ1 : J ≤ 1000000 := by omega
        have hjt : ((l0.length : Int) - (l1.length : Int) + 1).toNat = J + 1 := by omega
        have hjt2 : (l0.length : Int) - (l1.length : Int) = J := by omega
        have hjt3 : l0.length - l1.length = J := by omega
        rw [hjt2, hjt3] at HS
        have HJT := Aside0.mk hjt
        have HJ := Aside0.mk hJ
        have HVL := Aside0.mk hVl
        have h0j : 0 ≤ (l0.length : Int) - (l1.length : Int) := by omega
        have h0k : (l0.length : Int) - (l1.length : Int) ≤ 1000000 := by omega
        clear hV hVl hJ hjt hjt2 hjt3 HN8
        go_wp2_with (first | ((with_reducible refine gate_dst (N := 40) rfl ?_); refine Kd.R_make (Kd.int .i64) _ 3 rfl (N := 40) rfl 24 _ _ rfl ((l0.length : Int) - (l1.length : Int) + 1) rfl rfl Try.underlying24 (.int .i64 0) 8 info3 rfl (by decide) (by omega) 0 (ok := fun _ => True) (okp := fun _ => True) rfl (fun _ hk => hk) trivial (by omega) (by omega) (Below.refl _ _) (Nat.le_refl _) ?_; intro va w7 ho hb hg_ hnew_; clear hg_ hnew_; rw [HJT.out] at ho; obtain ⟨g10, c10, ea, hgb, hgl, hgc⟩ := Kd.R_form ho (by simp); rw [List.length_replicate] at ea; subst ea; have h7 : g7 < _ := Kd.R_lt HO7.out _ rfl; have h8 : g8 < _ := Kd.R_lt HO8.out _ rfl; have HNE7 := Aside0.mk (show g7 ≠ g10 from by omega); have HNE8 := Aside0.mk (show g8 ≠ g10 from by omega); have HO10 := Aside0.mk (Kd.R_mono (ok' := fun k => k = g10) (Kd.R_tight rfl (Kd.R_lower ho (below_size HB.out))) (fun k hk => Option.some.inj hk)); have n7 := Aside0.mk (Kd.R_below HO7.out hb); have n8 := Aside0.mk (Kd.R_below HO8.out hb); have n9 := Aside0.mk (below_step HB.out hb); clear HO7 HO8 HB; have HO7 := n7; have HO8 := n8; have HB := n9; clear n7 n8 n9 h7 h8 ho hb hgb hgl hgc))
        go_loopg [11] k (fun kq v11 w' => ∃ (U OUT : List Int) (x : Int), v11 = .int .i64 x ∧ Aside0 (-1 ≤ x ∧ x ≤ J) ∧ Aside0 (U.length = u.length) ∧ Aside0 (OUT.length = J + 1) ∧ Aside0 (nat_divide.l0 kq V U OUT x = some (uf, of)) ∧ Aside0 (kq ≤ k) ∧ Aside0 (Kd.R (Kd.int .i64) 3 w' w.heap.size (fun k => k = g7) (.slice (some ⟨g7, 0, none⟩) u.length c7) U) ∧ Aside0 (Kd.R (Kd.int .i64) 3 w' w.heap.size (fun k => k = g8) (.slice (some ⟨g8, 0, none⟩) V.length c8) V) ∧ Aside0 (Kd.R (Kd.int .i64) 3 w' w.heap.size (fun k => k = g10) (.slice (some ⟨g10, 0, none⟩) (J + 1) c10) OUT) ∧ Aside0 (Below w.heap.size w w'))
        case atStart => exact ⟨u, _, _, rfl, ⟨by omega, by omega⟩, ⟨rfl⟩, ⟨by simp⟩, HS, ⟨Nat.le_refl _⟩, HO7, HO8, HO10, HB⟩
        case round =>
          clear HO7 HO8 HO10 HB HS
          obtain ⟨U, OUT, x, rfl, HX, HUL, HOL, HA, HK1, HO7, HO8, HO10, HB⟩ := hrel
          cases gk with
          | zero => exact absurd HA.out (by simp [nat_divide.l0])
          | succ k1 =>
            have H := HA.out
            clear HA
            simp only [nat_divide.l0] at H
            obtain ⟨hx1, hx2⟩ := HX.out
            by_cases c : 0 ≤ x
            · rw [if_pos c] at H
              obtain ⟨pre, hpre⟩ : ∃ p, p = U.take x.toNat := ⟨_, rfl⟩
              obtain ⟨part, hpart⟩ : ∃ p, p = (U.drop x.toNat).take (V.length + 1) := ⟨_, rfl⟩
              obtain ⟨post, hpost⟩ : ∃ p, p = U.drop (x.toNat + (V.length + 1)) := ⟨_, rfl⟩
              rw [← hpre, ← hpart, ← hpost] at H
              have hU : U = pre ++ part ++ post := by rw [hpre, hpart, hpost, List.append_assoc, ← List.drop_drop, List.take_append_drop, List.take_append_drop]
              have h1 := HUL.out
              have h2 := LU.out
              have h3 := HJ.out
              have h4 := HVL.out
              have hpl : pre.length = x.toNat := by rw [hpre, List.length_take]; omega
              have hql : part.length = l1.length + 1 := by rw [hpart, List.length_take, List.length_drop]; omega
              have hul : u.length = (pre ++ part ++ post).length := by rw [← hU]; exact h1.symm
              have HO7b := Aside0.mk (show (Kd.int .i64).R 3 wr w.heap.size (fun k => k = g7) (.slice (some ⟨g7, 0, none⟩) (pre ++ part ++ post).length c7) (pre ++ part ++ post) from by rw [← hul, ← hU]; exact HO7.out)
              have hc7 := (Kd.R_reads' HO7.out).2.1
              have HC7 := Aside0.mk (show pre.length < c7 from by omega)
              have HPL := Aside0.mk hpl
              have HQL := Aside0.mk hql
              have HP7 := Aside0.mk (show part.length ≤ c7 - pre.length from by simp only [List.length_append] at hul; omega)
              obtain ⟨i0, hi0, _, hsz0, _⟩ := info_parts info3
              have hcut : ∀ W : World, (Instr.slice 24 (.slice (some ⟨g7, 0, none⟩) u.length c7) (some (.int .i64 x)) (some (.int .i64 (x + (l1.length : Int) + 1))) none).run Try.prog W = .ok (.slice (some ⟨g7, pre.length, none⟩) part.length (c7 - pre.length)) W := by
                intro W
                rw [cut_mid (P := Try.prog) 24 3 .i64 .i64 Try.underlying24 hi0 1 hsz0 (some ⟨g7, 0, none⟩) u.length c7 x (x + (l1.length : Int) + 1) c (by omega) (by omega) hc7 W, if_neg (by omega)]
                have e1 : (x + (l1.length : Int) + 1).toNat - x.toNat = part.length := by omega
                rw [e1, ← hpl]
                simp [addr_add]
              obtain ⟨q, hq, H1⟩ := Option.bind_eq_some_iff.mp H
              obtain ⟨⟨neg, p1⟩, hr, H2⟩ := Option.bind_eq_some_iff.mp H1
              have HQ1 := Aside0.mk hq
              have HR1a := Aside0.mk hr
              have hlt : x < (J : Int) + 1 := by omega
              have HXT := Aside0.mk (show x.toNat = pre.length from hpl.symm)
              have HULL := Aside0.mk (show (pre ++ part ++ post).length = u.length from hul.symm)
              clear HO7 hsz0 hi0 hq hr H H1 hpre hpart hpost hU h1 h2 h3 h4 hpl hql hul hc7 HX
              cases neg with
              | false =>
                rw [if_neg (by simp)] at H2
                replace H2 := Aside0.mk H2
                go_wp2_with (first | (go_at_call 91; refine (nat_digit.calls k1 _ _ part _ _ V q _ ?_ ?_ ?_ ?_ HQ1.out).mono ?_; (exact C_part (cap := c7) (Kd.R_reads' HO7b.out).2.2); (exact HP7.out); (exact (Kd.R_reads' HO8.out).2.2); (exact (Kd.R_reads' HO8.out).2.1); rintro e wa ⟨rfl, hdr⟩; have n7 := Aside0.mk (R_drawn HO7b.out hdr); have n8 := Aside0.mk (R_drawn HO8.out hdr); have n10 := Aside0.mk (R_drawn HO10.out hdr); have nb := Aside0.mk (below_drawn HB.out hdr); clear HO7b HO8 HO10 HB hdr; have HO7b := n7; have HO8 := n8; have HO10 := n10; have HB := nb; clear n7 n8 n10 nb) | (go_at_call 92; refine (nat_reduce.callsZ pre post k1 (fun k => k = g7) _ part _ _ V q false p1 w _ HB.out (ZR_of HO7b.out) (fun W_ hk => (Kd.R_reads' (kept_not hk HO8.out HNE.out)).2.2) (Kd.R_reads' HO8.out).2.1 HR1a.out).mono ?_; rintro e wb ⟨rfl, hz, hbb, hkk⟩; obtain ⟨hpl1, hrr⟩ := ZR_back hz HC7.out (by rw [HQL.out]; omega); have HP1 := Aside0.mk hpl1; have n7 := Aside0.mk (Kd.R_mono (ok' := fun k => k = g7) (Kd.R_tight rfl hrr) (fun k hk => Option.some.inj hk)); have n8 := Aside0.mk (kept_not hkk HO8.out HNE.out); have n10 := Aside0.mk (kept_not hkk HO10.out HNE7.out); clear HO7b HO8 HO10 HB hz hrr hkk hpl1; have HO7 := n7; have HO8 := n8; have HO10 := n10; have HB := Aside0.mk hbb; clear n7 n8 n10 hbb; have hxc := Kd.R_celln 0 HO10.out x c (by omega); obtain ⟨hx10, hf10⟩ := hxc))
                have hul := (show (pre ++ p1 ++ post).length = u.length from by have a1 := HULL.out; have a2 := HP1.out; simp only [List.length_append] at a1 ⊢; omega)
                go_roundg k1
                case measure => have := HK1.out; omega
                case rel => exact ⟨pre ++ p1 ++ post, OUT.set x.toNat q, x - 1, by first | rfl | simp, ⟨by omega, by omega⟩, ⟨hul⟩, ⟨by rw [List.length_set]; exact HOL.out⟩, H2, ⟨by have := HK1.out; omega⟩, ⟨by rw [← hul]; exact Kd.R_far HO7.out (fun k hk => by rw [hk]; exact HNE7.out) _⟩, ⟨Kd.R_far HO8.out (fun k hk => by rw [hk]; exact HNE8.out) _⟩, ⟨(Kd.R_putg HO10.out x _).1⟩, ⟨below_set HB.out (Kd.R_base HO10.out _ rfl)⟩⟩
              | true =>
                rw [if_pos rfl] at H2
                obtain ⟨p2, hrs, H3⟩ := Option.bind_eq_some_iff.mp H2
                have HRS := Aside0.mk hrs
                clear H2 hrs
                have H2 := Aside0.mk H3
                clear H3
                go_wp2_with (first | (go_at_call 91; refine (nat_digit.calls k1 _ _ part _ _ V q _ ?_ ?_ ?_ ?_ HQ1.out).mono ?_; (exact C_part (cap := c7) (Kd.R_reads' HO7b.out).2.2); (exact HP7.out); (exact (Kd.R_reads' HO8.out).2.2); (exact (Kd.R_reads' HO8.out).2.1); rintro e wa ⟨rfl, hdr⟩; have n7 := Aside0.mk (R_drawn HO7b.out hdr); have n8 := Aside0.mk (R_drawn HO8.out hdr); have n10 := Aside0.mk (R_drawn HO10.out hdr); have nb := Aside0.mk (below_drawn HB.out hdr); clear HO7b HO8 HO10 HB hdr; have HO7b := n7; have HO8 := n8; have HO10 := n10; have HB := nb; clear n7 n8 n10 nb) | (go_at_call 92; refine (nat_reduce.callsZ pre post k1 (fun k => k = g7) _ part _ _ V q true p1 w _ HB.out (ZR_of HO7b.out) (fun W_ hk => (Kd.R_reads' (kept_not hk HO8.out HNE.out)).2.2) (Kd.R_reads' HO8.out).2.1 HR1a.out).mono ?_; rintro e wb ⟨rfl, hz, hbb, hkk⟩; obtain ⟨hpl1, hrr⟩ := ZR_back hz HC7.out (by rw [HQL.out]; omega); have HP1 := Aside0.mk hpl1; have n7 := Aside0.mk (Kd.R_mono (ok' := fun k => k = g7) (Kd.R_tight rfl hrr) (fun k hk => Option.some.inj hk)); have n8 := Aside0.mk (kept_not hkk HO8.out HNE.out); have n10 := Aside0.mk (kept_not hkk HO10.out HNE7.out); clear HO7b HO8 HO10 HB hz hrr hkk hpl1; have HO7 := n7; have HO8 := n8; have HO10 := n10; have HB := Aside0.mk hbb; clear n7 n8 n10 hbb) | (go_at_call 93; refine (nat_restore.callsZ pre post k1 (fun k => k = g7) _ p1 _ _ V p2 w _ HB.out (by rw [← HP1.out]; exact ZR_of HO7.out) (fun W_ hk => (Kd.R_reads' (kept_not hk HO8.out HNE.out)).2.2) (Kd.R_reads' HO8.out).2.1 HRS.out).mono ?_; rintro e wd ⟨rfl, hz, hbb, hkk⟩; obtain ⟨hpl1, hrr⟩ := ZR_back hz HC7.out (by rw [HQL.out]; omega); have HP2 := Aside0.mk hpl1; have n7 := Aside0.mk (Kd.R_mono (ok' := fun k => k = g7) (Kd.R_tight rfl hrr) (fun k hk => Option.some.inj hk)); have n8 := Aside0.mk (kept_not hkk HO8.out HNE.out); have n10 := Aside0.mk (kept_not hkk HO10.out HNE7.out); clear HO7 HO8 HO10 HB hz hrr hkk hpl1; have HO7 := n7; have HO8 := n8; have HO10 := n10; have HB := Aside0.mk hbb; clear n7 n8 n10 hbb; have hxc := Kd.R_celln 0 HO10.out x c (by omega); obtain ⟨hx10, hf10⟩ := hxc))
                have hul := (show (pre ++ p2 ++ post).length = u.length from by have a1 := HULL.out; have a2 := HP2.out; simp only [List.length_append] at a1 ⊢; omega)
                go_roundg k1
                case measure => have := HK1.out; omega
                case rel => exact ⟨pre ++ p2 ++ post, OUT.set x.toNat (wrap64 (q - 1)), x - 1, by first | rfl | simp, ⟨by omega, by omega⟩, ⟨hul⟩, ⟨by rw [List.length_set]; exact HOL.out⟩, H2, ⟨by have := HK1.out; omega⟩, ⟨by rw [← hul]; exact Kd.R_far HO7.out (fun k hk => by rw [hk]; exact HNE7.out) _⟩, ⟨Kd.R_far HO8.out (fun k hk => by rw [hk]; exact HNE8.out) _⟩, ⟨(Kd.R_putg HO10.out x _).1⟩, ⟨below_set HB.out (Kd.R_base HO10.out _ rfl)⟩⟩
            · rw [if_neg c] at H
              simp only [Option.some.injEq, Prod.mk.injEq] at H
              obtain ⟨rfl, rfl⟩ := H
              have HUT := Aside0.mk (show l1.length ≤ U.length from by have h1 := HUL.out; have h2 := LU.out; omega)
              have hc7 := (Kd.R_reads' HO7.out).2.1
              have h2 := LU.out
              obtain ⟨i0, hi0, _, hsz0, _⟩ := info_parts info3
              have hcut := cut_to (P := Try.prog) 24 3 .i64 Try.underlying24 hi0 (some ⟨g7, 0, none⟩) u.length c7 (l1.length : Int) (by omega) (by omega) hc7
              simp only [Int.toNat_natCast] at hcut
              clear hc7 h2 hi0 hsz0
              go_wp2_with (first | (go_at_call 83; (with_reducible refine (nat_trimmed.calls k (fun k => k = g7) _ (U.take l1.length) t w _ HB.out (Kd.R_take (m := l1.length) HO7.out HUT.out) HT.out).mono ?_); rintro e wa ⟨vt, rfl, hz, hbb, hkk⟩; have n10 := Aside0.mk (kept_not hkk HO10.out HNE7.out); clear HO7 HO8 HO10 HB hkk; have HO10 := n10; have HB := Aside0.mk hbb; have HTT := Aside0.mk (Kd.R_reads hz); clear n10 hbb hz; obtain ⟨At, ct, rfl, htl, htc⟩ := HTT.out; have HTL := Aside0.mk htl; have HTC := Aside0.mk htc; clear HTT htl htc) | (go_at_call 88; refine (nat_short.calls k _ _ t (1000000000 / (d + 1)) d1 d2 _ HTC.out HTL.out HD.out).mono ?_; rintro e wb ⟨vr, vx, rfl, hr0, hr1, hbb⟩; have hg10 : g10 < _ := Kd.R_lt HO10.out _ rfl; have HGR := Aside0.mk (show ∀ k, vr.ownBlock = some k → g10 < k from fun k hk => Nat.lt_of_lt_of_le hg10 (Kd.R_base hr0 k hk)); have HVR := Aside0.mk (Kd.R_lower (Kd.R_tight rfl hr0) (below_size HB.out)); have n10 := Aside0.mk (Kd.R_below HO10.out hbb); have nb := Aside0.mk (below_step HB.out hbb); clear HO10 HB hr0 hr1 hbb hg10; have HO10 := n10; have HB := nb; clear n10 nb) | (go_at_call 83; (with_reducible refine (nat_trimmed.calls k (fun k => k = g10) _ OUT q w _ HB.out HO10.out HQ.out).mono ?_); rintro e wc ⟨vq, rfl, hz, hbb, hkk⟩; have HLR := Aside0.mk (Kd.R_lt HVR.out); have nr := Aside0.mk (Kd.R_step HVR.out (fun k h1 h2 => hkk.2 k h2 (fun e => absurd (HGR.out k h1.symm) (by rw [e]; exact Nat.lt_irrefl _)))); clear HVR HO10 HB hkk; have HVR := nr; have HB := Aside0.mk hbb; have HVQ := Aside0.mk hz; clear nr hbb hz))
              go_ret2
              have hq1 : ∀ k, vq.ownBlock = some k → vr.ownBlock = some k → False := by
                intro k h1 h2
                have a1 := HVQ.out.1 k h1
                have a2 := HGR.out k h2
                have a3 := HLR.out k h2
                rcases a1 with a1 | a1 <;> omega
              exact ⟨_, _, rfl, Kd.R_mono (Kd.R_tight rfl HVQ.out) (fun k h1 h2 => hq1 k h1.symm h2.symm), Kd.R_mono HVR.out (fun k h1 h2 => hq1 k h2.symm h1.symm), HB.out⟩
    · exact absurd h (by simp)
  · exact absurd h (by simp)
def nat_divided.f (k : Nat) (l0 : List Int) (l1 : List Int) : Option (List Int × List Int) := (nat_compare.f k l0 l1).bind fun t197 => (if t197 < 0 then ((nat_padded.f l0 (l0.length : Int)).bind fun t198 => ((nat_trimmed.f k t198).bind fun t201 => (some (([] : List Int), t201)))) else (if (l1.length : Int) = 1 then (if 0 < (l1.length : Int) then ((nat_short.f k l0 (rd l1 0)).bind fun bt205 => (some (bt205.1, bt205.2))) else (none)) else ((nat_divide.f k l0 l1).bind fun bt211 => (some (bt211.1, bt211.2)))))
set_option maxHeartbeats 8000000 in
set_option maxRecDepth 100000 in
theorem nat_divided.calls (k : Nat) (A0 : Option Addr) (c0 : Nat) (l0 : List Int) (A1 : Option Addr) (c1 : Nat) (l1 : List Int) (r1 : List Int) (r2 : List Int) (w : World) (hr0 : Kd.C (Kd.int .i64) w A0 l0.length l0) (hc0 : l0.length ≤ c0) (hr1 : Kd.C (Kd.int .i64) w A1 l1.length l1) (hc1 : l1.length ≤ c1) (h : nat_divided.f k l0 l1 = some (r1, r2)) :
    Calls Try.prog 82 #[.slice A0 l0.length c0, .slice A1 l1.length c1] w fun e w' => ∃ v0_ v1_ : Value, e = .returned (.tuple #[v0_, v1_]) ∧ Kd.R (Kd.int .i64) 3 w' w.heap.size (fun k_ => some k_ ≠ (v1_ : Value).ownBlock) v0_ r1 ∧ Kd.R (Kd.int .i64) 3 w' w.heap.size (fun k_ => some k_ ≠ (v0_ : Value).ownBlock) v1_ r2 ∧ Below w.heap.size w w' := by
  have HR0 := Aside0.mk hr0
  have HC0 := Aside0.mk hc0
  clear hr0 hc0
  have HR1 := Aside0.mk hr1
  have HC1 := Aside0.mk hc1
  clear hr1 hc1
  have HB := Aside0.mk (Below.refl w.heap.size w)
  have H : ((nat_compare.f k l0 l1).bind fun t197 => (if t197 < 0 then ((nat_padded.f l0 (l0.length : Int)).bind fun t198 => ((nat_trimmed.f k t198).bind fun t201 => (some (([] : List Int), t201)))) else (if (l1.length : Int) = 1 then (if 0 < (l1.length : Int) then ((nat_short.f k l0 (rd l1 0)).bind fun bt205 => (some (bt205.1, bt205.2))) else (none)) else ((nat_divide.f k l0 l1).bind fun bt211 => (some (bt211.1, bt211.2)))))) = some (r1, r2) := h
  clear h
  replace H := Option.bind_eq_some_iff.mp H
  obtain ⟨t197, A30, H⟩ := H
  replace H : (if t197 < 0 then ((nat_padded.f l0 (l0.length : Int)).bind fun t198 => ((nat_trimmed.f k t198).bind fun t201 => (some (([] : List Int), t201)))) else (if (l1.length : Int) = 1 then (if 0 < (l1.length : Int) then ((nat_short.f k l0 (rd l1 0)).bind fun bt205 => (some (bt205.1, bt205.2))) else (none)) else ((nat_divide.f k l0 l1).bind fun bt211 => (some (bt211.1, bt211.2))))) = some (r1, r2) := H
  have A3 := Aside0.mk A30
  clear A30
  by_cases c4 : t197 < 0
  · rw [if_pos c4] at H
    have c4b0 : decide (t197 < 0) = true := decide_eq_true c4
    clear c4
    replace H := Option.bind_eq_some_iff.mp H
    obtain ⟨t198, A50, H⟩ := H
    replace H : ((nat_trimmed.f k t198).bind fun t201 => (some (([] : List Int), t201))) = some (r1, r2) := H
    have A5 := Aside0.mk A50
    clear A50
    replace H := Option.bind_eq_some_iff.mp H
    obtain ⟨t201, A60, H⟩ := H
    replace H : (some (([] : List Int), t201)) = some (r1, r2) := H
    have A6 := Aside0.mk A60
    clear A60
    simp only [Option.some.injEq, Prod.mk.injEq] at H
    obtain ⟨rfl, rfl⟩ := H
    go_enter Try.func82, Try.ntmps82
    go_wp2_with (first | ((with_reducible refine gate_callee (f := 87) rfl ?_); refine goesL_ (some 9) rfl rfl Try.func87 Z6 rfl #[.slice A0 l0.length c0, .slice A1 l1.length c1] rfl Z2 ?_; (with_reducible refine (nat_compare.calls k _ _ l0 _ _ l1 t197 _ ?side1 ?side2 ?side3 ?side4 A3.out).mono ?_); (case side1 => repeat (first | exact HR0.out | (with_reducible refine Kd.C_alloc ?_ _) | (with_reducible refine Kd.C_drewN ?_ _) | (with_reducible refine Kd.C_drew ?_))); (case side2 => exact HC0.out); (case side3 => repeat (first | exact HR1.out | (with_reducible refine Kd.C_alloc ?_ _) | (with_reducible refine Kd.C_drewN ?_ _) | (with_reducible refine Kd.C_drew ?_))); (case side4 => exact HC1.out); rintro e w' ⟨rfl, ⟨nd, rfl⟩⟩; refine ⟨_, rfl, ?_⟩) | ((with_reducible refine gate_callee (f := 84) rfl ?_); refine goesL_ (some 14) rfl rfl Try.func84 Z6 rfl #[.slice A0 l0.length c0, .int .i64 (l0.length : Int)] rfl Z2 ?_; (with_reducible refine (nat_padded.calls _ _ l0 (l0.length : Int) t198 _ ?side1 ?side2 A5.out).mono ?_); (case side1 => repeat (first | exact HR0.out | (with_reducible refine Kd.C_alloc ?_ _) | (with_reducible refine Kd.C_drewN ?_ _) | (with_reducible refine Kd.C_drew ?_))); (case side2 => exact HC0.out); rintro e w7 ⟨v199, rfl, ho0, hb⟩; refine ⟨_, rfl, ?_⟩; have n0_ := Aside0.mk (Kd.R_lower ho0 (below_size Z0)); have n1_ := Aside0.mk (below_step Z0 hb); clear HB; have HO200 := n0_; have HB := n1_; clear n0_ n1_; (try clear hb); (try clear hb2); (try clear hk); (try clear hi); (try clear ho0); obtain ⟨Ao8, co8, eo8⟩ := Kd.R_slice HO200.out; subst eo8) | ((with_reducible refine gate_callee (f := 83) rfl ?_); refine goesL_ (some 15) rfl rfl Try.func83 Z6 rfl #[.slice Ao8 t198.length co8] rfl Z2 ?_; (with_reducible refine (nat_trimmed.calls k (fun k_ => some k_ = (.slice Ao8 t198.length co8 : Value).ownBlock) (.slice Ao8 t198.length co8) t198 t201 w _ ?side1 ?side2 A6.out).mono ?_); (case side1 => repeat (first | (with_reducible first | exact HB.out | apply below_alloc | apply pw_below_drewN | apply below_drew1) | exact HB.out)); (case side2 => exact Kd.R_tight rfl HO200.out); rintro e w9 ⟨v202, rfl, ho0, hb, hkp⟩; refine ⟨_, rfl, ?_⟩; have n0_ := Aside0.mk (Kd.R_mono (ok' := fun k_ => True) ho0 (fun k_ hk_ => trivial)); have n1_ := Aside0.mk (hb); clear HB; clear HO200; have HO203 := n0_; have HB := n1_; clear n0_ n1_; (try clear hb); (try clear hkp); (try clear ho0)))
    go_ret2
    exact ⟨_, _, by first | rfl | (simp [errW_none, errW_some] <;> rfl) | (simp [*, errW_none, errW_some] <;> rfl), by first | exact Kd.R_nil _ _ _ _ _ | exact Kd.N_nil _ _ _ _ _ | exact Kd.V_nil _ _ _ _ _ | exact Kd.Q_nil _ _ _ _ _ | exact Kd.S_nil _ _ _ _ _, by (with_reducible repeat (first | apply Kd.R_alloc | apply Kd.R_drewN | apply Kd.R_drew)); exact Kd.R_mono HO203.out (fun _ hk => (by simp [Value.ownBlock])), by repeat (first | (with_reducible first | exact HB.out | apply below_alloc | apply pw_below_drewN | apply below_drew1) | exact HB.out)⟩
  · rw [if_neg c4] at H
    have c4b0 : decide (t197 < 0) = false := decide_eq_false c4
    clear c4
    by_cases c10 : (l1.length : Int) = 1
    · rw [if_pos c10] at H
      have c10b0 : ((l1.length : Int) == 1) = true := beq_iff_eq.mpr c10
      have c10b1 : ((l1.length : Int) != 1) = false := bne_eq_false_iff_eq.mpr c10
      clear c10
      by_cases c11 : 0 < (l1.length : Int)
      · rw [if_pos c11] at H
        have c11b0 : decide (0 < (l1.length : Int)) = true := decide_eq_true c11
        have c11b1 : decide (0 < l1.length) = true := decide_eq_true (by omega)
        clear c11
        replace H := Option.bind_eq_some_iff.mp H
        obtain ⟨⟨t205, t206⟩, A120, H⟩ := H
        replace H : (some (t205, t206)) = some (r1, r2) := H
        have A12 := Aside0.mk A120
        clear A120
        simp only [Option.some.injEq, Prod.mk.injEq] at H
        obtain ⟨rfl, rfl⟩ := H
        go_enter Try.func82, Try.ntmps82
        go_wp2_with (first | ((with_reducible refine gate_callee (f := 87) rfl ?_); refine goesL_ (some 9) rfl rfl Try.func87 Z6 rfl #[.slice A0 l0.length c0, .slice A1 l1.length c1] rfl Z2 ?_; (with_reducible refine (nat_compare.calls k _ _ l0 _ _ l1 t197 _ ?side1 ?side2 ?side3 ?side4 A3.out).mono ?_); (case side1 => repeat (first | exact HR0.out | (with_reducible refine Kd.C_alloc ?_ _) | (with_reducible refine Kd.C_drewN ?_ _) | (with_reducible refine Kd.C_drew ?_))); (case side2 => exact HC0.out); (case side3 => repeat (first | exact HR1.out | (with_reducible refine Kd.C_alloc ?_ _) | (with_reducible refine Kd.C_drewN ?_ _) | (with_reducible refine Kd.C_drew ?_))); (case side4 => exact HC1.out); rintro e w' ⟨rfl, ⟨nd, rfl⟩⟩; refine ⟨_, rfl, ?_⟩; have p204 : 0 ≤ (0 : Int) := (by omega); have q204 : 0 < (l1.length : Int) := of_decide_eq_true Z1; obtain ⟨ad204, e204, hx204_0⟩ := Kd.at_int HR1.out 0 p204 q204; cases e204; have qi204 : (0 < l1.length) = True := eq_true (by omega); (try rw [show ((0 : Int)).toNat = 0 from rfl] at hx204_0); (try rw [Addr.add_zero'] at hx204_0); replace p204 := eq_true p204; replace q204 := eq_true q204) | ((with_reducible refine gate_callee (f := 88) rfl ?_); refine goesL_ (some 24) rfl rfl Try.func88 Z6 rfl #[.slice A0 l0.length c0, .int .i64 (rd l1 0)] rfl Z2 ?_; (with_reducible refine (nat_short.calls k _ _ l0 (rd l1 0) t205 t206 _ ?side1 ?side2 A12.out).mono ?_); (case side1 => repeat (first | exact HR0.out | (with_reducible refine Kd.C_alloc ?_ _) | (with_reducible refine Kd.C_drewN ?_ _) | (with_reducible refine Kd.C_drew ?_))); (case side2 => exact HC0.out); rintro e w13 ⟨v207, v209, rfl, ho0, ho1, hb⟩; refine ⟨_, rfl, ?_⟩; have n0_ := Aside0.mk (Kd.R_lower ho0 (below_size Z0)); have n1_ := Aside0.mk (Kd.R_lower ho1 (below_size Z0)); have n2_ := Aside0.mk (below_step Z0 hb); clear HB; have HO208 := n0_; have HO210 := n1_; have HB := n2_; clear n0_ n1_ n2_; (try clear hb); (try clear hb2); (try clear hk); (try clear hi); (try clear ho0); (try clear ho1)))
        go_ret2
        exact ⟨_, _, by first | rfl | (simp [errW_none, errW_some] <;> rfl) | (simp [*, errW_none, errW_some] <;> rfl), by (with_reducible repeat (first | apply Kd.R_alloc | apply Kd.R_drewN | apply Kd.R_drew)); exact HO208.out, by (with_reducible repeat (first | apply Kd.R_alloc | apply Kd.R_drewN | apply Kd.R_drew)); exact HO210.out, by repeat (first | (with_reducible first | exact HB.out | apply below_alloc | apply pw_below_drewN | apply below_drew1) | exact HB.out)⟩
      · rw [if_neg c11] at H
        exact absurd H (by simp)
    · rw [if_neg c10] at H
      have c10b0 : ((l1.length : Int) == 1) = false := beq_eq_false_iff_ne.mpr c10
      have c10b1 : ((l1.length : Int) != 1) = true := bne_iff_ne.mpr c10
      replace H := Option.bind_eq_some_iff.mp H
      obtain ⟨⟨t211, t212⟩, A140, H⟩ := H
      replace H : (some (t211, t212)) = some (r1, r2) := H
      have A14 := Aside0.mk A140
      clear A140
      simp only [Option.some.injEq, Prod.mk.injEq] at H
      obtain ⟨rfl, rfl⟩ := H
      go_enter Try.func82, Try.ntmps82
      go_wp2_with (first | ((with_reducible refine gate_callee (f := 87) rfl ?_); refine goesL_ (some 9) rfl rfl Try.func87 Z6 rfl #[.slice A0 l0.length c0, .slice A1 l1.length c1] rfl Z2 ?_; (with_reducible refine (nat_compare.calls k _ _ l0 _ _ l1 t197 _ ?side1 ?side2 ?side3 ?side4 A3.out).mono ?_); (case side1 => repeat (first | exact HR0.out | (with_reducible refine Kd.C_alloc ?_ _) | (with_reducible refine Kd.C_drewN ?_ _) | (with_reducible refine Kd.C_drew ?_))); (case side2 => exact HC0.out); (case side3 => repeat (first | exact HR1.out | (with_reducible refine Kd.C_alloc ?_ _) | (with_reducible refine Kd.C_drewN ?_ _) | (with_reducible refine Kd.C_drew ?_))); (case side4 => exact HC1.out); rintro e w' ⟨rfl, ⟨nd, rfl⟩⟩; refine ⟨_, rfl, ?_⟩) | ((with_reducible refine gate_callee (f := 89) rfl ?_); refine goesL_ (some 29) rfl rfl Try.func89 Z6 rfl #[.slice A0 l0.length c0, .slice A1 l1.length c1] rfl Z2 ?_; (with_reducible refine (nat_divide.calls k _ _ l0 _ _ l1 t211 t212 _ ?side1 ?side2 ?side3 ?side4 A14.out).mono ?_); (case side1 => repeat (first | exact HR0.out | (with_reducible refine Kd.C_alloc ?_ _) | (with_reducible refine Kd.C_drewN ?_ _) | (with_reducible refine Kd.C_drew ?_))); (case side2 => exact HC0.out); (case side3 => repeat (first | exact HR1.out | (with_reducible refine Kd.C_alloc ?_ _) | (with_reducible refine Kd.C_drewN ?_ _) | (with_reducible refine Kd.C_drew ?_))); (case side4 => exact HC1.out); rintro e w15 ⟨v213, v215, rfl, ho0, ho1, hb⟩; refine ⟨_, rfl, ?_⟩; have n0_ := Aside0.mk (Kd.R_lower ho0 (below_size Z0)); have n1_ := Aside0.mk (Kd.R_lower ho1 (below_size Z0)); have n2_ := Aside0.mk (below_step Z0 hb); clear HB; have HO214 := n0_; have HO216 := n1_; have HB := n2_; clear n0_ n1_ n2_; (try clear hb); (try clear hb2); (try clear hk); (try clear hi); (try clear ho0); (try clear ho1)))
      go_ret2
      exact ⟨_, _, by first | rfl | (simp [errW_none, errW_some] <;> rfl) | (simp [*, errW_none, errW_some] <;> rfl), by (with_reducible repeat (first | apply Kd.R_alloc | apply Kd.R_drewN | apply Kd.R_drew)); exact HO214.out, by (with_reducible repeat (first | apply Kd.R_alloc | apply Kd.R_drewN | apply Kd.R_drew)); exact HO216.out, by repeat (first | (with_reducible first | exact HB.out | apply below_alloc | apply pw_below_drewN | apply below_drew1) | exact HB.out)⟩
end Go.Proofs.Ytbjamhkhocjdkaa.Px
namespace Go.Proofs.Ytbjamhkhocjdkaa.Px
open Go.RowKit Go.Proofs.YtbjamhkhocjdkaaW.PrintWords Go.Proofs.YtbjamhkhocjdkaaW.PrintLast Go.Proofs.YtbjamhkhocjdkaaW.PrintMore Go.Proofs.Ytbjamhkhocjdkaa.Mat
set_option linter.unusedVariables false
theorem mul_le_b {q x : Int} (hq : 0 ≤ q ∧ q ≤ 1000000000) (hx : 0 ≤ x ∧ x < 1000000000) : 0 ≤ q * x ∧ q * x ≤ q * 999999999 ∧ q * 999999999 ≤ 999999999000000000 := by
  refine ⟨Int.mul_nonneg hq.1 hx.1, Int.mul_le_mul_of_nonneg_left (by omega) hq.1, by omega⟩
theorem ev_reduce_l0 (v : List Int) (hv : Dig v) (hvl : v.length ≤ 1000) (q : Int) (hq : 0 ≤ q ∧ q ≤ 1000000000) (S : Int) : ∀ (d : Nat) (x : List Int) (c i : Int), Dig x → x.length ≤ 1000 → v.length ≤ x.length → 0 ≤ i → i ≤ x.length → (x.length : Int) - i = d → 0 ≤ c → c ≤ q →
    val x - (c + q * val (v.drop i.toNat)) * pw i.toNat = S → ∃ r b, Ev (fun k => nat_reduce.l0 k x v q c x.length i) (decide (b > 0), r) ∧ Dig r ∧ r.length = x.length ∧ 0 ≤ b ∧ val r = S + b * pw x.length := by
  intro d
  induction d with
  | zero =>
    intro x c i hx hxl hvx h0 h1 hd hc0 hc1 hS
    have e : v.drop i.toNat = [] := List.drop_eq_nil_of_le (by omega)
    have ei : i.toNat = x.length := by omega
    rw [e, ei] at hS
    simp only [val, Int.mul_zero, Int.add_zero] at hS
    refine ⟨x, c, ?_, hx, rfl, hc0, by omega⟩
    refine Ev.step (f := fun _ => some _) (fun k => ?_) (Ev.now _)
    simp only [nat_reduce.l0]
    rw [if_neg (by omega)]
  | succ d ih =>
    intro x c i hx hxl hvx h0 h1 hd hc0 hc1 hS
    have ei : (i + 1).toNat = i.toNat + 1 := by omega
    have hr := hx.rd i
    by_cases cb : i < v.length
    · have hrv := hv.rd i
      have hm := mul_le_b hq hrv
      have hvd := val_drop (l := v) h0 cb
      obtain ⟨p, hp⟩ : ∃ p, q * rd v i = p := ⟨_, rfl⟩
      rw [hp] at hm
      by_cases cn : rd x i - c - p < 0
      · obtain ⟨t, ht⟩ : ∃ t, (-(rd x i - c - p) + 1000000000 - 1) / 1000000000 = t := ⟨_, rfl⟩
        have ht1 : 0 ≤ t ∧ t ≤ q ∧ 0 ≤ rd x i - c - p + t * 1000000000 ∧ rd x i - c - p + t * 1000000000 < 1000000000 := by omega
        have hs := val_set (l := x) (rd x i - c - p + t * 1000000000) h0 (by omega)
        have hlen : (x.set i.toNat (rd x i - c - p + t * 1000000000)).length = x.length := List.length_set
        have := ih (x.set i.toNat (rd x i - c - p + t * 1000000000)) t (i + 1) (hx.set _ ⟨ht1.2.2.1, ht1.2.2.2⟩) (by omega) (by omega) (by omega) (by omega) (by omega) (by omega) (by omega)
          (by rw [hs, ei, pw_succ]; rw [hvd] at hS; grind)
        rw [hlen] at this
        obtain ⟨r, b, hE, hD⟩ := this
        refine ⟨r, b, Ev.step (fun k => ?_) hE, hD⟩
        simp only [nat_reduce.l0]
        rw [hp]
        rw [if_pos (by omega), if_pos h0, if_pos (by omega), if_pos cb, w64 (x := p) (by omega) (by omega), w64 (x := rd x i - c) (by omega) (by omega), w64 (x := rd x i - c - p) (by omega) (by omega), if_pos cn,
          w64 (x := -(rd x i - c - p)) (by omega) (by omega), w64 (x := -(rd x i - c - p) + 1000000000) (by omega) (by omega), w64 (x := -(rd x i - c - p) + 1000000000 - 1) (by omega) (by omega), tdiv_e (by omega), ht,
          w64 (x := t) (by omega) (by omega), w64 (x := t * 1000000000) (by omega) (by omega), w64 (x := rd x i - c - p + t * 1000000000) (by omega) (by omega), w64 (x := i + 1) (by omega) (by omega)]
      · have hs := val_set (l := x) (rd x i - c - p) h0 (by omega)
        have hlen : (x.set i.toNat (rd x i - c - p)).length = x.length := List.length_set
        have := ih (x.set i.toNat (rd x i - c - p)) 0 (i + 1) (hx.set _ (by omega)) (by omega) (by omega) (by omega) (by omega) (by omega) (by omega) (by omega)
          (by rw [hs, ei, pw_succ]; rw [hvd] at hS; grind)
        rw [hlen] at this
        obtain ⟨r, b, hE, hD⟩ := this
        refine ⟨r, b, Ev.step (fun k => ?_) hE, hD⟩
        simp only [nat_reduce.l0]
        rw [hp]
        rw [if_pos (by omega), if_pos h0, if_pos (by omega), if_pos cb, w64 (x := p) (by omega) (by omega), w64 (x := rd x i - c) (by omega) (by omega), w64 (x := rd x i - c - p) (by omega) (by omega), if_neg cn, w64 (x := i + 1) (by omega) (by omega)]
    · have e1 : v.drop i.toNat = [] := List.drop_eq_nil_of_le (by omega)
      have e2 : v.drop (i.toNat + 1) = [] := List.drop_eq_nil_of_le (by omega)
      by_cases cn : rd x i - c < 0
      · obtain ⟨t, ht⟩ : ∃ t, (-(rd x i - c) + 1000000000 - 1) / 1000000000 = t := ⟨_, rfl⟩
        have ht1 : 0 ≤ t ∧ t ≤ q ∧ 0 ≤ rd x i - c + t * 1000000000 ∧ rd x i - c + t * 1000000000 < 1000000000 := by omega
        have hs := val_set (l := x) (rd x i - c + t * 1000000000) h0 (by omega)
        have hlen : (x.set i.toNat (rd x i - c + t * 1000000000)).length = x.length := List.length_set
        have := ih (x.set i.toNat (rd x i - c + t * 1000000000)) t (i + 1) (hx.set _ ⟨ht1.2.2.1, ht1.2.2.2⟩) (by omega) (by omega) (by omega) (by omega) (by omega) (by omega) (by omega)
          (by rw [hs, ei, pw_succ, e2]; rw [e1] at hS; simp only [val, Int.mul_zero, Int.add_zero] at hS ⊢; grind)
        rw [hlen] at this
        obtain ⟨r, b, hE, hD⟩ := this
        refine ⟨r, b, Ev.step (fun k => ?_) hE, hD⟩
        simp only [nat_reduce.l0]
        rw [if_pos (by omega), if_pos h0, if_pos (by omega), if_neg cb, w64 (x := rd x i - c) (by omega) (by omega), if_pos cn,
          w64 (x := -(rd x i - c)) (by omega) (by omega), w64 (x := -(rd x i - c) + 1000000000) (by omega) (by omega), w64 (x := -(rd x i - c) + 1000000000 - 1) (by omega) (by omega), tdiv_e (by omega), ht,
          w64 (x := t) (by omega) (by omega), w64 (x := t * 1000000000) (by omega) (by omega), w64 (x := rd x i - c + t * 1000000000) (by omega) (by omega), w64 (x := i + 1) (by omega) (by omega)]
      · have hs := val_set (l := x) (rd x i - c) h0 (by omega)
        have hlen : (x.set i.toNat (rd x i - c)).length = x.length := List.length_set
        have := ih (x.set i.toNat (rd x i - c)) 0 (i + 1) (hx.set _ (by omega)) (by omega) (by omega) (by omega) (by omega) (by omega) (by omega) (by omega)
          (by rw [hs, ei, pw_succ, e2]; rw [e1] at hS; simp only [val, Int.mul_zero, Int.add_zero] at hS ⊢; grind)
        rw [hlen] at this
        obtain ⟨r, b, hE, hD⟩ := this
        refine ⟨r, b, Ev.step (fun k => ?_) hE, hD⟩
        simp only [nat_reduce.l0]
        rw [if_pos (by omega), if_pos h0, if_pos (by omega), if_neg cb, w64 (x := rd x i - c) (by omega) (by omega), if_neg cn, w64 (x := i + 1) (by omega) (by omega)]
theorem ev_reduce (u v : List Int) (hu : Dig u) (hv : Dig v) (hul : u.length ≤ 1000) (hvl : v.length ≤ u.length) (q : Int) (hq : 0 ≤ q ∧ q ≤ 1000000000) :
    ∃ r b, Ev (fun k => nat_reduce.f k u v q) (decide (b > 0), r) ∧ Dig r ∧ r.length = u.length ∧ 0 ≤ b ∧ val r = val u - q * val v + b * pw u.length :=
  ev_reduce_l0 v hv (by omega) q hq _ u.length u 0 0 hu hul hvl (by omega) (by omega) (by omega) (by omega) hq.1 (by simp [pw_zero])
theorem ev_restore_l0 (v : List Int) (hv : Dig v) (hvl : v.length ≤ 1000) (S : Int) : ∀ (d : Nat) (x : List Int) (c i : Int), Dig x → x.length ≤ 1000 → v.length ≤ x.length → 0 ≤ i → i ≤ x.length → (x.length : Int) - i = d → 0 ≤ c → c ≤ 1 →
    val x + (c + val (v.drop i.toNat)) * pw i.toNat = S → ∃ r b, Ev (fun k => nat_restore.l0 k x v c x.length i) r ∧ Dig r ∧ r.length = x.length ∧ 0 ≤ b ∧ val r + b * pw x.length = S := by
  intro d
  induction d with
  | zero =>
    intro x c i hx hxl hvx h0 h1 hd hc0 hc1 hS
    have e : v.drop i.toNat = [] := List.drop_eq_nil_of_le (by omega)
    have ei : i.toNat = x.length := by omega
    rw [e, ei] at hS
    simp only [val, Int.add_zero] at hS
    refine ⟨x, c, ?_, hx, rfl, hc0, hS⟩
    refine Ev.step (f := fun _ => some _) (fun k => ?_) (Ev.now _)
    simp only [nat_restore.l0]
    rw [if_neg (by omega)]
  | succ d ih =>
    intro x c i hx hxl hvx h0 h1 hd hc0 hc1 hS
    have ei : (i + 1).toNat = i.toNat + 1 := by omega
    have hr := hx.rd i
    by_cases cb : i < v.length
    · have hrb := hv.rd i
      have hsum : 0 ≤ rd x i + c + rd v i := by omega
      have hvb := val_drop (l := v) h0 cb
      have hm := Int.emod_add_mul_ediv (rd x i + c + rd v i) 1000000000
      have hs := val_set (l := x) ((rd x i + c + rd v i) % 1000000000) h0 (by omega)
      have hlen : (x.set i.toNat ((rd x i + c + rd v i) % 1000000000)).length = x.length := List.length_set
      have := ih (x.set i.toNat ((rd x i + c + rd v i) % 1000000000)) ((rd x i + c + rd v i) / 1000000000) (i + 1) (hx.set _ (by omega)) (by omega) (by omega) (by omega) (by omega) (by omega) (by omega) (by omega)
        (by rw [hs, ei, pw_succ]; rw [hvb] at hS; grind)
      rw [hlen] at this
      obtain ⟨r, b, hE, hD⟩ := this
      refine ⟨r, b, Ev.step (fun k => ?_) hE, hD⟩
      simp only [nat_restore.l0]
      rw [if_pos (by omega), if_pos h0, if_pos (by omega), if_pos cb, w64 (x := rd x i + c) (by omega) (by omega), w64 (x := rd x i + c + rd v i) (by omega) (by omega), tmod_e hsum, tdiv_e hsum, w64 (by omega) (by omega), w64 (by omega) (by omega)]
    · have hsum : 0 ≤ rd x i + c := by omega
      have e1 : v.drop i.toNat = [] := List.drop_eq_nil_of_le (by omega)
      have e2 : v.drop (i.toNat + 1) = [] := List.drop_eq_nil_of_le (by omega)
      have hm := Int.emod_add_mul_ediv (rd x i + c) 1000000000
      have hs := val_set (l := x) ((rd x i + c) % 1000000000) h0 (by omega)
      have hlen : (x.set i.toNat ((rd x i + c) % 1000000000)).length = x.length := List.length_set
      have := ih (x.set i.toNat ((rd x i + c) % 1000000000)) ((rd x i + c) / 1000000000) (i + 1) (hx.set _ (by omega)) (by omega) (by omega) (by omega) (by omega) (by omega) (by omega) (by omega)
        Z28
      rw [hlen] at this
      obtain ⟨r, b, hE, hD⟩ := this
      refine ⟨r, b, Ev.step (fun k => ?_) hE, hD⟩
      simp only [nat_restore.l0]
      rw [if_pos (by omega), if_pos h0, if_pos (by omega), if_neg cb, w64 (x := rd x i + c) (by omega) (by omega), tmod_e hsum, tdiv_e hsum, w64 (by omega) (by omega), w64 (by omega) (by omega)]
theorem ev_restore (u v : List Int) (hu : Dig u) (hv : Dig v) (hul : u.length ≤ 1000) (hvl : v.length ≤ u.length) :
    ∃ r b, Ev (fun k => nat_restore.f k u v) r ∧ Dig r ∧ r.length = u.length ∧ 0 ≤ b ∧ val r + b * pw u.length = val u + val v :=
  ev_restore_l0 v hv (by omega) _ u.length u 0 0 hu hul hvl (by omega) (by omega) (by omega) (by omega) (by omega) (by simp [pw_zero])
theorem ev_digit_l0 (u v : List Int) (k0 n0 : Int) (vn vm ub X : Int) (hk0 : 2 ≤ k0 ∧ k0 < u.length) (hn0 : 1 ≤ n0 ∧ n0 < v.length) (hul : u.length ≤ 1000) (hvl : v.length ≤ 1000) (hvn : rd v n0 = vn) (hvm : rd v (n0 - 1) = vm) (hub : rd u (k0 - 2) = ub)
    (h1 : 500000000 ≤ vn ∧ vn < 1000000000) (h2 : 0 ≤ vm ∧ vm < 1000000000) (h3 : 0 ≤ ub ∧ ub < 1000000000) :
    ∀ (d : Nat) (q r : Int), 0 ≤ q → q ≤ 1000000001 → 0 ≤ r → r < 1000000000 → 1000000000 - r ≤ d → (q * vn + r) * 1000000000 + ub = X → (q ≥ 1000000000 → q * vn + r ≤ vn * 1000000000 + 999999999) →
      ((q + 1) * (vn * 1000000000 + vm) > X ∨ q + 1 ≥ 1000000000) →
      ∃ p, Ev (fun k => nat_digit.l0 k u v k0 n0 q r) p ∧ 0 ≤ p ∧ p < 1000000000 ∧ p * (vn * 1000000000 + vm) ≤ X ∧ ((p + 1) * (vn * 1000000000 + vm) > X ∨ p + 1 ≥ 1000000000) := by
  intro d
  induction d with
  | zero => intro q r hq0 hq1 hr0 hr1 hd; omega
  | succ d ih =>
    intro q r hq0 hq1 hr0 hr1 hd hX hbig hmax
    have hqm : 0 ≤ q * vm ∧ q * vm ≤ 1000000001 * vm := ⟨Int.mul_nonneg hq0 h2.1, Int.mul_le_mul_of_nonneg_right hq1 h2.1⟩
    have hW : q * (vn * 1000000000 + vm) = q * vn * 1000000000 + q * vm := by grind
    have hX2 : X = q * vn * 1000000000 + r * 1000000000 + ub := by rw [← hX]; grind
    have hdown : ∀ (hc : q ≥ 1000000000 ∨ q * vm > r * 1000000000 + ub), ∃ p, Ev (fun k => nat_digit.j1 k u v k0 n0 q r true) p ∧ 0 ≤ p ∧ p < 1000000000 ∧ p * (vn * 1000000000 + vm) ≤ X ∧ ((p + 1) * (vn * 1000000000 + vm) > X ∨ p + 1 ≥ 1000000000) := by
      intro hc
      have hqpos : 0 < q := by
        rcases hc with hc | hc
        · omega
        · rcases Int.lt_or_le 0 q with h | h
          · exact h
          · have : q = 0 := by omega
            subst this; simp at hc; omega
      have hmax' : (q - 1 + 1) * (vn * 1000000000 + vm) > X ∨ q - 1 + 1 ≥ 1000000000 := by
        have e : q - 1 + 1 = q := by omega
        rw [e]
        rcases hc with hc | hc
        · exact .inr hc
        · left; omega
      have hqs : (q - 1) * vn + (r + vn) = q * vn + r := by grind
      by_cases c : r + vn ≥ 1000000000
      · have hb : q - 1 < 1000000000 := by
          rcases Int.lt_or_le q 1000000000 with h | h
          · omega
          ·
            have := hbig h
            rcases (show q = 1000000000 ∨ q = 1000000001 by omega) with h | h
            · omega
            · subst h
              have : 1000000001 * vn + r ≤ vn * 1000000000 + 999999999 := this
              omega
        refine ⟨q - 1, ?_, by omega, hb, ?_, hmax'⟩
        · refine Ev.step (f := fun _ => some _) (fun k => ?_) (Ev.now _)
          simp only [nat_digit.j1]
          rw [if_pos trivial, if_pos (by omega), if_pos (by omega), hvn, w64 (by omega) (by omega), if_pos c, w64 (by omega) (by omega)]
        · have h5 : (q - 1) * vm ≤ 1000000000 * 999999999 := by
            have := Int.mul_le_mul (show q - 1 ≤ 1000000000 by omega) (show vm ≤ 999999999 by omega) h2.1 (by omega)
            omega
          have h6 : (q - 1) * (vn * 1000000000 + vm) = (q - 1) * vn * 1000000000 + (q - 1) * vm := by grind
          have h7 : (q - 1) * vn = q * vn - vn := by grind
          rw [h6, h7]
          omega
      · obtain ⟨p, hp, hh⟩ := ih (q - 1) (r + vn) (by omega) (by omega) (by omega) (by omega) (by omega) (by rw [hqs]; exact hX) (fun h => by rw [hqs]; exact hbig (by omega)) hmax'
        refine ⟨p, Ev.step (fun k => ?_) hp, hh⟩
        simp only [nat_digit.j1]
        rw [if_pos trivial, if_pos (by omega), if_pos (by omega), hvn, w64 (x := r + vn) (by omega) (by omega), if_neg c, w64 (by omega) (by omega)]
    by_cases c1 : q ≥ 1000000000
    · obtain ⟨p, hp, hh⟩ := hdown (.inl c1)
      refine ⟨p, Ev.step (fun k => ?_) hp, hh⟩
      simp only [nat_digit.l0]
      rw [if_pos c1]
    · have hstep : ∀ k, nat_digit.l0 (k + 1) u v k0 n0 q r = nat_digit.j1 k u v k0 n0 q r (decide (q * vm > r * 1000000000 + ub)) := by
        intro k
        simp only [nat_digit.l0]
        rw [if_neg c1, w64 (x := n0 - 1) (by omega) (by omega), if_pos (by omega), if_pos (by omega), w64 (x := k0 - 2) (by omega) (by omega), if_pos (by omega), if_pos (by omega), hvm, hub, w64 (x := q * vm) (by omega) (by omega), w64 (x := r * 1000000000) (by omega) (by omega), w64 (x := r * 1000000000 + ub) (by omega) (by omega)]
      by_cases c2 : q * vm > r * 1000000000 + ub
      · obtain ⟨p, hp, hh⟩ := hdown (.inr c2)
        exact ⟨p, Ev.step (fun k => by rw [hstep k, decide_eq_true c2]) hp, hh⟩
      · refine ⟨q, Ev.step (f := fun k => nat_digit.j1 k u v k0 n0 q r false) (fun k => by rw [hstep k, decide_eq_false c2]) (Ev.step (f := fun _ => some _) (fun k => ?_) (Ev.now _)), hq0, by omega, by omega, hmax⟩
        simp only [nat_digit.j1]
        rw [if_neg (by simp)]
theorem ev_digit (u v : List Int) (hu : Dig u) (hv : Dig v) (hl : u.length = v.length + 1) (hvl : 2 ≤ v.length) (hvm : v.length ≤ 900) (hn : 500000000 ≤ rd v ((v.length : Int) - 1)) (hlt : val u < 1000000000 * val v) :
    ∃ p, Ev (fun k => nat_digit.f k u v) p ∧ 0 ≤ p ∧ p < 1000000000 ∧ val u / val v ≤ p ∧ p ≤ val u / val v + 1 := by
  obtain ⟨n, hn2⟩ : ∃ n : Nat, v.length = n + 2 := ⟨v.length - 2, by omega⟩
  have eu : (u.length : Int) - 1 = ((n + 2 : Nat) : Int) := by omega
  have ev : (v.length : Int) - 1 = ((n + 1 : Nat) : Int) := by omega
  rw [ev] at hn
  obtain ⟨vn, hvn⟩ : ∃ x, rd v ((n + 1 : Nat) : Int) = x := ⟨_, rfl⟩
  obtain ⟨vm, hvm1⟩ : ∃ x, rd v (n : Int) = x := ⟨_, rfl⟩
  obtain ⟨ua, hua⟩ : ∃ x, rd u ((n + 2 : Nat) : Int) = x := ⟨_, rfl⟩
  obtain ⟨ub, hub⟩ : ∃ x, rd u ((n + 1 : Nat) : Int) = x := ⟨_, rfl⟩
  obtain ⟨uc, huc⟩ : ∃ x, rd u (n : Int) = x := ⟨_, rfl⟩
  have b1 := hv.rd ((n + 1 : Nat) : Int)
  have b2 := hv.rd (n : Int)
  have b3 := hu.rd ((n + 2 : Nat) : Int)
  have b4 := hu.rd ((n + 1 : Nat) : Int)
  have b5 := hu.rd (n : Int)
  rw [hvn] at b1 hn
  rw [hvm1] at b2
  rw [hua] at b3
  rw [hub] at b4
  rw [huc] at b5
  have hV : val v = val (v.take n) + pw n * (vm + 1000000000 * vn) := by
    have e1 := val_split v n (by omega)
    have e2 := val_drop (l := v) (i := (n : Int)) (by omega) (by omega)
    have e3 := val_drop (l := v) (i := ((n + 1 : Nat) : Int)) (by omega) (by omega)
    have t1 : ((n : Nat) : Int).toNat = n := by omega
    have t2 : ((n + 1 : Nat) : Int).toNat = n + 1 := by omega
    rw [t1] at e2
    rw [t2] at e3
    rw [List.drop_eq_nil_of_le (show v.length ≤ n + 1 + 1 by omega)] at e3
    rw [e2, e3, hvm1, hvn] at e1
    simp only [val, Int.mul_zero, Int.add_zero] at e1
    exact e1
  have hU : val u = val (u.take n) + pw n * (uc + 1000000000 * (ub + 1000000000 * ua)) := by
    have e1 := val_split u n (by omega)
    have e2 := val_drop (l := u) (i := (n : Int)) (by omega) (by omega)
    have e3 := val_drop (l := u) (i := ((n + 1 : Nat) : Int)) (by omega) (by omega)
    have e4 := val_drop (l := u) (i := ((n + 2 : Nat) : Int)) (by omega) (by omega)
    have t1 : ((n : Nat) : Int).toNat = n := by omega
    have t2 : ((n + 1 : Nat) : Int).toNat = n + 1 := by omega
    have t3 : ((n + 2 : Nat) : Int).toNat = n + 2 := by omega
    rw [t1] at e2
    rw [t2] at e3
    rw [t3] at e4
    rw [List.drop_eq_nil_of_le (show u.length ≤ n + 2 + 1 by omega)] at e4
    rw [e2, e3, e4, huc, hub, hua] at e1
    simp only [val, Int.mul_zero, Int.add_zero] at e1
    exact e1
  have lv0 := val_nonneg (hv.take n)
  have lv1 := val_lt (hv.take n)
  have lu0 := val_nonneg (hu.take n)
  have lu1 := val_lt (hu.take n)
  rw [List.length_take, Nat.min_eq_left (by omega)] at lv1 lu1
  have hp := pw_pos n
  obtain ⟨P, hP⟩ : ∃ P, pw n = P := ⟨_, rfl⟩
  obtain ⟨V', hV'⟩ : ∃ x, val (v.take n) = x := ⟨_, rfl⟩
  obtain ⟨U', hU'⟩ : ∃ x, val (u.take n) = x := ⟨_, rfl⟩
  rw [hP] at hV hU lv1 lu1 hp
  rw [hV'] at hV lv0 lv1
  rw [hU'] at hU lu0 lu1
  obtain ⟨W, hW⟩ : ∃ W, vn * 1000000000 + vm = W := ⟨_, rfl⟩
  obtain ⟨X, hX⟩ : ∃ X, (ua * 1000000000 + ub) * 1000000000 + uc = X := ⟨_, rfl⟩
  have hVW : val v = V' + P * W := by rw [hV, ← hW]; grind
  have hUX : val u = U' + P * X := by rw [hU, ← hX]; grind
  have hVp : 0 < val v := by
    have := Int.mul_le_mul_of_nonneg_left (show (1 : Int) ≤ W by omega) (Int.le_of_lt hp)
    rw [hVW]; omega
  have hal : ua ≤ vn := by
    rcases Int.lt_or_le vn ua with h | h
    · exfalso
      have h1 : (vn + 1) * 1000000000000000000 ≤ X := by rw [← hX]; omega
      have h2 : W + 1 ≤ (vn + 1) * 1000000000 := by rw [← hW]; omega
      have h3 : 1000000000 * (W + 1) ≤ X := by omega
      have h4 := Int.mul_le_mul_of_nonneg_left h3 (Int.le_of_lt hp)
      have h5 : 1000000000 * val v = 1000000000 * V' + P * (1000000000 * W) := by rw [hVW]; grind
      have h6 : P * (1000000000 * (W + 1)) = P * (1000000000 * W) + 1000000000 * P := by grind
      omega
    · exact h
  have hq0 : 0 ≤ (ua * 1000000000 + ub) / vn := Int.ediv_nonneg (by omega) (by omega)
  have hdm := Int.emod_add_mul_ediv (ua * 1000000000 + ub) vn
  have hr0 := Int.emod_nonneg (ua * 1000000000 + ub) (show vn ≠ 0 by omega)
  have hr1 := Int.emod_lt_of_pos (ua * 1000000000 + ub) (show 0 < vn by omega)
  obtain ⟨q, hq⟩ : ∃ q, (ua * 1000000000 + ub) / vn = q := ⟨_, rfl⟩
  obtain ⟨r, hr⟩ : ∃ r, (ua * 1000000000 + ub) % vn = r := ⟨_, rfl⟩
  rw [hq] at hdm hq0
  rw [hr] at hdm hr0 hr1
  have hq1 : q ≤ 1000000001 := by
    rcases Int.lt_or_le 1000000001 q with h | h
    · exfalso
      have := Int.mul_le_mul_of_nonneg_left (show (1000000002 : Int) ≤ q from h) (show 0 ≤ vn by omega)
      omega
    · exact h
  have z0 : ((n + 1 : Nat) : Int) - 1 = n := by omega
  have z1 : rd v (((n + 1 : Nat) : Int) - 1) = vm := by rw [z0]; exact hvm1
  have z3 : ((n + 2 : Nat) : Int) - 2 = n := by omega
  have z2 : rd u (((n + 2 : Nat) : Int) - 2) = uc := by rw [z3]; exact huc
  have z4 : (q * vn + r) * 1000000000 + uc = X := by rw [← hX, ← hdm]; grind
  have z5 : q * vn + r ≤ vn * 1000000000 + 999999999 := by
    have h1 : q * vn + r = ua * 1000000000 + ub := by rw [← hdm]; grind
    have h2 := Int.mul_le_mul_of_nonneg_right hal (show (0 : Int) ≤ 1000000000 by omega)
    omega
  have z6 : (q + 1) * (vn * 1000000000 + vm) > X := by
    have h0 : (q + 1) * vn = vn * q + vn := by grind
    have h1 : (q + 1) * vn ≥ ua * 1000000000 + ub + 1 := by omega
    have h2 := Int.mul_le_mul_of_nonneg_right h1 (show (0 : Int) ≤ 1000000000 by omega)
    have h3 : (q + 1) * (vn * 1000000000 + vm) = (q + 1) * vn * 1000000000 + (q + 1) * vm := by grind
    have h4 : 0 ≤ (q + 1) * vm := Int.mul_nonneg (by omega) b2.1
    rw [h3, ← hX]; omega
  obtain ⟨p, hE, hp0, hp1, hpX, hpm⟩ := ev_digit_l0 u v ((n + 2 : Nat) : Int) ((n + 1 : Nat) : Int) vn vm uc X (by omega) (by omega) (by omega) (by omega) hvn z1 z2 ⟨hn, b1.2⟩ b2 b5 1000000000 q r hq0 hq1 hr0 (by omega) (by omega) z4 (fun _ => z5) (.inl z6)
  rw [hW] at hpX hpm
  refine ⟨p, ?_, hp0, hp1, ?_, ?_⟩
  · refine Ev.congr (fun k => ?_) hE
    unfold nat_digit.f
    have e1 : ((n + 2 : Nat) : Int) - 1 = ((n + 1 : Nat) : Int) := by omega
    have hs0 : 0 ≤ ua * 1000000000 + ub := by omega
    rw [eu, ev, w64 (x := ((n + 2 : Nat) : Int)) (by omega) (by omega), w64 (x := ((n + 1 : Nat) : Int)) (by omega) (by omega), e1, w64 (x := ((n + 1 : Nat) : Int)) (by omega) (by omega), hua, hub, hvn]
    rw [if_pos (by omega), if_pos (by omega), if_pos (by omega), if_pos (by omega), if_pos (by omega), if_pos (by omega), if_neg (by omega), w64 (x := ua * 1000000000) (by omega) (by omega), w64 (x := ua * 1000000000 + ub) (by omega) (by omega), tdiv_e hs0, tmod_e hs0, hq, hr, w64 (x := q) (by omega) (by omega)]
  ·
    have hlt2 : val u / val v < p + 1 := by
      apply Int.ediv_lt_of_lt_mul hVp
      rcases hpm with h | h
      · have h1 := Int.mul_le_mul_of_nonneg_left (show X + 1 ≤ (p + 1) * W from h) (Int.le_of_lt hp)
        have h2 : (p + 1) * val v = (p + 1) * V' + P * ((p + 1) * W) := by rw [hVW]; grind
        have h3 : 0 ≤ (p + 1) * V' := Int.mul_nonneg (by omega) lv0
        have h4 : P * (X + 1) = P * X + P := by grind
        rw [h2, hUX]; omega
      · have : p + 1 = 1000000000 := by omega
        rw [this]; exact hlt
    omega
  ·
    rcases Int.lt_or_le 0 p with h0 | h0
    · have h1 : p - 1 ≤ val u / val v := by
        apply Int.le_ediv_of_mul_le hVp
        have h2 : (p - 1) * val v = p * V' + P * (p * W) - val v := by rw [hVW]; grind
        have h3 := Int.mul_le_mul_of_nonneg_left hpX (Int.le_of_lt hp)
        have h4 : p * V' ≤ 1000000000 * P := Int.mul_le_mul (by omega) (by omega) lv0 (by omega)
        have h5 := Int.mul_le_mul_of_nonneg_left (show (500000000000000000 : Int) ≤ W by omega) (Int.le_of_lt hp)
        rw [h2, hVW, hUX]; omega
      omega
    · have : 0 ≤ val u / val v := Int.ediv_nonneg (val_nonneg hu) (by omega)
      omega
end Go.Proofs.Ytbjamhkhocjdkaa.Px
namespace Go.Proofs.Ytbjamhkhocjdkaa.Px
open Go.RowKit Go.Proofs.YtbjamhkhocjdkaaW.PrintWords Go.Proofs.YtbjamhkhocjdkaaW.PrintLast Go.Proofs.YtbjamhkhocjdkaaW.PrintMore
set_option linter.unusedVariables false
set_option linter.unusedSimpArgs false
def nat_DivMod.j0 : Nat → List Int → List Int → Bool → Option (List Int × List Int × Int)
  | 0, _, _, _ => none
  | k + 1, x0, x1, x16 => if x16 = true then (some (([] : List Int), ([] : List Int), 3)) else (if (x1.length : Int) = 0 then (some (([] : List Int), ([] : List Int), 16)) else ((nat_divided.f k x0 x1).bind fun bt219 => (some (bt219.1, bt219.2, 0))))
def nat_DivMod.f (k : Nat) (l0 : List Int) (l1 : List Int) : Option (List Int × List Int × Int) := (nat_Valid.f k l0).bind fun t217 => (if t217 = true then ((nat_Valid.f k l1).bind fun t218 => (nat_DivMod.j0 k l0 l1 (!t218))) else (nat_DivMod.j0 k l0 l1 true))
set_option maxHeartbeats 8000000 in
set_option maxRecDepth 100000 in
theorem nat_DivMod.calls (k : Nat) (A0 : Option Addr) (c0 : Nat) (l0 : List Int) (A1 : Option Addr) (c1 : Nat) (l1 : List Int) (r1 : List Int) (r2 : List Int) (r3 : Int) (w : World) (hr0 : Kd.C (Kd.int .i64) w A0 l0.length l0) (hc0 : l0.length ≤ c0) (hr1 : Kd.C (Kd.int .i64) w A1 l1.length l1) (hc1 : l1.length ≤ c1) (h : nat_DivMod.f k l0 l1 = some (r1, r2, r3)) :
    Calls Try.prog 80 #[.slice A0 l0.length c0, .slice A1 l1.length c1] w fun e w' => ∃ v0_ v1_ : Value, e = .returned (.tuple #[v0_, v1_, .int .i64 r3]) ∧ Kd.R (Kd.int .i64) 3 w' w.heap.size (fun k_ => some k_ ≠ (v1_ : Value).ownBlock) v0_ r1 ∧ Kd.R (Kd.int .i64) 3 w' w.heap.size (fun k_ => some k_ ≠ (v0_ : Value).ownBlock) v1_ r2 ∧ Below w.heap.size w w' := by
  have HR0 := Aside0.mk hr0
  have HC0 := Aside0.mk hc0
  clear hr0 hc0
  have HR1 := Aside0.mk hr1
  have HC1 := Aside0.mk hc1
  clear hr1 hc1
  have HB := Aside0.mk (Below.refl w.heap.size w)
  have H : ((nat_Valid.f k l0).bind fun t217 => (if t217 = true then ((nat_Valid.f k l1).bind fun t218 => (nat_DivMod.j0 k l0 l1 (!t218))) else (nat_DivMod.j0 k l0 l1 true))) = some (r1, r2, r3) := h
  clear h
  have HC3 := Aside0.mk H
  clear H
  go_enter Try.func80, Try.ntmps80
  go_upto_region 1 with (fail)
  go_cut [16] (fun v16 wc => ∃ (kq : Nat) (x16_2 : Bool), v16 = .bool x16_2 ∧ Aside0 (nat_DivMod.j0 kq l0 l1 x16_2 = some (r1, r2, r3)) ∧ Aside0 (kq ≤ k) ∧ Aside0 (Below w.heap.size w wc))
  case first =>
    have H := HC3.out
    clear HC3
    replace H := Option.bind_eq_some_iff.mp H
    obtain ⟨t217, A40, H⟩ := H
    replace H : (if t217 = true then ((nat_Valid.f k l1).bind fun t218 => (nat_DivMod.j0 k l0 l1 (!t218))) else (nat_DivMod.j0 k l0 l1 true)) = some (r1, r2, r3) := H
    have A4 := Aside0.mk A40
    clear A40
    by_cases c5 : t217 = true
    · subst c5
      have H1 : ((nat_Valid.f k l1).bind fun t218 => (nat_DivMod.j0 k l0 l1 (!t218))) = some (r1, r2, r3) := by rw [if_pos rfl] at H; exact H
      clear H
      have H := H1
      clear H1
      replace H := Option.bind_eq_some_iff.mp H
      obtain ⟨t218, A60, H⟩ := H
      replace H : (nat_DivMod.j0 k l0 l1 (!t218)) = some (r1, r2, r3) := H
      have A6 := Aside0.mk A60
      clear A60
      have H' := Aside0.mk H
      clear H
      go_wp2_with (first | ((with_reducible refine gate_callee (f := 67) rfl ?_); refine goesL_ (some 10) rfl rfl Try.func67 Z6 rfl #[.slice A0 l0.length c0] rfl Z2 ?_; (with_reducible refine (nat_Valid.calls k _ _ l0 true _ ?side1 ?side2 A4.out).mono ?_); (case side1 => repeat (first | exact (Kd.C_below HR0.out HB.out) | (with_reducible refine Kd.C_alloc ?_ _) | (with_reducible refine Kd.C_drewN ?_ _) | (with_reducible refine Kd.C_drew ?_))); (case side2 => exact HC0.out); rintro e w' ⟨rfl, ⟨nd, rfl⟩⟩; refine ⟨_, rfl, ?_⟩) | (go_at_call 67; (with_reducible refine (nat_Valid.calls k _ _ l1 t218 _ ?side1 ?side2 A6.out).mono ?_); (case side1 => repeat (first | exact (Kd.C_below HR1.out Z0) | (with_reducible refine Kd.C_alloc ?_ _) | (with_reducible refine Kd.C_drewN ?_ _) | (with_reducible refine Kd.C_drew ?_))); (case side2 => exact HC1.out); rintro e w' ⟨rfl, ⟨nd, rfl⟩⟩))
      go_meet
      case rel => exact ⟨_, (!t218), Z4, H', ⟨by first | omega | exact Nat.le_refl _⟩, ⟨by repeat (first | (with_reducible first | exact HB.out | apply below_alloc | apply pw_below_drewN | apply below_drew1) | exact HB.out)⟩⟩
    · replace c5 := Bool.eq_false_iff.mpr c5
      subst c5
      have H1 : (nat_DivMod.j0 k l0 l1 true) = some (r1, r2, r3) := by rw [if_neg (show ¬ (false = true) by decide)] at H; exact H
      clear H
      have H := H1
      clear H1
      have H' := Aside0.mk H
      clear H
      go_wp2_with (first | ((with_reducible refine gate_callee (f := 67) rfl ?_); refine goesL_ (some 10) rfl rfl Try.func67 Z6 rfl #[.slice A0 l0.length c0] rfl Z2 ?_; (with_reducible refine (nat_Valid.calls k _ _ l0 false _ ?side1 ?side2 A4.out).mono ?_); (case side1 => repeat (first | exact (Kd.C_below HR0.out HB.out) | (with_reducible refine Kd.C_alloc ?_ _) | (with_reducible refine Kd.C_drewN ?_ _) | (with_reducible refine Kd.C_drew ?_))); (case side2 => exact HC0.out); rintro e w' ⟨rfl, ⟨nd, rfl⟩⟩; refine ⟨_, rfl, ?_⟩))
      go_meet
      case rel => exact ⟨_, (true), Z4, H', ⟨by first | omega | exact Nat.le_refl _⟩, ⟨by repeat (first | (with_reducible first | exact HB.out | apply below_alloc | apply pw_below_drewN | apply below_drew1) | exact HB.out)⟩⟩
  case rest =>
    clear HC3
    try clear c1
    try clear p2
    try clear c5
    try clear c6
    obtain ⟨kq, x16_2, rfl, HA, HJ2, HB⟩ := hcut
    cases kq with
    | zero => exact absurd HA.out (by simp [nat_DivMod.j0])
    | succ kj2 =>
      have H := HA.out
      clear HA
      simp only [nat_DivMod.j0] at H
      by_cases c7 : x16_2 = true
      · subst c7
        have H1 : (some (([] : List Int), ([] : List Int), 3)) = some (r1, r2, r3) := by rw [if_pos rfl] at H; exact H
        clear H
        have H := H1
        clear H1
        simp only [Option.some.injEq, Prod.mk.injEq] at H
        obtain ⟨rfl, rfl, rfl⟩ := H
        go_wp2
        go_ret3
        exact ⟨_, _, by first | rfl | (simp [errW_none, errW_some] <;> rfl) | (simp [*, errW_none, errW_some] <;> rfl), by first | exact Kd.R_nil _ _ _ _ _ | exact Kd.N_nil _ _ _ _ _ | exact Kd.V_nil _ _ _ _ _ | exact Kd.Q_nil _ _ _ _ _ | exact Kd.S_nil _ _ _ _ _, by first | exact Kd.R_nil _ _ _ _ _ | exact Kd.N_nil _ _ _ _ _ | exact Kd.V_nil _ _ _ _ _ | exact Kd.Q_nil _ _ _ _ _ | exact Kd.S_nil _ _ _ _ _, by repeat (first | (with_reducible first | exact HB.out | apply below_alloc | apply pw_below_drewN | apply below_drew1) | exact HB.out)⟩
      · replace c7 := Bool.eq_false_iff.mpr c7
        subst c7
        have H1 : (if (l1.length : Int) = 0 then (some (([] : List Int), ([] : List Int), 16)) else ((nat_divided.f kj2 l0 l1).bind fun bt219 => (some (bt219.1, bt219.2, 0)))) = some (r1, r2, r3) := by rw [if_neg (show ¬ (false = true) by decide)] at H; exact H
        clear H
        have H := H1
        clear H1
        by_cases c8 : (l1.length : Int) = 0
        · rw [if_pos c8] at H
          have c8b0 : ((l1.length : Int) == 0) = true := beq_iff_eq.mpr c8
          have c8b1 : ((l1.length : Int) != 0) = false := bne_eq_false_iff_eq.mpr c8
          clear c8
          simp only [Option.some.injEq, Prod.mk.injEq] at H
          obtain ⟨rfl, rfl, rfl⟩ := H
          go_wp2
          go_ret3
          exact ⟨_, _, by first | rfl | (simp [errW_none, errW_some] <;> rfl) | (simp [*, errW_none, errW_some] <;> rfl), by first | exact Kd.R_nil _ _ _ _ _ | exact Kd.N_nil _ _ _ _ _ | exact Kd.V_nil _ _ _ _ _ | exact Kd.Q_nil _ _ _ _ _ | exact Kd.S_nil _ _ _ _ _, by first | exact Kd.R_nil _ _ _ _ _ | exact Kd.N_nil _ _ _ _ _ | exact Kd.V_nil _ _ _ _ _ | exact Kd.Q_nil _ _ _ _ _ | exact Kd.S_nil _ _ _ _ _, by repeat (first | (with_reducible first | exact HB.out | apply below_alloc | apply pw_below_drewN | apply below_drew1) | exact HB.out)⟩
        · rw [if_neg c8] at H
          have c8b0 : ((l1.length : Int) == 0) = false := beq_eq_false_iff_ne.mpr c8
          have c8b1 : ((l1.length : Int) != 0) = true := bne_iff_ne.mpr c8
          have c8b2 : ¬ (l1 = []) := fun h_ => c8 (by rw [h_]; rfl)
          replace H := Option.bind_eq_some_iff.mp H
          obtain ⟨⟨t219, t220⟩, A90, H⟩ := H
          replace H : (some (t219, t220, 0)) = some (r1, r2, r3) := H
          have A9 := Aside0.mk A90
          clear A90
          simp only [Option.some.injEq, Prod.mk.injEq] at H
          obtain ⟨rfl, rfl, rfl⟩ := H
          go_wp2_with (first | ((with_reducible refine gate_callee (f := 82) rfl ?_); refine goesL_ (some 23) rfl rfl Try.func82 Z6 rfl #[.slice A0 l0.length c0, .slice A1 l1.length c1] rfl Z2 ?_; (with_reducible refine (nat_divided.calls kj2 _ _ l0 _ _ l1 t219 t220 _ ?side1 ?side2 ?side3 ?side4 A9.out).mono ?_); (case side1 => repeat (first | exact (Kd.C_below HR0.out HB.out) | (with_reducible refine Kd.C_alloc ?_ _) | (with_reducible refine Kd.C_drewN ?_ _) | (with_reducible refine Kd.C_drew ?_))); (case side2 => exact HC0.out); (case side3 => repeat (first | exact (Kd.C_below HR1.out HB.out) | (with_reducible refine Kd.C_alloc ?_ _) | (with_reducible refine Kd.C_drewN ?_ _) | (with_reducible refine Kd.C_drew ?_))); (case side4 => exact HC1.out); rintro e w10 ⟨v221, v223, rfl, ho0, ho1, hb⟩; refine ⟨_, rfl, ?_⟩; have n0_ := Aside0.mk (Kd.R_lower ho0 (below_size Z0)); have n1_ := Aside0.mk (Kd.R_lower ho1 (below_size Z0)); have n2_ := Aside0.mk (below_step Z0 hb); clear HB; have HO222 := n0_; have HO224 := n1_; have HB := n2_; clear n0_ n1_ n2_; (try clear hb); (try clear hb2); (try clear hk); (try clear hi); (try clear ho0); (try clear ho1)))
          go_ret3
          exact ⟨_, _, by first | rfl | (simp [errW_none, errW_some] <;> rfl) | (simp [*, errW_none, errW_some] <;> rfl), by (with_reducible repeat (first | apply Kd.R_alloc | apply Kd.R_drewN | apply Kd.R_drew)); exact HO222.out, by (with_reducible repeat (first | apply Kd.R_alloc | apply Kd.R_drewN | apply Kd.R_drew)); exact HO224.out, by repeat (first | (with_reducible first | exact HB.out | apply below_alloc | apply pw_below_drewN | apply below_drew1) | exact HB.out)⟩
end Go.Proofs.Ytbjamhkhocjdkaa.Px
namespace Go.Proofs.Ytbjamhkhocjdkaa.Px
open Go.RowKit Go.Proofs.YtbjamhkhocjdkaaW.PrintWords Go.Proofs.YtbjamhkhocjdkaaW.PrintLast Go.Proofs.YtbjamhkhocjdkaaW.PrintMore Go.Proofs.Ytbjamhkhocjdkaa.Mat
set_option linter.unusedVariables false
theorem small_factor {b P x y : Int} (hP : 0 < P) (hb : 0 ≤ b) (h : x + b * P = y) (hx : 0 ≤ x) (hy : y < P) : b = 0 := by
  rcases Int.lt_or_le 0 b with h1 | h1
  · have := Int.mul_le_mul_of_nonneg_right (show 1 ≤ b by omega) (Int.le_of_lt hP)
    omega
  · omega
theorem one_factor {b P x y : Int} (hP : 0 < P) (h : x + b * P = y) (hx : 0 ≤ x) (hx1 : x < P) (hy0 : P ≤ y) (hy : y < 2 * P) : b = 1 := by
  rcases Int.lt_or_le 1 b with h1 | h1
  · have := Int.mul_le_mul_of_nonneg_right (show 2 ≤ b by omega) (Int.le_of_lt hP)
    omega
  · rcases Int.lt_or_le 0 b with h2 | h2
    · omega
    · have := Int.mul_le_mul_of_nonneg_right (show b ≤ 0 by omega) (Int.le_of_lt hP)
      omega
theorem ev_divide_l0 (v : List Int) (hv : Dig v) (hvl : 2 ≤ v.length) (hvm : v.length ≤ 400) (hn : 500000000 ≤ rd v ((v.length : Int) - 1)) (S : Int) : ∀ (d : Nat) (u out : List Int), Dig u → Dig out → u.length = out.length + v.length → u.length ≤ 900 → d ≤ out.length → val (u.drop d) < val v →
    val u + pw d * (val v * val (out.drop d)) = S → (∀ s : Nat, s < d → rd out s = 0) →
    ∃ uf of, Ev (fun k => nat_divide.l0 k v u out ((d : Int) - 1)) (uf, of) ∧ Dig uf ∧ Dig of ∧ uf.length = u.length ∧ of.length = out.length ∧ val uf < val v ∧ val uf + val v * val of = S := by
  intro d
  induction d with
  | zero =>
    intro u out hu ho hl hm hd ht hS hz
    refine ⟨u, out, ?_, hu, ho, rfl, rfl, by simpa using ht, by simpa [pw_zero] using hS⟩
    refine Ev.step (f := fun _ => some _) (fun k => ?_) (Ev.now _)
    simp only [nat_divide.l0]
    rw [if_neg (by omega)]
  | succ d ih =>
    intro u out hu ho hl hm hd ht hS hz
    have e1 : (((d + 1 : Nat) : Int) - 1) = d := by omega
    have ed : ((d : Int)).toNat = d := by omega
    obtain ⟨V, hV⟩ : ∃ V, val v = V := ⟨_, rfl⟩
    obtain ⟨L, hL⟩ : ∃ L, v.length = L := ⟨_, rfl⟩
    obtain ⟨pre, hpre⟩ : ∃ p, u.take d = p := ⟨_, rfl⟩
    obtain ⟨part, hpart⟩ : ∃ p, (u.drop d).take (v.length + 1) = p := ⟨_, rfl⟩
    obtain ⟨post, hpost⟩ : ∃ p, u.drop (d + (v.length + 1)) = p := ⟨_, rfl⟩
    have hpl : pre.length = d := by rw [← hpre, List.length_take]; omega
    have hql : part.length = L + 1 := by rw [← hpart, List.length_take, List.length_drop]; omega
    have hDpre : Dig pre := by rw [← hpre]; exact hu.take _
    have hDpart : Dig part := by rw [← hpart]; exact (hu.drop _).take _
    have hDpost : Dig post := by rw [← hpost]; exact hu.drop _
    have hVl := val_lt hv
    rw [hV, hL] at hVl
    rw [hV] at ht hS
    have hr := hu.rd d
    have hda := val_drop (l := u) (i := (d : Int)) (by omega) (by omega)
    rw [ed] at hda
    have hT0 := val_nonneg (hu.drop (d + 1))
    have hpo : val post = 0 := by
      have h1 := val_split (u.drop (d + 1)) L (by rw [List.length_drop]; omega)
      rw [List.drop_drop, show d + 1 + L = d + (v.length + 1) by omega, hpost] at h1
      have h2 := val_nonneg ((hu.drop (d + 1)).take L)
      have h3 := val_nonneg hDpost
      exact small_factor (pw_pos L) h3 (x := val ((u.drop (d + 1)).take L)) (y := val (u.drop (d + 1))) (by rw [h1]; grind) h2 (by omega)
    have hP : val part = val (u.drop d) := by
      have h1 := val_split (u.drop d) (L + 1) (by rw [List.length_drop]; omega)
      rw [List.drop_drop, show d + (L + 1) = d + (v.length + 1) by omega, hpost, hpo, ← hL, hpart] at h1
      rw [h1]; omega
    have hPlt : val part < 1000000000 * V := by rw [hP, hda]; omega
    have hP0 := val_nonneg hDpart
    have hVp : 0 < V := by omega
    have hu1 : val u = val pre + pw d * val part := by
      rw [hP, ← hpre]; exact val_split u d (by omega)
    obtain ⟨q, hE1, hq0, hq1, hqa, hqb⟩ := ev_digit part v hDpart hv (by omega) hvl (by omega) hn (by rw [hV]; exact hPlt)
    obtain ⟨r, b, hE2, hDr, hrl, hb0, hrv⟩ := ev_reduce part v hDpart hv (by omega) (by omega) q ⟨hq0, by omega⟩
    rw [hV] at hqa hqb hrv
    have hdm := Int.emod_add_mul_ediv (val part) V
    have hm0 := Int.emod_nonneg (val part) (show V ≠ 0 by omega)
    have hm1 := Int.emod_lt_of_pos (val part) hVp
    obtain ⟨qt, hqt⟩ : ∃ x, val part / V = x := ⟨_, rfl⟩
    obtain ⟨rm, hrm⟩ : ∃ x, val part % V = x := ⟨_, rfl⟩
    rw [hqt] at hqa hqb hdm
    rw [hrm] at hdm hm0 hm1
    have hqt0 : 0 ≤ qt := by rw [← hqt]; exact Int.ediv_nonneg hP0 (by omega)
    have hr0 := val_nonneg hDr
    have hr1 := val_lt hDr
    rw [hrl, hql] at hr1
    rw [hql] at hrv
    have hpL := pw_pos L
    have hpw := pw_succ L
    obtain ⟨PP, hPP⟩ : ∃ x, pw (L + 1) = x := ⟨_, rfl⟩
    rw [hPP] at hr1 hrv hpw
    have common : ∀ r' : List Int, Dig r' → r'.length = L + 1 → val r' = rm →
        ∃ uf of, Ev (fun k => nat_divide.l0 k v (pre ++ r' ++ post) (out.set d qt) ((d : Int) - 1)) (uf, of) ∧ Dig uf ∧ Dig of ∧ uf.length = u.length ∧ of.length = out.length ∧ val uf < val v ∧ val uf + val v * val of = S := by
      intro r' hD' hl' hv'
      have hul : (pre ++ r' ++ post).length = u.length := by
        have : u.length = pre.length + (part.length + post.length) := by
          rw [hpl, hql, ← hpost, List.length_drop]; omega
        simp only [List.length_append]; omega
      have hdr : (pre ++ r' ++ post).drop d = r' ++ post := by
        rw [List.append_assoc, ← hpl, List.drop_left]
      have hd1 : val ((pre ++ r' ++ post).drop d) = rm := by rw [hdr, val_append, hpo, hv']; omega
      have hu2 : val (pre ++ r' ++ post) = val pre + pw d * rm := by
        rw [val_split (pre ++ r' ++ post) d (by omega), hd1, List.append_assoc, ← hpl, List.take_left]
      have ho1 : val ((out.set d qt).drop d) = qt + 1000000000 * val (out.drop (d + 1)) := by
        have h1 := val_drop (l := out.set d qt) (i := (d : Int)) (by omega) (by rw [List.length_set]; omega)
        rw [ed] at h1
        have h2 := rd_set_eq (l := out) (i := (d : Int)) qt (by omega)
        rw [ed] at h2
        rw [h1, h2, List.drop_set_of_lt (show d < d + 1 by omega)]
      obtain ⟨uf, of, hE, h1, h2, h3, h4, h5, h6⟩ := ih (pre ++ r' ++ post) (out.set d qt) ((hDpre.append hD').append hDpost) (ho.set _ ⟨hqt0, by omega⟩) (by rw [hul, List.length_set]; exact hl) (by omega) (by rw [List.length_set]; omega) (by rw [hd1, hV]; exact hm1)
        (by rw [hu2, ho1, hV, ← hS, hu1, pw_succ, ← hdm]; grind) (fun s hs => by
          have := rd_set_ne (l := out) (i := (d : Int)) (j := (s : Int)) qt (by omega)
          rw [ed] at this
          rw [this]; exact hz s (by omega))
      exact ⟨uf, of, hE, h1, h2, by omega, by rw [h4, List.length_set], h5, h6⟩
    by_cases hcase : q = qt
    ·
      have hbz : b = 0 := by
        refine small_factor (show 0 < PP by omega) hb0 (x := rm) (y := val r) ?_ hm0 hr1
        rw [hrv, hcase, ← hdm]; grind
      have hrm2 : val r = rm := by rw [hrv, hbz, hcase, ← hdm]; grind
      obtain ⟨uf, of, hE, hrest⟩ := common r hDr (by omega) hrm2
      refine ⟨uf, of, ?_, hrest⟩
      refine Ev.step (fun k => ?_) (Ev.bind hE1 (Ev.bind hE2 (f := fun k b_ => if b_.1 = true then (nat_restore.f k b_.2 v).bind fun p => nat_divide.l0 k v (pre ++ p ++ post) (out.set d (wrap64 (q - 1))) ((d : Int) - 1) else nat_divide.l0 k v (pre ++ b_.2 ++ post) (out.set d q) ((d : Int) - 1)) ?_)
        (f := fun k q => (nat_reduce.f k part v q).bind fun b_ => if b_.1 = true then (nat_restore.f k b_.2 v).bind fun p => nat_divide.l0 k v (pre ++ p ++ post) (out.set d (wrap64 (q - 1))) ((d : Int) - 1) else nat_divide.l0 k v (pre ++ b_.2 ++ post) (out.set d q) ((d : Int) - 1)))
      · simp only [nat_divide.l0]
        rw [e1, if_pos (by omega), ed, hpre, hpart, hpost]
      · refine Ev.congr (fun k => ?_) hE
        simp only [hbz]
        rw [if_neg (by simp), hcase]
    ·
      have hq2 : q = qt + 1 := by omega
      have hbo : b = 1 := by
        refine one_factor (show 0 < PP by omega) (x := rm + PP - V) (y := val r + PP) ?_ (by omega) (by omega) (by omega) (by omega)
        rw [hrv, hq2, ← hdm]; grind
      have hrm2 : val r = rm - V + PP := by rw [hrv, hbo, hq2, ← hdm]; grind
      obtain ⟨p, c, hE3, hDp, hpl2, hc0, hpv⟩ := ev_restore r v hDr hv (by omega) (by omega)
      rw [hrl, hql, hPP, hV, hrm2] at hpv
      have hp0 := val_nonneg hDp
      have hp1 := val_lt hDp
      rw [hpl2, hrl, hql, hPP] at hp1
      have hc1 : c = 1 := one_factor (show 0 < PP by omega) hpv hp0 hp1 (by omega) (by omega)
      have hpm : val p = rm := by rw [hc1] at hpv; omega
      obtain ⟨uf, of, hE, hrest⟩ := common p hDp (by omega) hpm
      refine ⟨uf, of, ?_, hrest⟩
      refine Ev.step (fun k => ?_) (Ev.bind hE1 (Ev.bind hE2 (f := fun k b_ => if b_.1 = true then (nat_restore.f k b_.2 v).bind fun p => nat_divide.l0 k v (pre ++ p ++ post) (out.set d (wrap64 (q - 1))) ((d : Int) - 1) else nat_divide.l0 k v (pre ++ b_.2 ++ post) (out.set d q) ((d : Int) - 1)) ?_)
        (f := fun k q => (nat_reduce.f k part v q).bind fun b_ => if b_.1 = true then (nat_restore.f k b_.2 v).bind fun p => nat_divide.l0 k v (pre ++ p ++ post) (out.set d (wrap64 (q - 1))) ((d : Int) - 1) else nat_divide.l0 k v (pre ++ b_.2 ++ post) (out.set d q) ((d : Int) - 1)))
      · simp only [nat_divide.l0]
        rw [e1, if_pos (by omega), ed, hpre, hpart, hpost]
      · refine Ev.congr (f := fun k => (nat_restore.f k r v).bind fun p => nat_divide.l0 k v (pre ++ p ++ post) (out.set d qt) ((d : Int) - 1)) (fun k => ?_) (Ev.bind hE3 hE)
        simp only [hbo]
        rw [if_pos (by simp), w64 (by omega) (by omega)]
        have : q - 1 = qt := by omega
        rw [this]
theorem norm_half {bt m : Int} (h1 : 1 ≤ bt) (h2 : bt < 1000000000) (hm : 1000000000 / (bt + 1) = m) : 1 ≤ m ∧ m ≤ 500000000 ∧ 500000000 ≤ bt * m ∧ (bt + 1) * m ≤ 1000000000 := by
  have hdm := Int.emod_add_mul_ediv 1000000000 (bt + 1)
  have hr0 := Int.emod_nonneg 1000000000 (show bt + 1 ≠ 0 by omega)
  have hr1 := Int.emod_lt_of_pos 1000000000 (show 0 < bt + 1 by omega)
  rw [hm] at hdm
  have hm1 : 1 ≤ m := by
    rcases Int.lt_or_le 0 m with h | h
    · omega
    · have := Int.mul_le_mul_of_nonneg_left h (show 0 ≤ bt + 1 by omega)
      omega
  have hm2 : m ≤ 500000000 := by
    have := Int.mul_le_mul_of_nonneg_right (show 2 ≤ bt + 1 by omega) (show 0 ≤ m by omega)
    omega
  refine ⟨hm1, hm2, ?_, by omega⟩
  have hx : (bt + 1) * m = bt * m + m := by grind
  by_cases c : m = 1
  · subst c; omega
  · by_cases c2 : bt = 1
    · subst c2; omega
    · have h3 : 0 ≤ (bt - 2) * (m - 2) := Int.mul_nonneg (by omega) (by omega)
      have h4 : (bt - 2) * (m - 2) = bt * m - 2 * bt - 2 * m + 4 := by grind
      omega
theorem divmod_unique {a b q r : Int} (h : r + b * q = a) (h0 : 0 ≤ r) (h1 : r < b) : a / b = q ∧ a % b = r := by
  have hb : 0 < b := by omega
  subst h
  exact ⟨by rw [Int.add_mul_ediv_left _ _ (by omega), Int.ediv_eq_zero_of_lt h0 h1]; omega, by rw [Int.add_mul_emod_self_left, Int.emod_eq_of_lt h0 h1]⟩
theorem take_all {l : List Int} (h : Dig l) {n : Nat} (hn : n ≤ l.length) (hv : val l < pw n) : val (l.take n) = val l := by
  have h1 := val_split l n hn
  have h2 := val_nonneg (h.take n)
  have h3 := val_nonneg (h.drop n)
  have h4 : val (l.drop n) = 0 := small_factor (pw_pos n) h3 (x := val (l.take n)) (y := val l) (by rw [h1]; grind) h2 hv
  rw [h1, h4]; omega
theorem ev_divide (a b : List Int) (ha : Nrm a) (hb : Nrm b) (hal : a.length ≤ 300) (hbl : 2 ≤ b.length) (hab : val b ≤ val a) :
    Ev (fun k => nat_divide.f k a b) (dg (val a / val b), dg (val a % val b)) := by
  have hlen := len_of_le ha hb hab
  obtain ⟨lb, hlb⟩ : ∃ n : Nat, b.length = n + 1 := ⟨b.length - 1, by omega⟩
  obtain ⟨e, he⟩ : ∃ n : Nat, a.length = n + b.length := ⟨a.length - b.length, by omega⟩
  have et : (b.length : Int) - 1 = (lb : Int) := by omega
  obtain ⟨bt, hbt⟩ : ∃ x, rd b (lb : Int) = x := ⟨_, rfl⟩
  have hb1 := hb.1.rd (lb : Int)
  have hbne := nrm_last hb (i := (lb : Int)) (by omega) (by omega)
  rw [hbt] at hb1 hbne
  obtain ⟨m, hm⟩ : ∃ m, 1000000000 / (bt + 1) = m := ⟨_, rfl⟩
  obtain ⟨hm1, hm2, hm3, hm4⟩ := norm_half (show 1 ≤ bt by omega) hb1.2 hm
  obtain ⟨u, hE1, hDu, hul, huv⟩ := ev_scaled a ha.1 (by omega) m (by omega) (by omega)
  obtain ⟨v0, hE2, hDv0, hvl0, hvv0⟩ := ev_scaled b hb.1 (by omega) m (by omega) (by omega)
  have hb0 := val_nonneg hb.1
  have ha0 := val_nonneg ha.1
  have hbs : val b = val (b.take lb) + pw lb * bt := by
    have h1 := val_split b lb (by omega)
    have h2 := val_drop (l := b) (i := (lb : Int)) (by omega) (by omega)
    have h3 : ((lb : Nat) : Int).toNat = lb := by omega
    rw [h3, List.drop_eq_nil_of_le (show b.length ≤ lb + 1 by omega), hbt] at h2
    rw [h2] at h1
    simpa [val] using h1
  have hbk0 := val_nonneg (hb.1.take lb)
  have hbk1 := val_lt (hb.1.take lb)
  rw [List.length_take, Nat.min_eq_left (by omega)] at hbk1
  have hP := pw_pos lb
  have hps := pw_succ lb
  obtain ⟨P, hPe⟩ : ∃ P, pw lb = P := ⟨_, rfl⟩
  rw [hPe] at hbs hbk1 hP hps
  have hbm1 : val b * m < P * 1000000000 := by
    have h0 : P * (bt + 1) = P * bt + P := by grind
    have h1 : val b * m < (P * (bt + 1)) * m := Int.mul_lt_mul_of_pos_right (by omega) (by omega)
    have h2 : (P * (bt + 1)) * m = P * ((bt + 1) * m) := by grind
    have h3 := Int.mul_le_mul_of_nonneg_left hm4 (Int.le_of_lt hP)
    omega
  have hbm2 : P * 500000000 ≤ val b * m := by
    have h1 : (P * bt) * m ≤ val b * m := Int.mul_le_mul_of_nonneg_right (by omega) (by omega)
    have h2 : (P * bt) * m = P * (bt * m) := by grind
    have h3 := Int.mul_le_mul_of_nonneg_left hm3 (Int.le_of_lt hP)
    omega
  obtain ⟨v, hve⟩ : ∃ v, v0.take b.length = v := ⟨_, rfl⟩
  have hDv : Dig v := by rw [← hve]; exact hDv0.take _
  have hvl : v.length = lb + 1 := by rw [← hve, List.length_take]; omega
  have hvv : val v = val b * m := by rw [← hve, ← hvv0]; exact take_all hDv0 (by omega) (by rw [hvv0, hlb, hps]; omega)
  have hvn : 500000000 ≤ rd v ((v.length : Int) - 1) := by
    have h1 := val_split v lb (by omega)
    have h2 := val_drop (l := v) (i := (lb : Int)) (by omega) (by omega)
    have h3 : ((lb : Nat) : Int).toNat = lb := by omega
    rw [h3, List.drop_eq_nil_of_le (show v.length ≤ lb + 1 by omega)] at h2
    simp only [val, Int.mul_zero, Int.add_zero] at h2
    rw [h2, hPe] at h1
    have h4 := val_lt (hDv.take lb)
    rw [List.length_take, Nat.min_eq_left (by omega), hPe] at h4
    have h5 : (v.length : Int) - 1 = (lb : Int) := by omega
    rw [h5]
    rcases Int.lt_or_le (rd v (lb : Int)) 500000000 with h | h
    · exfalso
      have := Int.mul_le_mul_of_nonneg_left (show rd v (lb : Int) + 1 ≤ 500000000 by omega) (Int.le_of_lt hP)
      have h6 : P * (rd v (lb : Int) + 1) = P * rd v (lb : Int) + P := by grind
      omega
    · exact h
  have hT : val (u.drop (e + 1)) < val v := by
    have h1 := val_split u (e + 1) (by omega)
    have h2 := val_nonneg (hDu.take (e + 1))
    have h3 := val_lt ha.1
    have h4 : pw a.length = pw (e + 1) * P := by rw [show a.length = (e + 1) + lb by omega, pw_add, hPe]
    have h5 : val a * m < pw (e + 1) * P * m := by rw [← h4]; exact Int.mul_lt_mul_of_pos_right h3 (by omega)
    rcases Int.lt_or_le (val (u.drop (e + 1))) (P * m) with h | h
    · have := Int.mul_le_mul_of_nonneg_left hm2 (Int.le_of_lt hP)
      rw [hvv]; omega
    · exfalso
      have h6 := Int.mul_le_mul_of_nonneg_left h (Int.le_of_lt (pw_pos (e + 1)))
      have h7 : pw (e + 1) * (P * m) = pw (e + 1) * P * m := by grind
      omega
  have hrz : val (List.replicate (e + 1) 0) = 0 := val_rep _
  obtain ⟨uf, of, hE3, hDuf, hDof, hufl, hofl, hlt, hS⟩ := ev_divide_l0 v hDv (by omega) (by omega) hvn (val u) (e + 1) u (List.replicate (e + 1) 0) hDu (Dig.rep _) Z20 (by omega) (by simp) hT (by rw [List.drop_eq_nil_of_le (by simp)]; simp [val]) (fun s _ => rd_rep _ _)
  have e3 : ((e + 1 : Nat) : Int) - 1 = (e : Int) := by omega
  rw [e3] at hE3
  have huf0 := val_nonneg hDuf
  have hr : val uf = m * (val a - val b * val of) := by rw [huv, hvv] at hS; grind
  have hr0 : 0 ≤ val a - val b * val of := by
    rcases Int.lt_or_le (val a - val b * val of) 0 with h | h
    · have := Int.mul_lt_mul_of_pos_left h (show 0 < m by omega)
      omega
    · exact h
  have hr1 : val a - val b * val of < val b := by
    rcases Int.lt_or_le (val a - val b * val of) (val b) with h | h
    · exact h
    · have := Int.mul_le_mul_of_nonneg_left h (show 0 ≤ m by omega)
      rw [hvv] at hlt
      have h2 : m * val b = val b * m := Int.mul_comm _ _
      omega
  obtain ⟨hq1, hq2⟩ := divmod_unique (a := val a) (b := val b) (q := val of) (r := val a - val b * val of) (by omega) hr0 hr1
  have htk : val (uf.take b.length) = val uf := take_all hDuf (by omega) (by rw [hlb, hps]; rw [hvv] at hlt; omega)
  have hE4 := ev_trimmed (uf.take b.length) (hDuf.take _) (by rw [List.length_take]; omega)
  rw [htk] at hE4
  have hE5 := ev_short (dg (val uf)) (nrm_dg _).1 (by rw [dg_len huf0]; have := pw_le (show lb + 1 ≤ 1000 by omega); rw [hps] at this; rw [hvv] at hlt; omega) m (by omega) (by omega)
  rw [val_dg huf0] at hE5
  have hE6 := ev_trimmed of hDof (by rw [hofl]; simp; omega)
  have hdiv : val uf / m = val a % val b := by rw [hq2, hr]; exact Int.mul_ediv_cancel_left _ (by omega)
  rw [hdiv] at hE5
  rw [hq1]
  have hg : a.length ≤ 1000000 ∧ b.length ≤ a.length ∧ 2 ≤ b.length ∧ 0 ≤ rd b ((b.length : Int) - 1) ∧ rd b ((b.length : Int) - 1) < 1000000000 := by
    rw [et, hbt]; exact ⟨by omega, by omega, hbl, hb1.1, hb1.2⟩
  refine Ev.congr (f := fun k => (nat_scaled.f k a m).bind fun u_ => (nat_scaled.f k b m).bind fun v_ => if u_.length = a.length + 1 ∧ v_.length = b.length + 1 then
      (nat_divide.l0 k (v_.take b.length) u_ (List.replicate (a.length - b.length + 1) 0) ((a.length : Int) - b.length)).bind fun s =>
      (nat_trimmed.f k (s.1.take b.length)).bind fun t => (nat_short.f k t m).bind fun d => (nat_trimmed.f k s.2).bind fun q => some (q, d.1) else none) (fun k => ?_) ?_
  · unfold nat_divide.f
    rw [if_pos hg, et, hbt, hm]
  · refine Ev.bind hE1 (Ev.bind hE2 ?_)
    refine Ev.congr (fun k => if_pos ⟨hul, hvl0⟩) ?_
    rw [hve, show a.length - b.length + 1 = e + 1 by omega, show (a.length : Int) - (b.length : Int) = (e : Int) by omega]
    exact Ev.bind hE3 (Ev.bind hE4 (Ev.bind hE5 (Ev.bind hE6 (Ev.now _))))
theorem val_single {b : List Int} (h : b.length = 1) : val b = rd b 0 := by
  match b, h with
  | [x], _ => simp [val, rd]
theorem ev_divided (a b : List Int) (ha : Nrm a) (hb : Nrm b) (hal : a.length ≤ 300) (hbne : b ≠ []) :
    Ev (fun k => nat_divided.f k a b) (dg (val a / val b), dg (val a % val b)) := by
  have hbp := val_pos hb hbne
  have ha0 := val_nonneg ha.1
  unfold nat_divided.f
  refine Ev.bind (ev_compare a b ha hb (by omega)) ?_
  by_cases c : val a < val b
  · have h1 : val a / val b = 0 := Int.ediv_eq_zero_of_lt ha0 c
    have h2 : val a % val b = val a := Int.emod_eq_of_lt ha0 c
    rw [h1, h2, dg_zero]
    have hE := ev_trimmed a ha.1 (by omega)
    refine Ev.congr (f := fun k => (nat_trimmed.f k a).bind fun t => some ([], t)) (fun k => ?_) (Ev.bind hE (Ev.now _))
    have hcm : cmpS (val a) (val b) < 0 := by unfold cmpS; rw [if_pos c]; omega
    rw [if_pos hcm, padded_e _ _ (by omega) (by omega), Option.bind_some]
    have e : ((a.length : Int)).toNat - a.length = 0 := by omega
    rw [e]; simp
  · have hcm : ¬ cmpS (val a) (val b) < 0 := by unfold cmpS; rw [if_neg c]; split <;> omega
    by_cases c1 : b.length = 1
    · have hv := val_single c1
      have h1 := hb.1.rd 0
      have hE := ev_short a ha.1 (by omega) (rd b 0) (by omega) (by omega)
      rw [← hv] at hE
      refine Ev.congr (f := fun k => nat_short.f k a (val b)) (fun k => ?_) hE
      rw [if_neg hcm, if_pos (by omega), if_pos (by omega), ← hv]
      cases nat_short.f k a (val b) with
      | none => rfl
      | some p => rfl
    · have h0 : b.length ≠ 0 := fun e => hbne (List.eq_nil_of_length_eq_zero e)
      refine Ev.congr (f := fun k => nat_divide.f k a b) (fun k => ?_) (ev_divide a b ha hb hal (by omega) (by omega))
      rw [if_neg hcm, if_neg (by omega)]
      cases nat_divide.f k a b with
      | none => rfl
      | some p => rfl
def divS (a b : List Int) : List Int × List Int × Int := if okN a = true ∧ okN b = true then (if b = [] then ([], [], 16) else (dg (val a / val b), dg (val a % val b), 0)) else ([], [], 3)
theorem ev_DivMod (a b : List Int) : Ev (fun k => nat_DivMod.f k a b) (divS a b) := by
  unfold divS
  by_cases ca : okN a = true
  · by_cases cb : okN b = true
    · rw [if_pos ⟨ca, cb⟩]
      have oa := okN_iff.1 ca
      have ob := okN_iff.1 cb
      have hla := oa.1
      refine Ev.bind (ev_Valid a) ?_
      rw [ca]
      simp only [if_true]
      refine Ev.bind (ev_Valid b) ?_
      rw [cb]
      by_cases c : b = []
      · subst c
        rw [if_pos rfl]
        refine Ev.step (f := fun _ => some _) (fun k => ?_) (Ev.now _)
        simp [nat_DivMod.j0]
      · rw [if_neg c]
        have h0 : b.length ≠ 0 := fun e => c (List.eq_nil_of_length_eq_zero e)
        refine Ev.step (f := fun k => (nat_divided.f k a b).bind fun p => some (p.1, p.2, 0)) (fun k => ?_) (Ev.bind (ev_divided a b oa.2 ob.2 (by omega) c) (Ev.now _))
        simp only [nat_DivMod.j0]
        rw [if_neg (by simp), if_neg (by omega)]
    · rw [if_neg (fun h => cb h.2)]
      refine Ev.bind (ev_Valid a) ?_
      rw [ca]
      simp only [if_true]
      refine Ev.bind (ev_Valid b) ?_
      rw [Bool.eq_false_iff.2 cb]
      refine Ev.step (f := fun _ => some _) (fun k => ?_) (Ev.now _)
      simp [nat_DivMod.j0]
  · rw [if_neg (fun h => ca h.1)]
    refine Ev.bind (ev_Valid a) ?_
    rw [Bool.eq_false_iff.2 ca]
    simp only [Bool.false_eq_true, if_false]
    refine Ev.step (f := fun _ => some _) (fun k => ?_) (Ev.now _)
    simp [nat_DivMod.j0]
end Go.Proofs.Ytbjamhkhocjdkaa.Px
namespace Go.Proofs.Ytbjamhkhocjdkaa.Px
open Go.RowKit Go.Proofs.YtbjamhkhocjdkaaW.PrintWords Go.Proofs.YtbjamhkhocjdkaaW.PrintLast Go.Proofs.YtbjamhkhocjdkaaW.PrintMore
set_option linter.unusedVariables false
set_option linter.unusedSimpArgs false
mutual
def nat_Gcd.j0 : Nat → List Int → List Int → Bool → Option (List Int × Int)
  | 0, _, _, _ => none
  | k + 1, x0, x1, x17 => if x17 = true then (some (([] : List Int), 3)) else (nat_Gcd.l0 k x0 x1)
def nat_Gcd.j2 : Nat → List Int → List Int → Option (List Int × Int)
  | 0, _, _ => none
  | k + 1, x0, x1 => if (x1.length : Int) = 0 then ((nat_padded.f x0 (x0.length : Int)).bind fun t243 => ((nat_trimmed.f k t243).bind fun t246 => (some (t246, 0)))) else ((nat_small.f k x0).bind fun t249 => ((nat_small.f k x1).bind fun t250 => (nat_Gcd.l1 k t249 t250)))
def nat_Gcd.l1 : Nat → Int → Int → Option (List Int × Int)
  | 0, _, _ => none
  | k + 1, x8, x9 => if x9 > 0 then (if x9 = 0 then (none) else (nat_Gcd.l1 k x9 (Int.tmod x8 x9))) else ((nat_Of.f k x8).bind fun bt251 => (some (bt251.1, bt251.2)))
def nat_Gcd.l0 : Nat → List Int → List Int → Option (List Int × Int)
  | 0, _, _ => none
  | k + 1, x0, x1 => if (x1.length : Int) > 0 then (if (x0.length : Int) > 2 then ((nat_divided.f k x0 x1).bind fun bt231 => (nat_Gcd.l0 k x1 bt231.2)) else (if (x1.length : Int) > 2 then ((nat_divided.f k x0 x1).bind fun bt237 => (nat_Gcd.l0 k x1 bt237.2)) else (nat_Gcd.j2 k x0 x1))) else (nat_Gcd.j2 k x0 x1)
end
def nat_Gcd.f (k : Nat) (l0 : List Int) (l1 : List Int) : Option (List Int × Int) := (nat_Valid.f k l0).bind fun t229 => (if t229 = true then ((nat_Valid.f k l1).bind fun t230 => (nat_Gcd.j0 k l0 l1 (!t230))) else (nat_Gcd.j0 k l0 l1 true))
set_option maxHeartbeats 8000000 in
set_option maxRecDepth 100000 in
theorem nat_Gcd.calls (k : Nat) (P0_ : Nat → Prop) (A0 : Option Addr) (c0 : Nat) (l0 : List Int) (P1_ : Nat → Prop) (A1 : Option Addr) (c1 : Nat) (l1 : List Int) (r1 : List Int) (r2 : Int) (w : World) (hs0 : Kd.V (Kd.int .i64) 3 w w.heap.size (fun k_ => P0_ k_) (.slice A0 l0.length c0) l0) (hs1 : Kd.V (Kd.int .i64) 3 w w.heap.size (fun k_ => P1_ k_) (.slice A1 l1.length c1) l1) (h : nat_Gcd.f k l0 l1 = some (r1, r2)) :
    Calls Try.prog 68 #[.slice A0 l0.length c0, .slice A1 l1.length c1] w fun e w' => ∃ v0_ : Value, e = .returned (.tuple #[v0_, .int .i64 r2]) ∧ Kd.R (Kd.int .i64) 3 w' w.heap.size (fun k_ => (w.heap.size ≤ k_)) v0_ r1 ∧ Below w.heap.size w w' := by
  have HO0 := Aside0.mk (show Kd.V (Kd.int .i64) 3 w w.heap.size (fun k_ => ((P0_ k_ ∨ P1_ k_) ∨ w.heap.size ≤ k_)) (.slice A0 l0.length c0) l0 from Kd.V_mono hs0 (fun k_ hk => .inl (.inl hk)))
  have HO1 := Aside0.mk (show Kd.V (Kd.int .i64) 3 w w.heap.size (fun k_ => ((P0_ k_ ∨ P1_ k_) ∨ w.heap.size ≤ k_)) (.slice A1 l1.length c1) l1 from Kd.V_mono hs1 (fun k_ hk => .inl (.inr hk)))
  have HB := Aside0.mk (Below.refl w.heap.size w)
  have H : ((nat_Valid.f k l0).bind fun t229 => (if t229 = true then ((nat_Valid.f k l1).bind fun t230 => (nat_Gcd.j0 k l0 l1 (!t230))) else (nat_Gcd.j0 k l0 l1 true))) = some (r1, r2) := h
  clear h
  have HC3 := Aside0.mk H
  clear H
  go_enter Try.func68, Try.ntmps68
  go_upto_region 1 with (fail)
  repeat (go_quiet (fail); go_upto_region 1 with (fail))
  go_cut [17] (fun v17 wc => ∃ (kq : Nat) (x17_2 : Bool), v17 = .bool x17_2 ∧ Aside0 (nat_Gcd.j0 kq l0 l1 x17_2 = some (r1, r2)) ∧ Aside0 (kq ≤ k) ∧ Aside0 (Kd.V (Kd.int .i64) 3 wc w.heap.size (fun k_ => ((P0_ k_ ∨ P1_ k_) ∨ w.heap.size ≤ k_)) (.slice A0 l0.length c0) l0) ∧ Aside0 (Kd.V (Kd.int .i64) 3 wc w.heap.size (fun k_ => ((P0_ k_ ∨ P1_ k_) ∨ w.heap.size ≤ k_)) (.slice A1 l1.length c1) l1) ∧ Aside0 (Below w.heap.size w wc))
  case first =>
    have H := HC3.out
    clear HC3
    replace H := Option.bind_eq_some_iff.mp H
    obtain ⟨t229, A40, H⟩ := H
    replace H : (if t229 = true then ((nat_Valid.f k l1).bind fun t230 => (nat_Gcd.j0 k l0 l1 (!t230))) else (nat_Gcd.j0 k l0 l1 true)) = some (r1, r2) := H
    have A4 := Aside0.mk A40
    clear A40
    by_cases c5 : t229 = true
    · subst c5
      have H1 : ((nat_Valid.f k l1).bind fun t230 => (nat_Gcd.j0 k l0 l1 (!t230))) = some (r1, r2) := by rw [if_pos rfl] at H; exact H
      clear H
      have H := H1
      clear H1
      replace H := Option.bind_eq_some_iff.mp H
      obtain ⟨t230, A60, H⟩ := H
      replace H : (nat_Gcd.j0 k l0 l1 (!t230)) = some (r1, r2) := H
      have A6 := Aside0.mk A60
      clear A60
      have H' := Aside0.mk H
      clear H
      go_wp2_with (first | (go_at_call 67; (with_reducible refine (nat_Valid.calls k _ _ l0 true _ ?side1 ?side2 A4.out).mono ?_); (case side1 => repeat (first | exact (Kd.V_reads' HO0.out).2.2 | (with_reducible refine Kd.C_alloc ?_ _) | (with_reducible refine Kd.C_drewN ?_ _) | (with_reducible refine Kd.C_drew ?_))); (case side2 => exact (Kd.V_reads' HO0.out).2.1); rintro e w' ⟨rfl, ⟨nd, rfl⟩⟩; (try first | exact ⟨rfl, _, World.drewN_drewN _ _ _⟩ | exact ⟨rfl, _, Eq.trans (World.drewN_drewN _ _ _) (congrArg (World.drewN _) (Nat.add_assoc _ _ _))⟩)) | (go_at_call 67; (with_reducible refine (nat_Valid.calls k _ _ l1 t230 _ ?side1 ?side2 A6.out).mono ?_); (case side1 => repeat (first | exact (Kd.V_reads' HO1.out).2.2 | (with_reducible refine Kd.C_alloc ?_ _) | (with_reducible refine Kd.C_drewN ?_ _) | (with_reducible refine Kd.C_drew ?_))); (case side2 => exact (Kd.V_reads' HO1.out).2.1); rintro e w' ⟨rfl, ⟨nd, rfl⟩⟩; (try first | exact ⟨rfl, _, World.drewN_drewN _ _ _⟩ | exact ⟨rfl, _, Eq.trans (World.drewN_drewN _ _ _) (congrArg (World.drewN _) (Nat.add_assoc _ _ _))⟩)))
      repeat (go_quiet (first | (go_at_call 67; (with_reducible refine (nat_Valid.calls k _ _ l0 true _ ?side1 ?side2 A4.out).mono ?_); (case side1 => repeat (first | exact (Kd.V_reads' HO0.out).2.2 | (with_reducible refine Kd.C_alloc ?_ _) | (with_reducible refine Kd.C_drewN ?_ _) | (with_reducible refine Kd.C_drew ?_))); (case side2 => exact (Kd.V_reads' HO0.out).2.1); rintro e w' ⟨rfl, ⟨nd, rfl⟩⟩; (try first | exact ⟨rfl, _, World.drewN_drewN _ _ _⟩ | exact ⟨rfl, _, Eq.trans (World.drewN_drewN _ _ _) (congrArg (World.drewN _) (Nat.add_assoc _ _ _))⟩)) | (go_at_call 67; (with_reducible refine (nat_Valid.calls k _ _ l1 t230 _ ?side1 ?side2 A6.out).mono ?_); (case side1 => repeat (first | exact (Kd.V_reads' HO1.out).2.2 | (with_reducible refine Kd.C_alloc ?_ _) | (with_reducible refine Kd.C_drewN ?_ _) | (with_reducible refine Kd.C_drew ?_))); (case side2 => exact (Kd.V_reads' HO1.out).2.1); rintro e w' ⟨rfl, ⟨nd, rfl⟩⟩; (try first | exact ⟨rfl, _, World.drewN_drewN _ _ _⟩ | exact ⟨rfl, _, Eq.trans (World.drewN_drewN _ _ _) (congrArg (World.drewN _) (Nat.add_assoc _ _ _))⟩))); try go_wp2_with (first | (go_at_call 67; (with_reducible refine (nat_Valid.calls k _ _ l0 true _ ?side1 ?side2 A4.out).mono ?_); (case side1 => repeat (first | exact (Kd.V_reads' HO0.out).2.2 | (with_reducible refine Kd.C_alloc ?_ _) | (with_reducible refine Kd.C_drewN ?_ _) | (with_reducible refine Kd.C_drew ?_))); (case side2 => exact (Kd.V_reads' HO0.out).2.1); rintro e w' ⟨rfl, ⟨nd, rfl⟩⟩; (try first | exact ⟨rfl, _, World.drewN_drewN _ _ _⟩ | exact ⟨rfl, _, Eq.trans (World.drewN_drewN _ _ _) (congrArg (World.drewN _) (Nat.add_assoc _ _ _))⟩)) | (go_at_call 67; (with_reducible refine (nat_Valid.calls k _ _ l1 t230 _ ?side1 ?side2 A6.out).mono ?_); (case side1 => repeat (first | exact (Kd.V_reads' HO1.out).2.2 | (with_reducible refine Kd.C_alloc ?_ _) | (with_reducible refine Kd.C_drewN ?_ _) | (with_reducible refine Kd.C_drew ?_))); (case side2 => exact (Kd.V_reads' HO1.out).2.1); rintro e w' ⟨rfl, ⟨nd, rfl⟩⟩; (try first | exact ⟨rfl, _, World.drewN_drewN _ _ _⟩ | exact ⟨rfl, _, Eq.trans (World.drewN_drewN _ _ _) (congrArg (World.drewN _) (Nat.add_assoc _ _ _))⟩))))
      go_meet
      case rel => exact ⟨_, (!t230), Z4, H', ⟨by first | omega | exact Nat.le_refl _⟩, ⟨by (with_reducible repeat (first | apply Kd.V_alloc | apply Kd.V_drewN | apply Kd.V_drew)); exact HO0.out⟩, ⟨by (with_reducible repeat (first | apply Kd.V_alloc | apply Kd.V_drewN | apply Kd.V_drew)); exact HO1.out⟩, ⟨by repeat (first | (with_reducible first | exact HB.out | apply below_alloc | apply pw_below_drewN | apply below_drew1) | exact HB.out)⟩⟩
    · replace c5 := Bool.eq_false_iff.mpr c5
      subst c5
      have H1 : (nat_Gcd.j0 k l0 l1 true) = some (r1, r2) := by rw [if_neg (show ¬ (false = true) by decide)] at H; exact H
      clear H
      have H := H1
      clear H1
      have H' := Aside0.mk H
      clear H
      go_wp2_with (first | (go_at_call 67; (with_reducible refine (nat_Valid.calls k _ _ l0 false _ ?side1 ?side2 A4.out).mono ?_); (case side1 => repeat (first | exact (Kd.V_reads' HO0.out).2.2 | (with_reducible refine Kd.C_alloc ?_ _) | (with_reducible refine Kd.C_drewN ?_ _) | (with_reducible refine Kd.C_drew ?_))); (case side2 => exact (Kd.V_reads' HO0.out).2.1); rintro e w' ⟨rfl, ⟨nd, rfl⟩⟩; (try first | exact ⟨rfl, _, World.drewN_drewN _ _ _⟩ | exact ⟨rfl, _, Eq.trans (World.drewN_drewN _ _ _) (congrArg (World.drewN _) (Nat.add_assoc _ _ _))⟩)))
      repeat (go_quiet (first | (go_at_call 67; (with_reducible refine (nat_Valid.calls k _ _ l0 false _ ?side1 ?side2 A4.out).mono ?_); (case side1 => repeat (first | exact (Kd.V_reads' HO0.out).2.2 | (with_reducible refine Kd.C_alloc ?_ _) | (with_reducible refine Kd.C_drewN ?_ _) | (with_reducible refine Kd.C_drew ?_))); (case side2 => exact (Kd.V_reads' HO0.out).2.1); rintro e w' ⟨rfl, ⟨nd, rfl⟩⟩; (try first | exact ⟨rfl, _, World.drewN_drewN _ _ _⟩ | exact ⟨rfl, _, Eq.trans (World.drewN_drewN _ _ _) (congrArg (World.drewN _) (Nat.add_assoc _ _ _))⟩))); try go_wp2_with (first | (go_at_call 67; (with_reducible refine (nat_Valid.calls k _ _ l0 false _ ?side1 ?side2 A4.out).mono ?_); (case side1 => repeat (first | exact (Kd.V_reads' HO0.out).2.2 | (with_reducible refine Kd.C_alloc ?_ _) | (with_reducible refine Kd.C_drewN ?_ _) | (with_reducible refine Kd.C_drew ?_))); (case side2 => exact (Kd.V_reads' HO0.out).2.1); rintro e w' ⟨rfl, ⟨nd, rfl⟩⟩; (try first | exact ⟨rfl, _, World.drewN_drewN _ _ _⟩ | exact ⟨rfl, _, Eq.trans (World.drewN_drewN _ _ _) (congrArg (World.drewN _) (Nat.add_assoc _ _ _))⟩))))
      go_meet
      case rel => exact ⟨_, (true), Z4, H', ⟨by first | omega | exact Nat.le_refl _⟩, ⟨by (with_reducible repeat (first | apply Kd.V_alloc | apply Kd.V_drewN | apply Kd.V_drew)); exact HO0.out⟩, ⟨by (with_reducible repeat (first | apply Kd.V_alloc | apply Kd.V_drewN | apply Kd.V_drew)); exact HO1.out⟩, ⟨by repeat (first | (with_reducible first | exact HB.out | apply below_alloc | apply pw_below_drewN | apply below_drew1) | exact HB.out)⟩⟩
  case rest =>
    clear HC3
    try clear c1
    try clear p2
    try clear c5
    try clear c6
    obtain ⟨kq, x17_2, rfl, HA, HJ2, HO_0, HO_1, HB⟩ := hcut
    cases kq with
    | zero => exact absurd HA.out (by simp [nat_Gcd.j0])
    | succ kj2 =>
      have H := HA.out
      clear HA
      simp only [nat_Gcd.j0] at H
      by_cases c7 : x17_2 = true
      · subst c7
        have H1 : (some (([] : List Int), 3)) = some (r1, r2) := by rw [if_pos rfl] at H; exact H
        clear H
        have H := H1
        clear H1
        simp only [Option.some.injEq, Prod.mk.injEq] at H
        obtain ⟨rfl, rfl⟩ := H
        go_wp2
        repeat (go_quiet (fail); try go_wp2)
        go_ret2
        exact ⟨_, by first | rfl | (simp [errW_none, errW_some] <;> rfl) | (simp [*, errW_none, errW_some] <;> rfl), by first | exact Kd.R_nil _ _ _ _ _ | exact Kd.N_nil _ _ _ _ _ | exact Kd.V_nil _ _ _ _ _ | exact Kd.Q_nil _ _ _ _ _ | exact Kd.S_nil _ _ _ _ _, by repeat (first | (with_reducible first | exact HB.out | apply below_alloc | apply pw_below_drewN | apply below_drew1) | exact HB.out)⟩
      · replace c7 := Bool.eq_false_iff.mpr c7
        subst c7
        have H1 : (nat_Gcd.l0 kj2 l0 l1) = some (r1, r2) := by rw [if_neg (show ¬ (false = true) by decide)] at H; exact H
        clear H
        have H := H1
        clear H1
        have HC8 := Aside0.mk H
        clear H
        go_upto_block 0 with (fail)
        repeat (go_quiet (fail); go_upto_block 0 with (fail))
        go_cut [0, 1] (fun v0 v1 wc => ∃ (kq : Nat) (x0_7 : List Int) (x1_7 : List Int), Aside0 (nat_Gcd.j2 kq x0_7 x1_7 = some (r1, r2)) ∧ Aside0 (kq ≤ kj2) ∧ Aside0 (Kd.V (Kd.int .i64) 3 wc w.heap.size (fun k_ => ((P0_ k_ ∨ P1_ k_) ∨ w.heap.size ≤ k_)) v0 x0_7) ∧ Aside0 (Kd.V (Kd.int .i64) 3 wc w.heap.size (fun k_ => ((P0_ k_ ∨ P1_ k_) ∨ w.heap.size ≤ k_)) v1 x1_7) ∧ Aside0 (Below w.heap.size w wc))
        case first =>
          have H := HC8.out
          clear HC8
          have H' := Aside0.mk H
          clear H
          go_wp2
          repeat (go_quiet (fail); try go_wp2)
          go_loopg [0, 1] kj2 (fun kq v0 v1 w' => ∃ (x0_2 : List Int) (x1_2 : List Int), Aside0 (nat_Gcd.l0 kq x0_2 x1_2 = some (r1, r2)) ∧ Aside0 (kq ≤ kj2) ∧ Aside0 (Kd.V (Kd.int .i64) 3 w' w.heap.size (fun k_ => ((P0_ k_ ∨ P1_ k_) ∨ w.heap.size ≤ k_)) v0 x0_2) ∧ Aside0 (Kd.V (Kd.int .i64) 3 w' w.heap.size (fun k_ => ((P0_ k_ ∨ P1_ k_) ∨ w.heap.size ≤ k_)) v1 x1_2) ∧ Aside0 (Below w.heap.size w w'))
          case atStart => exact ⟨(l0), (l1), H', ⟨Nat.le_refl _⟩, ⟨by (with_reducible repeat (first | apply Kd.V_alloc | apply Kd.V_drewN | apply Kd.V_drew)); exact HO_0.out⟩, ⟨by (with_reducible repeat (first | apply Kd.V_alloc | apply Kd.V_drewN | apply Kd.V_drew)); exact HO_1.out⟩, ⟨by repeat (first | (with_reducible first | exact HB.out | apply below_alloc | apply pw_below_drewN | apply below_drew1) | exact HB.out)⟩⟩
          case round =>
            clear H'
            try clear c1
            try clear p2
            try clear c5
            try clear c6
            try clear c7
            try clear p2
            obtain ⟨x0_2, x1_2, HA, HK2, HO_0, HO_1, HB⟩ := hrel
            cases gk with
            | zero => exact absurd HA.out (by simp [nat_Gcd.l0])
            | succ k2 =>
              have H := HA.out
              clear HA
              simp only [nat_Gcd.l0] at H
              by_cases c9 : (x1_2.length : Int) > 0
              · rw [if_pos c9] at H
                have c9b0 : decide (0 < (x1_2.length : Int)) = true := decide_eq_true c9
                have c9b1 : decide (0 < x1_2.length) = true := decide_eq_true (by omega)
                clear c9
                (first | rw [c9b0] | (simp only [i64_w, i32_w]; rw [c9b0]) | skip)
                by_cases c10 : (x0_2.length : Int) > 2
                · rw [if_pos c10] at H
                  have c10b0 : decide (2 < (x0_2.length : Int)) = true := decide_eq_true c10
                  have c10b1 : decide (2 < x0_2.length) = true := decide_eq_true (by omega)
                  clear c10
                  replace H := Option.bind_eq_some_iff.mp H
                  obtain ⟨⟨t231, t232⟩, A110, H⟩ := H
                  replace H : (nat_Gcd.l0 k2 x1_2 t232) = some (r1, r2) := H
                  have A11 := Aside0.mk A110
                  clear A110
                  have H' := Aside0.mk H
                  clear H
                  obtain ⟨Ao12, co12, eo12⟩ := Kd.V_slice HO_1.out
                  subst eo12
                  obtain ⟨Ao13, co13, eo13⟩ := Kd.V_slice HO_0.out
                  subst eo13
                  go_wp2_with (first | (go_at_call 82; (with_reducible refine (nat_divided.calls k2 _ _ x0_2 _ _ x1_2 t231 t232 _ ?side1 ?side2 ?side3 ?side4 A11.out).mono ?_); (case side1 => repeat (first | exact (Kd.V_reads' HO_0.out).2.2 | (with_reducible refine Kd.C_alloc ?_ _) | (with_reducible refine Kd.C_drewN ?_ _) | (with_reducible refine Kd.C_drew ?_))); (case side2 => exact (Kd.V_reads' HO_0.out).2.1); (case side3 => repeat (first | exact (Kd.V_reads' HO_1.out).2.2 | (with_reducible refine Kd.C_alloc ?_ _) | (with_reducible refine Kd.C_drewN ?_ _) | (with_reducible refine Kd.C_drew ?_))); (case side4 => exact (Kd.V_reads' HO_1.out).2.1); rintro e w14 ⟨v233, v235, rfl, ho0, ho1, hb⟩; have n0_ := Aside0.mk (Kd.V_mono (Kd.V_told (Kd.V_told (Kd.V_old Z15 hb) (Kd.R_base ho0)) (Kd.R_base ho1)) (fun _ h_ => h_.1)); have n1_ := Aside0.mk (Kd.V_mono (Kd.V_told (Kd.V_told (Kd.V_old Z9 hb) (Kd.R_base ho0)) (Kd.R_base ho1)) (fun _ h_ => h_.1)); have n2_ := Aside0.mk (Kd.R_lower (Kd.R_newM (M := fun k_ => (w.heap.size ≤ k_)) ho0 (below_size Z0) (fun k_ h_ => h_)) (below_size Z0)); have n3_ := Aside0.mk (Kd.R_lower (Kd.R_newM (M := fun k_ => (w.heap.size ≤ k_)) ho1 (below_size Z0) (fun k_ h_ => h_)) (below_size Z0)); have n4_ := Aside0.mk (below_step Z0 hb); clear HO_0; clear HO_1; clear HB; have HO_0 := n0_; have HO_1 := n1_; have HO234 := n2_; have HO236 := n3_; have HB := n4_; clear n0_ n1_ n2_ n3_ n4_; (try clear hb); (try clear hb2); (try clear hk); (try clear hi); (try clear ho0); (try clear ho1)))
                  repeat (go_quiet (first | (go_at_call 82; (with_reducible refine (nat_divided.calls k2 _ _ x0_2 _ _ x1_2 t231 t232 _ ?side1 ?side2 ?side3 ?side4 A11.out).mono ?_); (case side1 => repeat (first | exact (Kd.V_reads' HO_0.out).2.2 | (with_reducible refine Kd.C_alloc ?_ _) | (with_reducible refine Kd.C_drewN ?_ _) | (with_reducible refine Kd.C_drew ?_))); (case side2 => exact (Kd.V_reads' HO_0.out).2.1); (case side3 => repeat (first | exact (Kd.V_reads' HO_1.out).2.2 | (with_reducible refine Kd.C_alloc ?_ _) | (with_reducible refine Kd.C_drewN ?_ _) | (with_reducible refine Kd.C_drew ?_))); (case side4 => exact (Kd.V_reads' HO_1.out).2.1); rintro e w14 ⟨v233, v235, rfl, ho0, ho1, hb⟩; have n0_ := Aside0.mk (Kd.V_mono (Kd.V_told (Kd.V_told (Kd.V_old Z15 hb) (Kd.R_base ho0)) (Kd.R_base ho1)) (fun _ h_ => h_.1)); have n1_ := Aside0.mk (Kd.V_mono (Kd.V_told (Kd.V_told (Kd.V_old Z9 hb) (Kd.R_base ho0)) (Kd.R_base ho1)) (fun _ h_ => h_.1)); have n2_ := Aside0.mk (Kd.R_lower (Kd.R_newM (M := fun k_ => (w.heap.size ≤ k_)) ho0 (below_size Z0) (fun k_ h_ => h_)) (below_size Z0)); have n3_ := Aside0.mk (Kd.R_lower (Kd.R_newM (M := fun k_ => (w.heap.size ≤ k_)) ho1 (below_size Z0) (fun k_ h_ => h_)) (below_size Z0)); have n4_ := Aside0.mk (below_step Z0 hb); clear HO_0; clear HO_1; clear HB; have HO_0 := n0_; have HO_1 := n1_; have HO234 := n2_; have HO236 := n3_; have HB := n4_; clear n0_ n1_ n2_ n3_ n4_; (try clear hb); (try clear hb2); (try clear hk); (try clear hi); (try clear ho0); (try clear ho1))); try go_wp2_with (first | (go_at_call 82; (with_reducible refine (nat_divided.calls k2 _ _ x0_2 _ _ x1_2 t231 t232 _ ?side1 ?side2 ?side3 ?side4 A11.out).mono ?_); (case side1 => repeat (first | exact (Kd.V_reads' HO_0.out).2.2 | (with_reducible refine Kd.C_alloc ?_ _) | (with_reducible refine Kd.C_drewN ?_ _) | (with_reducible refine Kd.C_drew ?_))); (case side2 => exact (Kd.V_reads' HO_0.out).2.1); (case side3 => repeat (first | exact (Kd.V_reads' HO_1.out).2.2 | (with_reducible refine Kd.C_alloc ?_ _) | (with_reducible refine Kd.C_drewN ?_ _) | (with_reducible refine Kd.C_drew ?_))); (case side4 => exact (Kd.V_reads' HO_1.out).2.1); rintro e w14 ⟨v233, v235, rfl, ho0, ho1, hb⟩; have n0_ := Aside0.mk (Kd.V_mono (Kd.V_told (Kd.V_told (Kd.V_old Z15 hb) (Kd.R_base ho0)) (Kd.R_base ho1)) (fun _ h_ => h_.1)); have n1_ := Aside0.mk (Kd.V_mono (Kd.V_told (Kd.V_told (Kd.V_old Z9 hb) (Kd.R_base ho0)) (Kd.R_base ho1)) (fun _ h_ => h_.1)); have n2_ := Aside0.mk (Kd.R_lower (Kd.R_newM (M := fun k_ => (w.heap.size ≤ k_)) ho0 (below_size Z0) (fun k_ h_ => h_)) (below_size Z0)); have n3_ := Aside0.mk (Kd.R_lower (Kd.R_newM (M := fun k_ => (w.heap.size ≤ k_)) ho1 (below_size Z0) (fun k_ h_ => h_)) (below_size Z0)); have n4_ := Aside0.mk (below_step Z0 hb); clear HO_0; clear HO_1; clear HB; have HO_0 := n0_; have HO_1 := n1_; have HO234 := n2_; have HO236 := n3_; have HB := n4_; clear n0_ n1_ n2_ n3_ n4_; (try clear hb); (try clear hb2); (try clear hk); (try clear hi); (try clear ho0); (try clear ho1))))
                  go_roundg k2
                  case measure => have := HJ2.out; have := HK2.out; omega
                  case rel => exact ⟨(x1_2), (t232), H', ⟨by have := HJ2.out; have := HK2.out; omega⟩, ⟨by (with_reducible repeat (first | apply Kd.V_alloc | apply Kd.V_drewN | apply Kd.V_drew)); exact Kd.V_mono HO_1.out (fun _ hk => hk.1.1)⟩, ⟨Kd.V_mono (Kd.R_V (by (with_reducible repeat (first | apply Kd.R_alloc | apply Kd.R_drewN | apply Kd.R_drew)); exact Kd.R_mono HO236.out (fun _ hk => hk.1))) (fun k_ hk => by first | exact ⟨(.inr (hk.1)), hk.2⟩ | exact (.inr (hk)))⟩, ⟨by repeat (first | (with_reducible first | exact HB.out | apply below_alloc | apply pw_below_drewN | apply below_drew1) | exact HB.out)⟩⟩
                · rw [if_neg c10] at H
                  have c10b0 : decide (2 < (x0_2.length : Int)) = false := decide_eq_false c10
                  have c10b1 : decide (2 < x0_2.length) = false := decide_eq_false (by omega)
                  clear c10
                  by_cases c15 : (x1_2.length : Int) > 2
                  · rw [if_pos c15] at H
                    have c15b0 : decide (2 < (x1_2.length : Int)) = true := decide_eq_true c15
                    have c15b1 : decide (2 < x1_2.length) = true := decide_eq_true (by omega)
                    clear c15
                    replace H := Option.bind_eq_some_iff.mp H
                    obtain ⟨⟨t237, t238⟩, A160, H⟩ := H
                    replace H : (nat_Gcd.l0 k2 x1_2 t238) = some (r1, r2) := H
                    have A16 := Aside0.mk A160
                    clear A160
                    have H' := Aside0.mk H
                    clear H
                    obtain ⟨Ao17, co17, eo17⟩ := Kd.V_slice HO_1.out
                    subst eo17
                    obtain ⟨Ao18, co18, eo18⟩ := Kd.V_slice HO_0.out
                    subst eo18
                    go_wp2_with (first | (go_at_call 82; (with_reducible refine (nat_divided.calls k2 _ _ x0_2 _ _ x1_2 t237 t238 _ ?side1 ?side2 ?side3 ?side4 A16.out).mono ?_); (case side1 => repeat (first | exact (Kd.V_reads' HO_0.out).2.2 | (with_reducible refine Kd.C_alloc ?_ _) | (with_reducible refine Kd.C_drewN ?_ _) | (with_reducible refine Kd.C_drew ?_))); (case side2 => exact (Kd.V_reads' HO_0.out).2.1); (case side3 => repeat (first | exact (Kd.V_reads' HO_1.out).2.2 | (with_reducible refine Kd.C_alloc ?_ _) | (with_reducible refine Kd.C_drewN ?_ _) | (with_reducible refine Kd.C_drew ?_))); (case side4 => exact (Kd.V_reads' HO_1.out).2.1); rintro e w19 ⟨v239, v241, rfl, ho0, ho1, hb⟩; have n0_ := Aside0.mk (Kd.V_mono (Kd.V_told (Kd.V_told (Kd.V_old Z15 hb) (Kd.R_base ho0)) (Kd.R_base ho1)) (fun _ h_ => h_.1)); have n1_ := Aside0.mk (Kd.V_mono (Kd.V_told (Kd.V_told (Kd.V_old Z9 hb) (Kd.R_base ho0)) (Kd.R_base ho1)) (fun _ h_ => h_.1)); have n2_ := Aside0.mk (Kd.R_lower (Kd.R_newM (M := fun k_ => (w.heap.size ≤ k_)) ho0 (below_size Z0) (fun k_ h_ => h_)) (below_size Z0)); have n3_ := Aside0.mk (Kd.R_lower (Kd.R_newM (M := fun k_ => (w.heap.size ≤ k_)) ho1 (below_size Z0) (fun k_ h_ => h_)) (below_size Z0)); have n4_ := Aside0.mk (below_step Z0 hb); clear HO_0; clear HO_1; clear HB; have HO_0 := n0_; have HO_1 := n1_; have HO240 := n2_; have HO242 := n3_; have HB := n4_; clear n0_ n1_ n2_ n3_ n4_; (try clear hb); (try clear hb2); (try clear hk); (try clear hi); (try clear ho0); (try clear ho1)))
                    repeat (go_quiet (first | (go_at_call 82; (with_reducible refine (nat_divided.calls k2 _ _ x0_2 _ _ x1_2 t237 t238 _ ?side1 ?side2 ?side3 ?side4 A16.out).mono ?_); (case side1 => repeat (first | exact (Kd.V_reads' HO_0.out).2.2 | (with_reducible refine Kd.C_alloc ?_ _) | (with_reducible refine Kd.C_drewN ?_ _) | (with_reducible refine Kd.C_drew ?_))); (case side2 => exact (Kd.V_reads' HO_0.out).2.1); (case side3 => repeat (first | exact (Kd.V_reads' HO_1.out).2.2 | (with_reducible refine Kd.C_alloc ?_ _) | (with_reducible refine Kd.C_drewN ?_ _) | (with_reducible refine Kd.C_drew ?_))); (case side4 => exact (Kd.V_reads' HO_1.out).2.1); rintro e w19 ⟨v239, v241, rfl, ho0, ho1, hb⟩; have n0_ := Aside0.mk (Kd.V_mono (Kd.V_told (Kd.V_told (Kd.V_old Z15 hb) (Kd.R_base ho0)) (Kd.R_base ho1)) (fun _ h_ => h_.1)); have n1_ := Aside0.mk (Kd.V_mono (Kd.V_told (Kd.V_told (Kd.V_old Z9 hb) (Kd.R_base ho0)) (Kd.R_base ho1)) (fun _ h_ => h_.1)); have n2_ := Aside0.mk (Kd.R_lower (Kd.R_newM (M := fun k_ => (w.heap.size ≤ k_)) ho0 (below_size Z0) (fun k_ h_ => h_)) (below_size Z0)); have n3_ := Aside0.mk (Kd.R_lower (Kd.R_newM (M := fun k_ => (w.heap.size ≤ k_)) ho1 (below_size Z0) (fun k_ h_ => h_)) (below_size Z0)); have n4_ := Aside0.mk (below_step Z0 hb); clear HO_0; clear HO_1; clear HB; have HO_0 := n0_; have HO_1 := n1_; have HO240 := n2_; have HO242 := n3_; have HB := n4_; clear n0_ n1_ n2_ n3_ n4_; (try clear hb); (try clear hb2); (try clear hk); (try clear hi); (try clear ho0); (try clear ho1))); try go_wp2_with (first | (go_at_call 82; (with_reducible refine (nat_divided.calls k2 _ _ x0_2 _ _ x1_2 t237 t238 _ ?side1 ?side2 ?side3 ?side4 A16.out).mono ?_); (case side1 => repeat (first | exact (Kd.V_reads' HO_0.out).2.2 | (with_reducible refine Kd.C_alloc ?_ _) | (with_reducible refine Kd.C_drewN ?_ _) | (with_reducible refine Kd.C_drew ?_))); (case side2 => exact (Kd.V_reads' HO_0.out).2.1); (case side3 => repeat (first | exact (Kd.V_reads' HO_1.out).2.2 | (with_reducible refine Kd.C_alloc ?_ _) | (with_reducible refine Kd.C_drewN ?_ _) | (with_reducible refine Kd.C_drew ?_))); (case side4 => exact (Kd.V_reads' HO_1.out).2.1); rintro e w19 ⟨v239, v241, rfl, ho0, ho1, hb⟩; have n0_ := Aside0.mk (Kd.V_mono (Kd.V_told (Kd.V_told (Kd.V_old Z15 hb) (Kd.R_base ho0)) (Kd.R_base ho1)) (fun _ h_ => h_.1)); have n1_ := Aside0.mk (Kd.V_mono (Kd.V_told (Kd.V_told (Kd.V_old Z9 hb) (Kd.R_base ho0)) (Kd.R_base ho1)) (fun _ h_ => h_.1)); have n2_ := Aside0.mk (Kd.R_lower (Kd.R_newM (M := fun k_ => (w.heap.size ≤ k_)) ho0 (below_size Z0) (fun k_ h_ => h_)) (below_size Z0)); have n3_ := Aside0.mk (Kd.R_lower (Kd.R_newM (M := fun k_ => (w.heap.size ≤ k_)) ho1 (below_size Z0) (fun k_ h_ => h_)) (below_size Z0)); have n4_ := Aside0.mk (below_step Z0 hb); clear HO_0; clear HO_1; clear HB; have HO_0 := n0_; have HO_1 := n1_; have HO240 := n2_; have HO242 := n3_; have HB := n4_; clear n0_ n1_ n2_ n3_ n4_; (try clear hb); (try clear hb2); (try clear hk); (try clear hi); (try clear ho0); (try clear ho1))))
                    go_roundg k2
                    case measure => have := HJ2.out; have := HK2.out; omega
                    case rel => exact ⟨(x1_2), (t238), H', ⟨by have := HJ2.out; have := HK2.out; omega⟩, ⟨by (with_reducible repeat (first | apply Kd.V_alloc | apply Kd.V_drewN | apply Kd.V_drew)); exact Kd.V_mono HO_1.out (fun _ hk => hk.1.1)⟩, ⟨Kd.V_mono (Kd.R_V (by (with_reducible repeat (first | apply Kd.R_alloc | apply Kd.R_drewN | apply Kd.R_drew)); exact Kd.R_mono HO242.out (fun _ hk => hk.1))) (fun k_ hk => by first | exact ⟨(.inr (hk.1)), hk.2⟩ | exact (.inr (hk)))⟩, ⟨by repeat (first | (with_reducible first | exact HB.out | apply below_alloc | apply pw_below_drewN | apply below_drew1) | exact HB.out)⟩⟩
                  · rw [if_neg c15] at H
                    have c15b0 : decide (2 < (x1_2.length : Int)) = false := decide_eq_false c15
                    have c15b1 : decide (2 < x1_2.length) = false := decide_eq_false (by omega)
                    clear c15
                    have H' := Aside0.mk H
                    clear H
                    obtain ⟨Ao20, co20, eo20⟩ := Kd.V_slice HO_1.out
                    subst eo20
                    obtain ⟨Ao21, co21, eo21⟩ := Kd.V_slice HO_0.out
                    subst eo21
                    go_wp2
                    repeat (go_quiet (fail); try go_wp2)
                    go_meet
                    case rel => exact ⟨_, (x0_2), (x1_2), H', ⟨by have := HJ2.out; have := HK2.out; first | omega | exact Nat.le_refl _⟩, ⟨by (with_reducible repeat (first | apply Kd.V_alloc | apply Kd.V_drewN | apply Kd.V_drew)); exact HO_0.out⟩, ⟨by (with_reducible repeat (first | apply Kd.V_alloc | apply Kd.V_drewN | apply Kd.V_drew)); exact HO_1.out⟩, ⟨by repeat (first | (with_reducible first | exact HB.out | apply below_alloc | apply pw_below_drewN | apply below_drew1) | exact HB.out)⟩⟩
              · rw [if_neg c9] at H
                have c9b0 : decide (0 < (x1_2.length : Int)) = false := decide_eq_false c9
                have c9b1 : decide (0 < x1_2.length) = false := decide_eq_false (by omega)
                clear c9
                (first | rw [c9b0] | (simp only [i64_w, i32_w]; rw [c9b0]) | skip)
                have H' := Aside0.mk H
                clear H
                obtain ⟨Ao22, co22, eo22⟩ := Kd.V_slice HO_1.out
                subst eo22
                go_wp2
                repeat (go_quiet (fail); try go_wp2)
                go_meet
                case rel => exact ⟨_, (x0_2), (x1_2), H', ⟨by have := HJ2.out; have := HK2.out; first | omega | exact Nat.le_refl _⟩, ⟨by (with_reducible repeat (first | apply Kd.V_alloc | apply Kd.V_drewN | apply Kd.V_drew)); exact HO_0.out⟩, ⟨by (with_reducible repeat (first | apply Kd.V_alloc | apply Kd.V_drewN | apply Kd.V_drew)); exact HO_1.out⟩, ⟨by repeat (first | (with_reducible first | exact HB.out | apply below_alloc | apply pw_below_drewN | apply below_drew1) | exact HB.out)⟩⟩
        case rest =>
          clear HC8
          try clear c1
          try clear p2
          try clear c5
          try clear c6
          try clear c7
          try clear c9
          try clear c9b0
          try clear c9b1
          try clear c10
          try clear c10b0
          try clear c10b1
          try clear c15
          try clear c15b0
          try clear c15b1
          try clear p2
          obtain ⟨kq, x0_7, x1_7, HA, HJ7, HO_0, HO_1, HB⟩ := hcut
          cases kq with
          | zero => exact absurd HA.out (by simp [nat_Gcd.j2])
          | succ kj7 =>
            have H := HA.out
            clear HA
            simp only [nat_Gcd.j2] at H
            by_cases c23 : (x1_7.length : Int) = 0
            · rw [if_pos c23] at H
              have c23b0 : ((x1_7.length : Int) == 0) = true := beq_iff_eq.mpr c23
              have c23b1 : ((x1_7.length : Int) != 0) = false := bne_eq_false_iff_eq.mpr c23
              clear c23
              replace H := Option.bind_eq_some_iff.mp H
              obtain ⟨t243, A240, H⟩ := H
              replace H : ((nat_trimmed.f kj7 t243).bind fun t246 => (some (t246, 0))) = some (r1, r2) := H
              have A24 := Aside0.mk A240
              clear A240
              replace H := Option.bind_eq_some_iff.mp H
              obtain ⟨t246, A250, H⟩ := H
              replace H : (some (t246, 0)) = some (r1, r2) := H
              have A25 := Aside0.mk A250
              clear A250
              simp only [Option.some.injEq, Prod.mk.injEq] at H
              obtain ⟨rfl, rfl⟩ := H
              obtain ⟨Ao26, co26, eo26⟩ := Kd.V_slice HO_1.out
              subst eo26
              obtain ⟨Ao27, co27, eo27⟩ := Kd.V_slice HO_0.out
              subst eo27
              go_wp2_with (first | (go_at_call 84; (with_reducible refine (nat_padded.calls _ _ x0_7 (x0_7.length : Int) t243 _ ?side1 ?side2 A24.out).mono ?_); (case side1 => repeat (first | exact (Kd.V_reads' HO_0.out).2.2 | (with_reducible refine Kd.C_alloc ?_ _) | (with_reducible refine Kd.C_drewN ?_ _) | (with_reducible refine Kd.C_drew ?_))); (case side2 => exact (Kd.V_reads' HO_0.out).2.1); rintro e w28 ⟨v244, rfl, ho0, hb⟩; have n0_ := Aside0.mk (Kd.V_elder' Z15 (Kd.R_base ho0) hb); have n1_ := Aside0.mk (Kd.V_elder' Z9 (Kd.R_base ho0) hb); have n2_ := Aside0.mk (Kd.R_lower (Kd.R_newM (M := fun k_ => (w.heap.size ≤ k_)) ho0 (below_size Z0) (fun k_ h_ => h_)) (below_size Z0)); have n3_ := Aside0.mk (below_step Z0 hb); clear HO_0; clear HO_1; clear HB; have HO_0 := n0_; have HO_1 := n1_; have HO245 := n2_; have HB := n3_; clear n0_ n1_ n2_ n3_; (try clear hb); (try clear hb2); (try clear hk); (try clear hi); (try clear ho0); obtain ⟨Ao29, co29, eo29⟩ := Kd.R_slice HO245.out; subst eo29) | (go_at_call 83; (with_reducible refine (nat_trimmed.calls kj7 (fun k_ => some k_ = (.slice Ao29 t243.length co29 : Value).ownBlock) (.slice Ao29 t243.length co29) t243 t246 w _ ?side1 ?side2 A25.out).mono ?_); (case side1 => repeat (first | (with_reducible first | exact HB.out | apply below_alloc | apply pw_below_drewN | apply below_drew1) | exact HB.out)); (case side2 => exact Kd.R_tight rfl HO245.out); rintro e w30 ⟨v247, rfl, ho0, hb, hkp⟩; have n0_ := Aside0.mk (Kd.V_mono (ok' := fun k_ => ((P0_ k_ ∨ P1_ k_) ∨ w.heap.size ≤ k_) ∧ some k_ ≠ (v247 : Value).ownBlock) (Kd.V_keptB (HO_0.out) hkp (fun k_ hk_ hs_ => (hk_.2) hs_)) (fun k_ hk_ => ⟨hk_.1.1, fun e_ => Or.elim (ho0.1 k_ e_.symm) (fun hs_ => hk_.2.1 hs_) (fun hn_ => Nat.not_le.2 hk_.2.2 hn_)⟩)); have n1_ := Aside0.mk (Kd.V_mono (ok' := fun k_ => ((P0_ k_ ∨ P1_ k_) ∨ w.heap.size ≤ k_) ∧ some k_ ≠ (v247 : Value).ownBlock) (Kd.V_keptB (HO_1.out) hkp (fun k_ hk_ hs_ => (hk_.2) hs_)) (fun k_ hk_ => ⟨hk_.1.1, fun e_ => Or.elim (ho0.1 k_ e_.symm) (fun hs_ => hk_.2.1 hs_) (fun hn_ => Nat.not_le.2 hk_.2.2 hn_)⟩)); have n2_ := Aside0.mk (Kd.R_mono (ok' := fun k_ => (w.heap.size ≤ k_)) ho0 (fun k_ hk_ => Or.elim hk_ (fun hs_ => (HO245.out.1 k_ (hs_).symm).1) (fun hn_ => (Nat.le_trans (below_size Z0) hn_)))); have n3_ := Aside0.mk (hb); clear HO_0; clear HO_1; clear HB; clear HO245; have HO_0 := n0_; have HO_1 := n1_; have HO248 := n2_; have HB := n3_; clear n0_ n1_ n2_ n3_; (try clear hb); (try clear hkp); (try clear ho0)))
              repeat (go_quiet (first | (go_at_call 84; (with_reducible refine (nat_padded.calls _ _ x0_7 (x0_7.length : Int) t243 _ ?side1 ?side2 A24.out).mono ?_); (case side1 => repeat (first | exact (Kd.V_reads' HO_0.out).2.2 | (with_reducible refine Kd.C_alloc ?_ _) | (with_reducible refine Kd.C_drewN ?_ _) | (with_reducible refine Kd.C_drew ?_))); (case side2 => exact (Kd.V_reads' HO_0.out).2.1); rintro e w28 ⟨v244, rfl, ho0, hb⟩; have n0_ := Aside0.mk (Kd.V_elder' Z15 (Kd.R_base ho0) hb); have n1_ := Aside0.mk (Kd.V_elder' Z9 (Kd.R_base ho0) hb); have n2_ := Aside0.mk (Kd.R_lower (Kd.R_newM (M := fun k_ => (w.heap.size ≤ k_)) ho0 (below_size Z0) (fun k_ h_ => h_)) (below_size Z0)); have n3_ := Aside0.mk (below_step Z0 hb); clear HO_0; clear HO_1; clear HB; have HO_0 := n0_; have HO_1 := n1_; have HO245 := n2_; have HB := n3_; clear n0_ n1_ n2_ n3_; (try clear hb); (try clear hb2); (try clear hk); (try clear hi); (try clear ho0); obtain ⟨Ao29, co29, eo29⟩ := Kd.R_slice HO245.out; subst eo29) | (go_at_call 83; (with_reducible refine (nat_trimmed.calls kj7 (fun k_ => some k_ = (.slice Ao29 t243.length co29 : Value).ownBlock) (.slice Ao29 t243.length co29) t243 t246 w _ ?side1 ?side2 A25.out).mono ?_); (case side1 => repeat (first | (with_reducible first | exact HB.out | apply below_alloc | apply pw_below_drewN | apply below_drew1) | exact HB.out)); (case side2 => exact Kd.R_tight rfl HO245.out); rintro e w30 ⟨v247, rfl, ho0, hb, hkp⟩; have n0_ := Aside0.mk (Kd.V_mono (ok' := fun k_ => ((P0_ k_ ∨ P1_ k_) ∨ w.heap.size ≤ k_) ∧ some k_ ≠ (v247 : Value).ownBlock) (Kd.V_keptB (HO_0.out) hkp (fun k_ hk_ hs_ => (hk_.2) hs_)) (fun k_ hk_ => ⟨hk_.1.1, fun e_ => Or.elim (ho0.1 k_ e_.symm) (fun hs_ => hk_.2.1 hs_) (fun hn_ => Nat.not_le.2 hk_.2.2 hn_)⟩)); have n1_ := Aside0.mk (Kd.V_mono (ok' := fun k_ => ((P0_ k_ ∨ P1_ k_) ∨ w.heap.size ≤ k_) ∧ some k_ ≠ (v247 : Value).ownBlock) (Kd.V_keptB (HO_1.out) hkp (fun k_ hk_ hs_ => (hk_.2) hs_)) (fun k_ hk_ => ⟨hk_.1.1, fun e_ => Or.elim (ho0.1 k_ e_.symm) (fun hs_ => hk_.2.1 hs_) (fun hn_ => Nat.not_le.2 hk_.2.2 hn_)⟩)); have n2_ := Aside0.mk (Kd.R_mono (ok' := fun k_ => (w.heap.size ≤ k_)) ho0 (fun k_ hk_ => Or.elim hk_ (fun hs_ => (HO245.out.1 k_ (hs_).symm).1) (fun hn_ => (Nat.le_trans (below_size Z0) hn_)))); have n3_ := Aside0.mk (hb); clear HO_0; clear HO_1; clear HB; clear HO245; have HO_0 := n0_; have HO_1 := n1_; have HO248 := n2_; have HB := n3_; clear n0_ n1_ n2_ n3_; (try clear hb); (try clear hkp); (try clear ho0))); try go_wp2_with (first | (go_at_call 84; (with_reducible refine (nat_padded.calls _ _ x0_7 (x0_7.length : Int) t243 _ ?side1 ?side2 A24.out).mono ?_); (case side1 => repeat (first | exact (Kd.V_reads' HO_0.out).2.2 | (with_reducible refine Kd.C_alloc ?_ _) | (with_reducible refine Kd.C_drewN ?_ _) | (with_reducible refine Kd.C_drew ?_))); (case side2 => exact (Kd.V_reads' HO_0.out).2.1); rintro e w28 ⟨v244, rfl, ho0, hb⟩; have n0_ := Aside0.mk (Kd.V_elder' Z15 (Kd.R_base ho0) hb); have n1_ := Aside0.mk (Kd.V_elder' Z9 (Kd.R_base ho0) hb); have n2_ := Aside0.mk (Kd.R_lower (Kd.R_newM (M := fun k_ => (w.heap.size ≤ k_)) ho0 (below_size Z0) (fun k_ h_ => h_)) (below_size Z0)); have n3_ := Aside0.mk (below_step Z0 hb); clear HO_0; clear HO_1; clear HB; have HO_0 := n0_; have HO_1 := n1_; have HO245 := n2_; have HB := n3_; clear n0_ n1_ n2_ n3_; (try clear hb); (try clear hb2); (try clear hk); (try clear hi); (try clear ho0); obtain ⟨Ao29, co29, eo29⟩ := Kd.R_slice HO245.out; subst eo29) | (go_at_call 83; (with_reducible refine (nat_trimmed.calls kj7 (fun k_ => some k_ = (.slice Ao29 t243.length co29 : Value).ownBlock) (.slice Ao29 t243.length co29) t243 t246 w _ ?side1 ?side2 A25.out).mono ?_); (case side1 => repeat (first | (with_reducible first | exact HB.out | apply below_alloc | apply pw_below_drewN | apply below_drew1) | exact HB.out)); (case side2 => exact Kd.R_tight rfl HO245.out); rintro e w30 ⟨v247, rfl, ho0, hb, hkp⟩; have n0_ := Aside0.mk (Kd.V_mono (ok' := fun k_ => ((P0_ k_ ∨ P1_ k_) ∨ w.heap.size ≤ k_) ∧ some k_ ≠ (v247 : Value).ownBlock) (Kd.V_keptB (HO_0.out) hkp (fun k_ hk_ hs_ => (hk_.2) hs_)) (fun k_ hk_ => ⟨hk_.1.1, fun e_ => Or.elim (ho0.1 k_ e_.symm) (fun hs_ => hk_.2.1 hs_) (fun hn_ => Nat.not_le.2 hk_.2.2 hn_)⟩)); have n1_ := Aside0.mk (Kd.V_mono (ok' := fun k_ => ((P0_ k_ ∨ P1_ k_) ∨ w.heap.size ≤ k_) ∧ some k_ ≠ (v247 : Value).ownBlock) (Kd.V_keptB (HO_1.out) hkp (fun k_ hk_ hs_ => (hk_.2) hs_)) (fun k_ hk_ => ⟨hk_.1.1, fun e_ => Or.elim (ho0.1 k_ e_.symm) (fun hs_ => hk_.2.1 hs_) (fun hn_ => Nat.not_le.2 hk_.2.2 hn_)⟩)); have n2_ := Aside0.mk (Kd.R_mono (ok' := fun k_ => (w.heap.size ≤ k_)) ho0 (fun k_ hk_ => Or.elim hk_ (fun hs_ => (HO245.out.1 k_ (hs_).symm).1) (fun hn_ => (Nat.le_trans (below_size Z0) hn_)))); have n3_ := Aside0.mk (hb); clear HO_0; clear HO_1; clear HB; clear HO245; have HO_0 := n0_; have HO_1 := n1_; have HO248 := n2_; have HB := n3_; clear n0_ n1_ n2_ n3_; (try clear hb); (try clear hkp); (try clear ho0))))
              go_ret2
              exact ⟨_, by first | rfl | (simp [errW_none, errW_some] <;> rfl) | (simp [*, errW_none, errW_some] <;> rfl), by (with_reducible repeat (first | apply Kd.R_alloc | apply Kd.R_drewN | apply Kd.R_drew)); exact HO248.out, by repeat (first | (with_reducible first | exact HB.out | apply below_alloc | apply pw_below_drewN | apply below_drew1) | exact HB.out)⟩
            · rw [if_neg c23] at H
              have c23b0 : ((x1_7.length : Int) == 0) = false := beq_eq_false_iff_ne.mpr c23
              have c23b1 : ((x1_7.length : Int) != 0) = true := bne_iff_ne.mpr c23
              have c23b2 : ¬ (x1_7 = []) := fun h_ => c23 (by rw [h_]; rfl)
              replace H := Option.bind_eq_some_iff.mp H
              obtain ⟨t249, A310, H⟩ := H
              replace H : ((nat_small.f kj7 x1_7).bind fun t250 => (nat_Gcd.l1 kj7 t249 t250)) = some (r1, r2) := H
              have A31 := Aside0.mk A310
              clear A310
              replace H := Option.bind_eq_some_iff.mp H
              obtain ⟨t250, A320, H⟩ := H
              replace H : (nat_Gcd.l1 kj7 t249 t250) = some (r1, r2) := H
              have A32 := Aside0.mk A320
              clear A320
              have H' := Aside0.mk H
              clear H
              obtain ⟨Ao33, co33, eo33⟩ := Kd.V_slice HO_1.out
              subst eo33
              obtain ⟨Ao34, co34, eo34⟩ := Kd.V_slice HO_0.out
              subst eo34
              go_wp2_with (first | (go_at_call 85; (with_reducible refine (nat_small.calls kj7 _ _ x0_7 t249 _ ?side1 ?side2 A31.out).mono ?_); (case side1 => repeat (first | exact (Kd.V_reads' HO_0.out).2.2 | (with_reducible refine Kd.C_alloc ?_ _) | (with_reducible refine Kd.C_drewN ?_ _) | (with_reducible refine Kd.C_drew ?_))); (case side2 => exact (Kd.V_reads' HO_0.out).2.1); rintro e w' ⟨rfl, ⟨nd, rfl⟩⟩; (try first | exact ⟨rfl, _, World.drewN_drewN _ _ _⟩ | exact ⟨rfl, _, Eq.trans (World.drewN_drewN _ _ _) (congrArg (World.drewN _) (Nat.add_assoc _ _ _))⟩)) | (go_at_call 85; (with_reducible refine (nat_small.calls kj7 _ _ x1_7 t250 _ ?side1 ?side2 A32.out).mono ?_); (case side1 => repeat (first | exact (Kd.V_reads' HO_1.out).2.2 | (with_reducible refine Kd.C_alloc ?_ _) | (with_reducible refine Kd.C_drewN ?_ _) | (with_reducible refine Kd.C_drew ?_))); (case side2 => exact (Kd.V_reads' HO_1.out).2.1); rintro e w' ⟨rfl, ⟨nd, rfl⟩⟩; (try first | exact ⟨rfl, _, World.drewN_drewN _ _ _⟩ | exact ⟨rfl, _, Eq.trans (World.drewN_drewN _ _ _) (congrArg (World.drewN _) (Nat.add_assoc _ _ _))⟩)))
              repeat (go_quiet (first | (go_at_call 85; (with_reducible refine (nat_small.calls kj7 _ _ x0_7 t249 _ ?side1 ?side2 A31.out).mono ?_); (case side1 => repeat (first | exact (Kd.V_reads' HO_0.out).2.2 | (with_reducible refine Kd.C_alloc ?_ _) | (with_reducible refine Kd.C_drewN ?_ _) | (with_reducible refine Kd.C_drew ?_))); (case side2 => exact (Kd.V_reads' HO_0.out).2.1); rintro e w' ⟨rfl, ⟨nd, rfl⟩⟩; (try first | exact ⟨rfl, _, World.drewN_drewN _ _ _⟩ | exact ⟨rfl, _, Eq.trans (World.drewN_drewN _ _ _) (congrArg (World.drewN _) (Nat.add_assoc _ _ _))⟩)) | (go_at_call 85; (with_reducible refine (nat_small.calls kj7 _ _ x1_7 t250 _ ?side1 ?side2 A32.out).mono ?_); (case side1 => repeat (first | exact (Kd.V_reads' HO_1.out).2.2 | (with_reducible refine Kd.C_alloc ?_ _) | (with_reducible refine Kd.C_drewN ?_ _) | (with_reducible refine Kd.C_drew ?_))); (case side2 => exact (Kd.V_reads' HO_1.out).2.1); rintro e w' ⟨rfl, ⟨nd, rfl⟩⟩; (try first | exact ⟨rfl, _, World.drewN_drewN _ _ _⟩ | exact ⟨rfl, _, Eq.trans (World.drewN_drewN _ _ _) (congrArg (World.drewN _) (Nat.add_assoc _ _ _))⟩))); try go_wp2_with (first | (go_at_call 85; (with_reducible refine (nat_small.calls kj7 _ _ x0_7 t249 _ ?side1 ?side2 A31.out).mono ?_); (case side1 => repeat (first | exact (Kd.V_reads' HO_0.out).2.2 | (with_reducible refine Kd.C_alloc ?_ _) | (with_reducible refine Kd.C_drewN ?_ _) | (with_reducible refine Kd.C_drew ?_))); (case side2 => exact (Kd.V_reads' HO_0.out).2.1); rintro e w' ⟨rfl, ⟨nd, rfl⟩⟩; (try first | exact ⟨rfl, _, World.drewN_drewN _ _ _⟩ | exact ⟨rfl, _, Eq.trans (World.drewN_drewN _ _ _) (congrArg (World.drewN _) (Nat.add_assoc _ _ _))⟩)) | (go_at_call 85; (with_reducible refine (nat_small.calls kj7 _ _ x1_7 t250 _ ?side1 ?side2 A32.out).mono ?_); (case side1 => repeat (first | exact (Kd.V_reads' HO_1.out).2.2 | (with_reducible refine Kd.C_alloc ?_ _) | (with_reducible refine Kd.C_drewN ?_ _) | (with_reducible refine Kd.C_drew ?_))); (case side2 => exact (Kd.V_reads' HO_1.out).2.1); rintro e w' ⟨rfl, ⟨nd, rfl⟩⟩; (try first | exact ⟨rfl, _, World.drewN_drewN _ _ _⟩ | exact ⟨rfl, _, Eq.trans (World.drewN_drewN _ _ _) (congrArg (World.drewN _) (Nat.add_assoc _ _ _))⟩))))
              go_loopg [8, 9] kj7 (fun kq v8 v9 w' => ∃ (x8_3 : Int) (x9_3 : Int), v8 = .int .i64 x8_3 ∧ v9 = .int .i64 x9_3 ∧ Aside0 (nat_Gcd.l1 kq x8_3 x9_3 = some (r1, r2)) ∧ Aside0 (kq ≤ kj7) ∧ Aside0 (Below w.heap.size w w'))
              case atStart => exact ⟨(t249), (t250), Z4, Z4, H', ⟨Nat.le_refl _⟩, ⟨by repeat (first | (with_reducible first | exact HB.out | apply below_alloc | apply pw_below_drewN | apply below_drew1) | exact HB.out)⟩⟩
              case round =>
                clear H'
                try clear c1
                try clear c2
                try clear p2
                try clear c5
                try clear c6
                try clear c7
                try clear c9
                try clear c9b0
                try clear c9b1
                try clear c10
                try clear c10b0
                try clear c10b1
                try clear c15
                try clear c15b0
                try clear c15b1
                try clear c23
                try clear c23b0
                try clear c23b1
                try clear c23b2
                try clear p2
                obtain ⟨x8_3, x9_3, rfl, rfl, HA, HK3, HB⟩ := hrel
                cases gk with
                | zero => exact absurd HA.out (by simp [nat_Gcd.l1])
                | succ k3 =>
                  have H := HA.out
                  clear HA
                  simp only [nat_Gcd.l1] at H
                  by_cases c35 : x9_3 > 0
                  · rw [if_pos c35] at H
                    have c35b0 : decide (0 < x9_3) = true := decide_eq_true c35
                    clear c35
                    by_cases c36 : x9_3 = 0
                    · rw [if_pos c36] at H
                      exact absurd H (by simp)
                    · rw [if_neg c36] at H
                      have c36b0 : (x9_3 == 0) = false := beq_eq_false_iff_ne.mpr c36
                      have c36b1 : (x9_3 != 0) = true := bne_iff_ne.mpr c36
                      have H' := Aside0.mk H
                      clear H
                      go_wp2
                      repeat (go_quiet (fail); try go_wp2)
                      go_roundg k3
                      case measure => have := HJ2.out; have := HJ7.out; have := HK3.out; omega
                      case rel => exact ⟨(x9_3), (Int.tmod x8_3 x9_3), Z4, Z4, H', ⟨by have := HJ2.out; have := HJ7.out; have := HK3.out; omega⟩, ⟨by repeat (first | (with_reducible first | exact HB.out | apply below_alloc | apply pw_below_drewN | apply below_drew1) | exact HB.out)⟩⟩
                  · rw [if_neg c35] at H
                    have c35b0 : decide (0 < x9_3) = false := decide_eq_false c35
                    clear c35
                    replace H := Option.bind_eq_some_iff.mp H
                    obtain ⟨⟨t251, t252⟩, A370, H⟩ := H
                    replace H : (some (t251, t252)) = some (r1, r2) := H
                    have A37 := Aside0.mk A370
                    clear A370
                    simp only [Option.some.injEq, Prod.mk.injEq] at H
                    obtain ⟨rfl, rfl⟩ := H
                    go_wp2_with (first | (go_at_call 81; (with_reducible refine (nat_Of.calls k3 x8_3 t251 t252 _ A37.out).mono ?_); rintro e w38 ⟨v253, rfl, ho0, hb⟩; have n0_ := Aside0.mk (Kd.R_lower (Kd.R_newM (M := fun k_ => (w.heap.size ≤ k_)) ho0 (below_size Z0) (fun k_ h_ => h_)) (below_size Z0)); have n1_ := Aside0.mk (below_step Z0 hb); clear HB; have HO254 := n0_; have HB := n1_; clear n0_ n1_; (try clear hb); (try clear hb2); (try clear hk); (try clear hi); (try clear ho0)))
                    repeat (go_quiet (first | (go_at_call 81; (with_reducible refine (nat_Of.calls k3 x8_3 t251 t252 _ A37.out).mono ?_); rintro e w38 ⟨v253, rfl, ho0, hb⟩; have n0_ := Aside0.mk (Kd.R_lower (Kd.R_newM (M := fun k_ => (w.heap.size ≤ k_)) ho0 (below_size Z0) (fun k_ h_ => h_)) (below_size Z0)); have n1_ := Aside0.mk (below_step Z0 hb); clear HB; have HO254 := n0_; have HB := n1_; clear n0_ n1_; (try clear hb); (try clear hb2); (try clear hk); (try clear hi); (try clear ho0))); try go_wp2_with (first | (go_at_call 81; (with_reducible refine (nat_Of.calls k3 x8_3 t251 t252 _ A37.out).mono ?_); rintro e w38 ⟨v253, rfl, ho0, hb⟩; have n0_ := Aside0.mk (Kd.R_lower (Kd.R_newM (M := fun k_ => (w.heap.size ≤ k_)) ho0 (below_size Z0) (fun k_ h_ => h_)) (below_size Z0)); have n1_ := Aside0.mk (below_step Z0 hb); clear HB; have HO254 := n0_; have HB := n1_; clear n0_ n1_; (try clear hb); (try clear hb2); (try clear hk); (try clear hi); (try clear ho0))))
                    go_ret2
                    exact ⟨_, by first | rfl | (simp [errW_none, errW_some] <;> rfl) | (simp [*, errW_none, errW_some] <;> rfl), by (with_reducible repeat (first | apply Kd.R_alloc | apply Kd.R_drewN | apply Kd.R_drew)); exact Kd.R_mono HO254.out (fun _ hk => hk.1), by repeat (first | (with_reducible first | exact HB.out | apply below_alloc | apply pw_below_drewN | apply below_drew1) | exact HB.out)⟩
end Go.Proofs.Ytbjamhkhocjdkaa.Px
namespace Go.Proofs.Ytbjamhkhocjdkaa.Px
open Go.RowKit Go.Proofs.YtbjamhkhocjdkaaW.PrintWords Go.Proofs.YtbjamhkhocjdkaaW.PrintLast Go.Proofs.YtbjamhkhocjdkaaW.PrintMore Go.Proofs.Ytbjamhkhocjdkaa.Mat
set_option linter.unusedVariables false
def gcdI (x y : Int) : Int := (Nat.gcd x.toNat y.toNat : Nat)
theorem gcdI_step {x y : Int} (hx : 0 ≤ x) (hy : 0 < y) : gcdI x y = gcdI y (x % y) := by
  unfold gcdI
  have e : (x % y).toNat = x.toNat % y.toNat := Int.toNat_emod hx (Int.le_of_lt hy)
  rw [e, Nat.gcd_comm, Nat.gcd_rec, Nat.gcd_comm]
theorem gcdI_zero {x : Int} (hx : 0 ≤ x) : gcdI x 0 = x := by unfold gcdI; simp; omega
theorem gcdI_nonneg (x y : Int) : 0 ≤ gcdI x y := by unfold gcdI; omega
theorem gcdI_le_left {x y : Int} (hx : 0 < x) : gcdI x y ≤ x := by
  unfold gcdI
  have := Nat.gcd_le_left (m := x.toNat) y.toNat (by omega)
  omega
theorem gcdI_comm (x y : Int) : gcdI x y = gcdI y x := by unfold gcdI; rw [Nat.gcd_comm]
theorem gcdI_le_right {x y : Int} (hy : 0 < y) : gcdI x y ≤ y := by rw [gcdI_comm]; exact gcdI_le_left hy
theorem ev_Gcd_l1 : ∀ (n : Nat) (x y : Int), y < n → 0 ≤ y → 0 ≤ x → x ≤ 9000000000000000000 → y ≤ 9000000000000000000 → Ev (fun k => nat_Gcd.l1 k x y) (dg (gcdI x y), 0) := by
  intro n
  induction n with
  | zero => intro x y h h0; omega
  | succ n ih =>
    intro x y h h0 hx hx1 hy1
    by_cases c : y > 0
    · have h1 := Int.emod_nonneg x (show y ≠ 0 by omega)
      have h2 := Int.emod_lt_of_pos x c
      have := ih y (x % y) (by omega) h1 h0 hy1 (by omega)
      rw [← gcdI_step hx c] at this
      refine Ev.step (fun k => ?_) this
      simp only [nat_Gcd.l1]
      rw [if_pos c, if_neg (by omega), tmod_e hx]
    · have hy : y = 0 := by omega
      subst hy
      rw [gcdI_zero hx]
      have := ev_Of x (by omega)
      unfold ofS at this
      rw [if_neg (by omega)] at this
      refine Ev.step (fun k => ?_) this
      simp only [nat_Gcd.l1]
      rw [if_neg c]
      cases nat_Of.f k x with
      | none => rfl
      | some p => rfl
theorem ev_Gcd_j2 (a b : List Int) (ha : Ok a) (hb : Ok b) (h : b = [] ∨ a.length ≤ 2 ∧ b.length ≤ 2) : Ev (fun k => nat_Gcd.j2 k a b) (dg (gcdI (val a) (val b)), 0) := by
  have hal := ha.1
  have ha0 := ha.nonneg
  have hb0 := hb.nonneg
  by_cases c : b = []
  · subst c
    have e : val ([] : List Int) = 0 := rfl
    rw [e, gcdI_zero ha0]
    refine Ev.step (f := fun k => (nat_trimmed.f k a).bind fun t => some (t, 0)) (fun k => ?_) (Ev.bind (ev_trimmed a ha.2.1 (by omega)) (Ev.now _))
    simp only [nat_Gcd.j2]
    rw [if_pos (by simp), padded_e _ _ (by omega) (by omega), Option.bind_some]
    have e : ((a.length : Int)).toNat - a.length = 0 := by omega
    rw [e]; simp
  · have h2 := h.resolve_left c
    have hbl : b.length ≠ 0 := fun e => c (List.eq_nil_of_length_eq_zero e)
    have l1 := val_lt ha.2.1
    have l2 := val_lt hb.2.1
    have l3 := pw_le h2.1
    have l4 := pw_le h2.2
    rw [pw_two] at l3 l4
    refine Ev.step (f := fun k => (nat_small.f k a).bind fun x => (nat_small.f k b).bind fun y => nat_Gcd.l1 k x y) (fun k => ?_) (Ev.bind (ev_small a ha.2.1 h2.1) (Ev.bind (ev_small b hb.2.1 h2.2) (ev_Gcd_l1 ((val b).toNat + 1) (val a) (val b) (by omega) hb0 ha0 (by omega) (by omega))))
    simp only [nat_Gcd.j2]
    rw [if_neg (by omega)]
theorem ev_Gcd_l0 : ∀ (n : Nat) (a b : List Int), val b < n → Ok a → Ok b → Ev (fun k => nat_Gcd.l0 k a b) (dg (gcdI (val a) (val b)), 0) := by
  intro n
  induction n with
  | zero => intro a b h ha hb; have := hb.nonneg; omega
  | succ n ih =>
    intro a b h ha hb
    have hal := ha.1
    by_cases c : b = []
    · subst c
      refine Ev.step (fun k => ?_) (ev_Gcd_j2 a [] ha hb (.inl rfl))
      simp only [nat_Gcd.l0]
      rw [if_neg (by simp)]
    · have hbl : b.length ≠ 0 := fun e => c (List.eq_nil_of_length_eq_zero e)
      have hbp := val_pos hb.2 c
      have h1 := Int.emod_nonneg (val a) (show val b ≠ 0 by omega)
      have h2 := Int.emod_lt_of_pos (val a) hbp
      have hlt := hb.lt
      have hrec := ih b (dg (val a % val b)) (by rw [val_dg h1]; omega) hb (ok_dg h1 (by omega))
      rw [val_dg h1, ← gcdI_step ha.nonneg hbp] at hrec
      by_cases c2 : a.length > 2
      · refine Ev.step (fun k => ?_) (Ev.bind (ev_divided a b ha.2 hb.2 (by omega) c) hrec (f := fun k p => nat_Gcd.l0 k b p.2))
        simp only [nat_Gcd.l0]
        rw [if_pos (by omega), if_pos (by omega)]
      · by_cases c3 : b.length > 2
        · refine Ev.step (fun k => ?_) (Ev.bind (ev_divided a b ha.2 hb.2 (by omega) c) hrec (f := fun k p => nat_Gcd.l0 k b p.2))
          simp only [nat_Gcd.l0]
          rw [if_pos (by omega), if_neg (by omega), if_pos (by omega)]
        · refine Ev.step (fun k => ?_) (ev_Gcd_j2 a b ha hb (.inr ⟨by omega, by omega⟩))
          simp only [nat_Gcd.l0]
          rw [if_pos (by omega), if_neg (by omega), if_neg (by omega)]
def gcdS (a b : List Int) : List Int × Int := if okN a = true ∧ okN b = true then (dg (gcdI (val a) (val b)), 0) else ([], 3)
theorem ev_Gcd (a b : List Int) : Ev (fun k => nat_Gcd.f k a b) (gcdS a b) := by
  unfold gcdS
  by_cases ca : okN a = true
  · by_cases cb : okN b = true
    · rw [if_pos ⟨ca, cb⟩]
      have oa := okN_iff.1 ca
      have ob := okN_iff.1 cb
      refine Ev.bind (ev_Valid a) ?_
      rw [ca]
      simp only [if_true]
      refine Ev.bind (ev_Valid b) ?_
      rw [cb]
      refine Ev.step (fun k => ?_) (ev_Gcd_l0 ((val b).toNat + 1) a b (by have := ob.nonneg; omega) oa ob)
      simp [nat_Gcd.j0]
    · rw [if_neg (fun h => cb h.2)]
      refine Ev.bind (ev_Valid a) ?_
      rw [ca]
      simp only [if_true]
      refine Ev.bind (ev_Valid b) ?_
      rw [Bool.eq_false_iff.2 cb]
      refine Ev.step (f := fun _ => some _) (fun k => ?_) (Ev.now _)
      simp [nat_Gcd.j0]
  · rw [if_neg (fun h => ca h.1)]
    refine Ev.bind (ev_Valid a) ?_
    rw [Bool.eq_false_iff.2 ca]
    simp only [Bool.false_eq_true, if_false]
    refine Ev.step (f := fun _ => some _) (fun k => ?_) (Ev.now _)
    simp [nat_Gcd.j0]
end Go.Proofs.Ytbjamhkhocjdkaa.Px
