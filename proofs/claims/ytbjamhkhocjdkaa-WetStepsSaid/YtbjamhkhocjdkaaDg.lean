/- One step on the way to the rows: contracts of the program's functions, each for every argument that its statement names. -/
import Derived.Test.YtbjamhkhocjdkaaDd
import Derived.Test.YtbjamhkhocjdkaaDf
namespace Go.Proofs.Ytbjamhkhocjdkaa.Px
open Go.RowKit Go.Proofs.YtbjamhkhocjdkaaW.PrintWords Go.Proofs.YtbjamhkhocjdkaaW.PrintLast Go.Proofs.YtbjamhkhocjdkaaW.PrintMore
set_option linter.unusedVariables false
set_option linter.unusedSimpArgs false
mutual
def papermillref02_DivMod.j0 : Nat → List Int → List Int → Bool → Option (List Int × List Int × Int)
  | 0, _, _, _ => none
  | k + 1, x0, x1, x18 => if x18 = true then (some (([] : List Int), ([] : List Int), 3)) else (if (x1.length : Int) = 0 then (some (([] : List Int), ([] : List Int), 16)) else (if 0 ≤ (x0.length : Int) then (if ((x0.length : Int) : Int).toNat ≤ 35184372088832 then (papermillref02_DivMod.l0 k x0 x1 (List.replicate ((x0.length : Int) : Int).toNat 0) ([] : List Int) (wrap64 ((x0.length : Int) - 1))) else (none)) else (none)))
def papermillref02_DivMod.l0 : Nat → List Int → List Int → List Int → List Int → Int → Option (List Int × List Int × Int)
  | 0, _, _, _, _, _ => none
  | k + 1, x0, x1, x7, x8, x9 => if x9 ≥ 0 then (if 0 ≤ x9 then (if x9 < (x0.length : Int) then ((some (([rd x0 x9] : List Int) : List Int)).bind fun y354 => (if y354.length + x8.length < 17592186044416 then ((some (y354 ++ x8 : List Int)).bind fun y357 => (if 0 ≤ (wrap64 ((y357.length : Int) - 1)) then (if (wrap64 ((y357.length : Int) - 1)) < (y357.length : Int) then (if (rd y357 (wrap64 ((y357.length : Int) - 1))) = 0 then (papermillref02_DivMod.j2 k x0 x1 x7 ([] : List Int) x9) else (papermillref02_DivMod.j2 k x0 x1 x7 y357 x9)) else (none)) else (none))) else (none))) else (none)) else (none)) else ((papermillref02_fit.f k x7).bind fun bt349 => (some (bt349.1, x8, 0)))
def papermillref02_DivMod.j2 : Nat → List Int → List Int → List Int → List Int → Int → Option (List Int × List Int × Int)
  | 0, _, _, _, _, _ => none
  | k + 1, x0, x1, x7, x8, x9 => (papermillref02_digit.f k x8 x1).bind fun t361 => (if 0 ≤ x9 then (if x9 < (x7.length : Int) then ((some (x7.set (x9 : Int).toNat t361 : List Int)).bind fun y362 => (if t361 > 0 then ((papermillref02_times.f k x1 (([t361] : List Int))).bind fun t366 => ((papermillref02_minus.f k x8 t366).bind fun t369 => (papermillref02_DivMod.l0 k x0 x1 y362 t369 (wrap64 (x9 - 1))))) else (papermillref02_DivMod.l0 k x0 x1 y362 x8 (wrap64 (x9 - 1))))) else (none)) else (none))
end
def papermillref02_DivMod.f (k : Nat) (l0 : List Int) (l1 : List Int) : Option (List Int × List Int × Int) := (papermillref02_Valid.f k l0).bind fun t344 => (if t344 = true then ((papermillref02_Valid.f k l1).bind fun t345 => (papermillref02_DivMod.j0 k l0 l1 (!t345))) else (papermillref02_DivMod.j0 k l0 l1 true))
set_option maxHeartbeats 8000000 in
set_option maxRecDepth 100000 in
theorem papermillref02_DivMod.calls (k : Nat) (A0 : Option Addr) (c0 : Nat) (l0 : List Int) (A1 : Option Addr) (c1 : Nat) (l1 : List Int) (r1 : List Int) (r2 : List Int) (r3 : Int) (w : World) (hr0 : Kd.C (Kd.int .i64) w A0 l0.length l0) (hc0 : l0.length ≤ c0) (hr1 : Kd.C (Kd.int .i64) w A1 l1.length l1) (hc1 : l1.length ≤ c1) (h : papermillref02_DivMod.f k l0 l1 = some (r1, r2, r3)) :
    Calls Try.prog 55 #[.slice A0 l0.length c0, .slice A1 l1.length c1] w fun e w' => ∃ v0_ v1_ : Value, e = .returned (.tuple #[v0_, v1_, .int .i64 r3]) ∧ Kd.R (Kd.int .i64) 3 w' w.heap.size (fun k_ => some k_ ≠ (v1_ : Value).ownBlock) v0_ r1 ∧ Kd.R (Kd.int .i64) 3 w' w.heap.size (fun k_ => some k_ ≠ (v0_ : Value).ownBlock) v1_ r2 ∧ Below w.heap.size w w' := by
  have HR0 := Aside0.mk hr0
  have HC0 := Aside0.mk hc0
  clear hr0 hc0
  have HR1 := Aside0.mk hr1
  have HC1 := Aside0.mk hc1
  clear hr1 hc1
  have HB := Aside0.mk (Below.refl w.heap.size w)
  have H : ((papermillref02_Valid.f k l0).bind fun t344 => (if t344 = true then ((papermillref02_Valid.f k l1).bind fun t345 => (papermillref02_DivMod.j0 k l0 l1 (!t345))) else (papermillref02_DivMod.j0 k l0 l1 true))) = some (r1, r2, r3) := h
  clear h
  have HC3 := Aside0.mk H
  clear H
  go_enter Try.func55, Try.ntmps55
  go_upto_region 1 with (fail)
  go_cut [18] (fun v18 wc => ∃ (kq : Nat) (x18_2 : Bool), v18 = .bool x18_2 ∧ Aside0 (papermillref02_DivMod.j0 kq l0 l1 x18_2 = some (r1, r2, r3)) ∧ Aside0 (kq ≤ k) ∧ Aside0 (Below w.heap.size w wc))
  case first =>
    have H := HC3.out
    clear HC3
    replace H := Option.bind_eq_some_iff.mp H
    obtain ⟨t344, A40, H⟩ := H
    replace H : (if t344 = true then ((papermillref02_Valid.f k l1).bind fun t345 => (papermillref02_DivMod.j0 k l0 l1 (!t345))) else (papermillref02_DivMod.j0 k l0 l1 true)) = some (r1, r2, r3) := H
    have A4 := Aside0.mk A40
    clear A40
    by_cases c5 : t344 = true
    · subst c5
      have H1 : ((papermillref02_Valid.f k l1).bind fun t345 => (papermillref02_DivMod.j0 k l0 l1 (!t345))) = some (r1, r2, r3) := by rw [if_pos rfl] at H; exact H
      clear H
      have H := H1
      clear H1
      replace H := Option.bind_eq_some_iff.mp H
      obtain ⟨t345, A60, H⟩ := H
      replace H : (papermillref02_DivMod.j0 k l0 l1 (!t345)) = some (r1, r2, r3) := H
      have A6 := Aside0.mk A60
      clear A60
      have H' := Aside0.mk H
      clear H
      go_wp2_with (first | ((with_reducible refine gate_callee (f := 41) rfl ?_); refine goesL_ (some 12) rfl rfl Try.func41 Z6 rfl #[.slice A0 l0.length c0] rfl Z2 ?_; (with_reducible refine (papermillref02_Valid.calls k _ _ l0 true _ ?side1 ?side2 A4.out).mono ?_); (case side1 => repeat (first | exact (Kd.C_below HR0.out HB.out) | (with_reducible refine Kd.C_alloc ?_ _) | (with_reducible refine Kd.C_drewN ?_ _) | (with_reducible refine Kd.C_drew ?_))); (case side2 => exact HC0.out); rintro e w' ⟨rfl, ⟨nd, rfl⟩⟩; refine ⟨_, rfl, ?_⟩) | (go_at_call 41; (with_reducible refine (papermillref02_Valid.calls k _ _ l1 t345 _ ?side1 ?side2 A6.out).mono ?_); (case side1 => repeat (first | exact (Kd.C_below HR1.out Z0) | (with_reducible refine Kd.C_alloc ?_ _) | (with_reducible refine Kd.C_drewN ?_ _) | (with_reducible refine Kd.C_drew ?_))); (case side2 => exact HC1.out); rintro e w' ⟨rfl, ⟨nd, rfl⟩⟩))
      go_meet
      case rel => exact ⟨_, (!t345), Z4, H', ⟨by first | omega | exact Nat.le_refl _⟩, ⟨by repeat (first | (with_reducible first | exact HB.out | apply below_alloc | apply pw_below_drewN | apply below_drew1) | exact HB.out)⟩⟩
    · replace c5 := Bool.eq_false_iff.mpr c5
      subst c5
      have H1 : (papermillref02_DivMod.j0 k l0 l1 true) = some (r1, r2, r3) := by rw [if_neg (show ¬ (false = true) by decide)] at H; exact H
      clear H
      have H := H1
      clear H1
      have H' := Aside0.mk H
      clear H
      go_wp2_with (first | ((with_reducible refine gate_callee (f := 41) rfl ?_); refine goesL_ (some 12) rfl rfl Try.func41 Z6 rfl #[.slice A0 l0.length c0] rfl Z2 ?_; (with_reducible refine (papermillref02_Valid.calls k _ _ l0 false _ ?side1 ?side2 A4.out).mono ?_); (case side1 => repeat (first | exact (Kd.C_below HR0.out HB.out) | (with_reducible refine Kd.C_alloc ?_ _) | (with_reducible refine Kd.C_drewN ?_ _) | (with_reducible refine Kd.C_drew ?_))); (case side2 => exact HC0.out); rintro e w' ⟨rfl, ⟨nd, rfl⟩⟩; refine ⟨_, rfl, ?_⟩))
      go_meet
      case rel => exact ⟨_, (true), Z4, H', ⟨by first | omega | exact Nat.le_refl _⟩, ⟨by repeat (first | (with_reducible first | exact HB.out | apply below_alloc | apply pw_below_drewN | apply below_drew1) | exact HB.out)⟩⟩
  case rest =>
    clear HC3
    try clear c1
    try clear p2
    try clear c4
    try clear c5
    obtain ⟨kq, x18_2, rfl, HA, HJ2, HB⟩ := hcut
    cases kq with
    | zero => exact absurd HA.out (by simp [papermillref02_DivMod.j0])
    | succ kj2 =>
      have H := HA.out
      clear HA
      simp only [papermillref02_DivMod.j0] at H
      by_cases c7 : x18_2 = true
      · subst c7
        have H1 : (some (([] : List Int), ([] : List Int), 3)) = some (r1, r2, r3) := by rw [if_pos rfl] at H; exact H
        clear H
        have H := H1
        clear H1
        simp only [Option.some.injEq, Prod.mk.injEq] at H
        obtain ⟨rfl, rfl, rfl⟩ := H
        go_wp2
        go_ret3
        exact ⟨_, _, by first | rfl | (simp [errW_none, errW_some] <;> rfl) | (simp [*, errW_none, errW_some] <;> rfl), by first | exact Kd.R_nil _ _ _ _ _ | exact Kd.N_nil _ _ _ _ _ | exact Kd.V_nil _ _ _ _ _ | exact Kd.Q_nil _ _ _ _ _ | exact Kd.S_nil _ _ _ _ _, by first | exact Kd.R_nil _ _ _ _ _ | exact Kd.N_nil _ _ _ _ _ | exact Kd.V_nil _ _ _ _ _ | exact Kd.Q_nil _ _ _ _ _ | exact Kd.S_nil _ _ _ _ _, by repeat (first | (with_reducible first | exact HB.out | apply below_alloc | apply pw_below_drewN | apply below_drew1) | exact HB.out)⟩
      · replace c7 := Bool.eq_false_iff.mpr c7
        subst c7
        have H1 : (if (l1.length : Int) = 0 then (some (([] : List Int), ([] : List Int), 16)) else (if 0 ≤ (l0.length : Int) then (if ((l0.length : Int) : Int).toNat ≤ 35184372088832 then (papermillref02_DivMod.l0 kj2 l0 l1 (List.replicate ((l0.length : Int) : Int).toNat 0) ([] : List Int) (wrap64 ((l0.length : Int) - 1))) else (none)) else (none))) = some (r1, r2, r3) := by rw [if_neg (show ¬ (false = true) by decide)] at H; exact H
        clear H
        have H := H1
        clear H1
        by_cases c8 : (l1.length : Int) = 0
        · rw [if_pos c8] at H
          have c8b0 : ((l1.length : Int) == 0) = true := beq_iff_eq.mpr c8
          have c8b1 : ((l1.length : Int) != 0) = false := bne_eq_false_iff_eq.mpr c8
          clear c8
          simp only [Option.some.injEq, Prod.mk.injEq] at H
          obtain ⟨rfl, rfl, rfl⟩ := H
          go_wp2
          go_ret3
          exact ⟨_, _, by first | rfl | (simp [errW_none, errW_some] <;> rfl) | (simp [*, errW_none, errW_some] <;> rfl), by first | exact Kd.R_nil _ _ _ _ _ | exact Kd.N_nil _ _ _ _ _ | exact Kd.V_nil _ _ _ _ _ | exact Kd.Q_nil _ _ _ _ _ | exact Kd.S_nil _ _ _ _ _, by first | exact Kd.R_nil _ _ _ _ _ | exact Kd.N_nil _ _ _ _ _ | exact Kd.V_nil _ _ _ _ _ | exact Kd.Q_nil _ _ _ _ _ | exact Kd.S_nil _ _ _ _ _, by repeat (first | (with_reducible first | exact HB.out | apply below_alloc | apply pw_below_drewN | apply below_drew1) | exact HB.out)⟩
        · rw [if_neg c8] at H
          have c8b0 : ((l1.length : Int) == 0) = false := beq_eq_false_iff_ne.mpr c8
          have c8b1 : ((l1.length : Int) != 0) = true := bne_iff_ne.mpr c8
          have c8b2 : ¬ (l1 = []) := fun h_ => c8 (by rw [h_]; rfl)
          by_cases c9 : 0 ≤ (l0.length : Int)
          · rw [if_pos c9] at H
            have c9b0 := eq_true c9
            have c9b1 : decide (0 ≤ (l0.length : Int)) = true := decide_eq_true c9
            clear c9
            by_cases c10 : ((l0.length : Int) : Int).toNat ≤ 35184372088832
            · rw [if_pos c10] at H
              have c10b0 := eq_true c10
              have c10b1 : decide (((l0.length : Int) : Int).toNat ≤ 35184372088832) = true := decide_eq_true c10
              clear c10
              obtain ⟨y346, hy346⟩ : ∃ y_ : List Int, y_ = (List.replicate ((l0.length : Int) : Int).toNat 0) := ⟨_, rfl⟩
              replace H : (papermillref02_DivMod.l0 kj2 l0 l1 y346 ([] : List Int) (wrap64 ((l0.length : Int) - 1))) = some (r1, r2, r3) := by first | (rw [hy346]; with_reducible exact H) | (have H2_ := (Option.bind_some _ _).symm.trans H; rw [hy346]; with_reducible exact H2_) | (have H2_ := (Option.bind_some _ _).symm.trans H; with_reducible exact H2_) | with_reducible exact H | (rw [hy346]; exact H) | exact H
              have Ny346 := Aside0.mk hy346
              clear hy346
              have H' := Aside0.mk H
              clear H
              go_wp2_with (first | ((with_reducible refine gate_dst (N := 24) rfl ?_); refine Kd.R_make (Kd.int .i64) _ 3 rfl (N := 24) rfl 25 _ _ rfl (l0.length : Int) rfl rfl Try.underlying25 (.int .i64 0) 8 info3 rfl (by decide) (by omega) 0 (ok := fun _ => True) (okp := fun _ => True) rfl (fun _ hk => hk) trivial (of_decide_eq_true Z1) (Nat.le_trans (Nat.mul_le_mul_right _ (of_decide_eq_true Z1 : (l0.length : Int).toNat ≤ 35184372088832)) (by omega)) (Below.refl _ _) (Nat.le_refl _) ?_; intro v347 w11 ho12 hb hg_ hnew_; clear hg_ hnew_; (first | rw [← Ny346.out] at ho12 | (simp only [Int.reduceToNat] at ho12; rw [← Ny346.out] at ho12)); have n0_ := Aside0.mk (Kd.R_lower ho12 (below_size Z0)); have n1_ := Aside0.mk (below_step Z0 hb); clear HB; have HO348 := n0_; have HB := n1_; clear n0_ n1_; clear hb ho12))
              go_loopg [8, 9] kj2 (fun kq v8 v9 w' => ∃ (x7_2 : List Int) (x8_2 : List Int) (x9_2 : Int), v9 = .int .i64 x9_2 ∧ Aside0 (papermillref02_DivMod.l0 kq l0 l1 x7_2 x8_2 x9_2 = some (r1, r2, r3)) ∧ Aside0 (kq ≤ kj2) ∧ Aside0 (Kd.R (Kd.int .i64) 3 w' w.heap.size (fun k_ => some k_ ≠ (v8 : Value).ownBlock) v347 x7_2) ∧ Aside0 (Kd.R (Kd.int .i64) 3 w' w.heap.size (fun k_ => some k_ ≠ (v347 : Value).ownBlock) v8 x8_2) ∧ Aside0 (Below w.heap.size w w'))
              case atStart => exact ⟨(y346), (([] : List Int)), (wrap64 ((l0.length : Int) - 1)), Z4, H', ⟨Nat.le_refl _⟩, ⟨by (with_reducible repeat (first | apply Kd.R_alloc | apply Kd.R_drewN | apply Kd.R_drew)); exact Kd.R_mono HO348.out (fun _ hk => (by simp [Value.ownBlock]))⟩, ⟨by first | exact Kd.R_nil _ _ _ _ _ | exact Kd.N_nil _ _ _ _ _ | exact Kd.V_nil _ _ _ _ _ | exact Kd.Q_nil _ _ _ _ _ | exact Kd.S_nil _ _ _ _ _⟩, ⟨by repeat (first | (with_reducible first | exact HB.out | apply below_alloc | apply pw_below_drewN | apply below_drew1) | exact HB.out)⟩⟩
              case round =>
                clear H'
                try clear c1
                try clear p2
                try clear c4
                try clear c5
                try clear p6
                try clear c7
                try clear c8
                try clear c8b0
                try clear c8b1
                try clear c8b2
                try clear c9
                try clear c9b0
                try clear c9b1
                try clear c10
                try clear c10b0
                try clear c10b1
                try clear p2
                obtain ⟨x7_2, x8_2, x9_2, rfl, HA, HK2, HO_7, HO_8, HB⟩ := hrel
                cases gk with
                | zero => exact absurd HA.out (by simp [papermillref02_DivMod.l0])
                | succ k2 =>
                  have H := HA.out
                  clear HA
                  simp only [papermillref02_DivMod.l0] at H
                  by_cases c13 : x9_2 ≥ 0
                  · rw [if_pos c13] at H
                    have c13b0 : decide (0 ≤ x9_2) = true := decide_eq_true c13
                    clear c13
                    by_cases c14 : 0 ≤ x9_2
                    · rw [if_pos c14] at H
                      have c14b0 : decide (0 ≤ x9_2) = true := decide_eq_true c14
                      clear c14
                      by_cases c15 : x9_2 < (l0.length : Int)
                      · rw [if_pos c15] at H
                        have c15b0 : decide (x9_2 < (l0.length : Int)) = true := decide_eq_true c15
                        clear c15
                        obtain ⟨y354, hy354⟩ : ∃ y_ : List Int, y_ = (([rd l0 x9_2] : List Int)) := ⟨_, rfl⟩
                        replace H : (if y354.length + x8_2.length < 17592186044416 then ((some (y354 ++ x8_2 : List Int)).bind fun y357 => (if 0 ≤ (wrap64 ((y357.length : Int) - 1)) then (if (wrap64 ((y357.length : Int) - 1)) < (y357.length : Int) then (if (rd y357 (wrap64 ((y357.length : Int) - 1))) = 0 then (papermillref02_DivMod.j2 k2 l0 l1 x7_2 ([] : List Int) x9_2) else (papermillref02_DivMod.j2 k2 l0 l1 x7_2 y357 x9_2)) else (none)) else (none))) else (none)) = some (r1, r2, r3) := by first | (rw [hy354]; with_reducible exact H) | (have H2_ := (Option.bind_some _ _).symm.trans H; rw [hy354]; with_reducible exact H2_) | (have H2_ := (Option.bind_some _ _).symm.trans H; with_reducible exact H2_) | with_reducible exact H | (rw [hy354]; exact H) | exact H
                        have Ny354 := Aside0.mk hy354
                        clear hy354
                        by_cases c16 : y354.length + x8_2.length < 17592186044416
                        · rw [if_pos c16] at H
                          have LMc16 := Aside0.mk c16
                          clear c16
                          obtain ⟨y357, hy357⟩ : ∃ y_ : List Int, y_ = (y354 ++ x8_2) := ⟨_, rfl⟩
                          replace H : (if 0 ≤ (wrap64 ((y357.length : Int) - 1)) then (if (wrap64 ((y357.length : Int) - 1)) < (y357.length : Int) then (if (rd y357 (wrap64 ((y357.length : Int) - 1))) = 0 then (papermillref02_DivMod.j2 k2 l0 l1 x7_2 ([] : List Int) x9_2) else (papermillref02_DivMod.j2 k2 l0 l1 x7_2 y357 x9_2)) else (none)) else (none)) = some (r1, r2, r3) := by first | (rw [hy357]; with_reducible exact H) | (have H2_ := (Option.bind_some _ _).symm.trans H; rw [hy357]; with_reducible exact H2_) | (have H2_ := (Option.bind_some _ _).symm.trans H; with_reducible exact H2_) | with_reducible exact H | (rw [hy357]; exact H) | exact H
                          have Ny357 := Aside0.mk hy357
                          clear hy357
                          obtain ⟨ji17, hji17⟩ : ∃ j_ : Int, (wrap64 ((y357.length : Int) - 1)) = j_ := ⟨_, rfl⟩
                          replace H : (if 0 ≤ (ji17) then (if (ji17) < (y357.length : Int) then (if (rd y357 (ji17)) = 0 then (papermillref02_DivMod.j2 k2 l0 l1 x7_2 ([] : List Int) x9_2) else (papermillref02_DivMod.j2 k2 l0 l1 x7_2 y357 x9_2)) else (none)) else (none)) = some (r1, r2, r3) := by first | (rw [hji17] at H; exact H) | (simp only [hji17] at H ⊢; exact H)
                          have hji17w : (IntKind.i64.wrap ((y357.length : Int) - 1)) = ji17 := (i64_w _).trans hji17
                          by_cases c18 : 0 ≤ (ji17)
                          · rw [if_pos c18] at H
                            have c18b0 : decide (0 ≤ (ji17)) = true := decide_eq_true c18
                            clear c18
                            by_cases c19 : (ji17) < (y357.length : Int)
                            · rw [if_pos c19] at H
                              have c19b0 : decide ((ji17) < (y357.length : Int)) = true := decide_eq_true c19
                              clear c19
                              have HC20 := Aside0.mk H
                              clear H
                              have p353 : 0 ≤ (x9_2 : Int) := of_decide_eq_true Z1
                              have q353 : x9_2 < (l0.length : Int) := of_decide_eq_true Z1
                              obtain ⟨ad353, e353, hx353_0⟩ := Kd.at_int HR0.out x9_2 p353 q353
                              cases e353
                              replace hx353_0 := (HB.out.cell (World.block_lt_of_cell? w _ hx353_0)).trans hx353_0
                              replace p353 := eq_true p353
                              replace q353 := eq_true q353
                              go_upto_if 45 with (first | ((with_reducible refine gate_dst (N := 36) rfl ?_); refine Kd.R_lit (Kd.int .i64) _ 3 ?hg (N := 36) ?hd (xs := ([rd l0 x9_2] : List Int)) (inner := [.int .i64 (rd l0 x9_2)]) (ok := fun _ => True) (okp := fun _ => True) ?hr ?hp (fun _ hk => hk) trivial (Below.refl _ _) (Nat.le_refl _) (by simp) ?_; (case hd => rfl); (case hg => rfl); (case hr => first | (go_simp; done) | (go_simp; rfl)); (case hp => exact (Reps.one (show Kd.M (Kd.int .i64) _ _ _ (rd l0 x9_2) [.int .i64 (rd l0 x9_2)] from rfl) (Reps.none _ _))); intro v355 w21 ho22 hb hg_ hnew_; clear hg_ hnew_; (first | rw [← Ny354.out] at ho22 | (simp only [Int.reduceToNat] at ho22; rw [← Ny354.out] at ho22)); have n0_ := Aside0.mk (Kd.R_elder' Z8 (Kd.R_base ho22) hb); have n1_ := Aside0.mk (Kd.R_elder' Z7 (Kd.R_base ho22) hb); have n2_ := Aside0.mk (Kd.R_lower (Kd.R_new' (Kd.R_new' ho22 (Kd.R_lt Z8)) (Kd.R_lt Z7)) (below_size Z0)); have n3_ := Aside0.mk (below_step Z0 hb); clear HO_7; clear HO_8; clear HB; have HO_7 := n0_; have HO_8 := n1_; have HO356 := n2_; have HB := n3_; clear n0_ n1_ n2_ n3_; clear hb ho22; obtain ⟨Ao24, co24, eo24⟩ := Kd.R_slice HO_8.out; subst eo24) | ((with_reducible refine gate_builtin (b := .append) (xs := #[.tmp 36, .tmp 37]) rfl ?_); at_builtin; refine Kd.R_append_rows (Kd.int .i64) (w0 := w) w.heap.size rfl (.tmp 36) (.tmp 37) 25 3 (.int .i64 0) 8 rfl Try.underlying25 info3 rfl (by decide) (by omega) v355 y354 x8_2 _ _ _ (fun k_ => some k_ ≠ (v347 : Value).ownBlock ∧ some k_ ≠ (.slice Ao24 x8_2.length co24 : Value).ownBlock) (fun _ => False) rfl rfl ?aO ?aR (fun _ _ h => h) (fun _ h => h.elim) ?aF ?aB ?aS ?aL ?_; (case aR => repeat (first | exact (Kd.R_reads' HO_8.out).2.2 | (with_reducible refine Kd.C_alloc ?_ _) | (with_reducible refine Kd.C_drewN ?_ _) | (with_reducible refine Kd.C_drew ?_))); (case aB => exact Z0); (case aF => exact (fun k_ hk => ⟨Kd.fresh' (Kd.R_lt Z8) k_ hk, Kd.fresh' (Kd.R_lt Z7) k_ hk⟩)); (case aO => exact (by (with_reducible repeat (first | apply Kd.R_alloc | apply Kd.R_drewN | apply Kd.R_drew)); exact Kd.R_mono HO356.out (fun _ hk => ⟨hk.1.2, hk.2⟩))); (case aS => exact (below_size Z0)); (case aL => have := LMc16.out; omega); intro v358 w23 ho hb hg hat; rw [← Ny357.out] at ho; have n0_ := Aside0.mk (Kd.R_after (ok := (fun k_ => some k_ ≠ (.slice Ao24 x8_2.length co24 : Value).ownBlock)) Z8 hg hat); have n1_ := Aside0.mk (Kd.R_after (ok := (fun k_ => some k_ ≠ (v347 : Value).ownBlock)) Z7 hg hat); have n2_ := Aside0.mk (hb); have n3_ := Aside0.mk (ho); clear HO_7; clear HO_8; clear HB; clear HO356; have HO_7 := n0_; have HO_8 := n1_; have HB := n2_; have HO359 := n3_; clear n0_ n1_ n2_ n3_; clear ho hb hg hat; obtain ⟨Ao25, co25, eo25⟩ := Kd.R_slice HO359.out; subst eo25; have p360 : 0 ≤ ((ji17) : Int) := of_decide_eq_true Z1; have q360 : (ji17) < (y357.length : Int) := of_decide_eq_true Z1; obtain ⟨ad360, e360, hx360_0⟩ := Kd.at_int (Kd.R_reads' HO359.out).2.2 (ji17) p360 q360; cases e360; replace p360 := eq_true p360; replace q360 := eq_true q360))
                              (try simp only [Act.put, List.setIfInBounds_toArray, List.set_cons_zero, List.set_cons_succ])
                              go_cut [8] (fun v8 wc => ∃ (kq : Nat) (x8_19 : List Int), Aside0 (papermillref02_DivMod.j2 kq l0 l1 x7_2 x8_19 x9_2 = some (r1, r2, r3)) ∧ Aside0 (kq ≤ k2) ∧ Aside0 (Kd.R (Kd.int .i64) 3 wc w.heap.size (fun k_ => some k_ ≠ (v8 : Value).ownBlock) v347 x7_2) ∧ Aside0 (Kd.R (Kd.int .i64) 3 wc w.heap.size (fun k_ => some k_ ≠ (v347 : Value).ownBlock) v8 x8_19) ∧ Aside0 (Below w.heap.size w wc))
                              case first =>
                                have H := HC20.out
                                clear HC20
                                by_cases c26 : (rd y357 (ji17)) = 0
                                · rw [if_pos c26] at H
                                  have c26b0 : ((rd y357 (ji17)) == 0) = true := beq_iff_eq.mpr c26
                                  have c26b1 : ((rd y357 (ji17)) != 0) = false := bne_eq_false_iff_eq.mpr c26
                                  clear c26
                                  (first | rw [c26b0] | (simp only [i64_w, i32_w]; rw [c26b0]) | skip)
                                  have H' := Aside0.mk H
                                  clear H
                                  go_wp2
                                  go_meet
                                  case rel => exact ⟨_, (([] : List Int)), H', ⟨by have := HJ2.out; have := HK2.out; first | omega | exact Nat.le_refl _⟩, ⟨by (with_reducible repeat (first | apply Kd.R_alloc | apply Kd.R_drewN | apply Kd.R_drew)); exact Kd.R_mono HO_7.out (fun _ hk => (by simp [Value.ownBlock]))⟩, ⟨by first | exact Kd.R_nil _ _ _ _ _ | exact Kd.N_nil _ _ _ _ _ | exact Kd.V_nil _ _ _ _ _ | exact Kd.Q_nil _ _ _ _ _ | exact Kd.S_nil _ _ _ _ _⟩, ⟨by repeat (first | (with_reducible first | exact HB.out | apply below_alloc | apply pw_below_drewN | apply below_drew1) | exact HB.out)⟩⟩
                                · rw [if_neg c26] at H
                                  have c26b0 : ((rd y357 (ji17)) == 0) = false := beq_eq_false_iff_ne.mpr c26
                                  have c26b1 : ((rd y357 (ji17)) != 0) = true := bne_iff_ne.mpr c26
                                  (first | rw [c26b0] | (simp only [i64_w, i32_w]; rw [c26b0]) | skip)
                                  have H' := Aside0.mk H
                                  clear H
                                  go_wp2
                                  go_meet
                                  case rel => exact ⟨_, (y357), H', ⟨by have := HJ2.out; have := HK2.out; first | omega | exact Nat.le_refl _⟩, ⟨by (with_reducible repeat (first | apply Kd.R_alloc | apply Kd.R_drewN | apply Kd.R_drew)); exact Kd.R_mono HO_7.out (fun _ hk => hk.2)⟩, ⟨by (with_reducible repeat (first | apply Kd.R_alloc | apply Kd.R_drewN | apply Kd.R_drew)); exact Kd.R_mono HO359.out (fun _ hk => hk.1)⟩, ⟨by repeat (first | (with_reducible first | exact HB.out | apply below_alloc | apply pw_below_drewN | apply below_drew1) | exact HB.out)⟩⟩
                              case rest =>
                                clear HC20
                                try clear c1
                                try clear c2
                                try clear p2
                                try clear p3
                                try clear q3
                                try clear hx3
                                try clear c4
                                try clear c5
                                try clear p6
                                try clear c7
                                try clear c8
                                try clear c8b0
                                try clear c8b1
                                try clear c8b2
                                try clear c9
                                try clear c9b0
                                try clear c9b1
                                try clear c10
                                try clear c10b0
                                try clear c10b1
                                try clear c13
                                try clear c13b0
                                try clear c14
                                try clear c14b0
                                try clear c15
                                try clear c15b0
                                try clear c16
                                try clear c18
                                try clear c18b0
                                try clear c19
                                try clear c19b0
                                try clear c26
                                try clear c26b0
                                try clear c26b1
                                try clear hx353_0
                                try clear hx360_0
                                try clear p2
                                try clear p353
                                try clear p360
                                try clear p6
                                try clear q353
                                try clear q360
                                obtain ⟨kq, x8_19, HA, HJ19, HO_7, HO_8, HB⟩ := hcut
                                cases kq with
                                | zero => exact absurd HA.out (by simp [papermillref02_DivMod.j2])
                                | succ kj19 =>
                                  have H := HA.out
                                  clear HA
                                  simp only [papermillref02_DivMod.j2] at H
                                  replace H := Option.bind_eq_some_iff.mp H
                                  obtain ⟨t361, A270, H⟩ := H
                                  replace H : (if 0 ≤ x9_2 then (if x9_2 < (x7_2.length : Int) then ((some (x7_2.set (x9_2 : Int).toNat t361 : List Int)).bind fun y362 => (if t361 > 0 then ((papermillref02_times.f kj19 l1 (([t361] : List Int))).bind fun t366 => ((papermillref02_minus.f kj19 x8_19 t366).bind fun t369 => (papermillref02_DivMod.l0 kj19 l0 l1 y362 t369 (wrap64 (x9_2 - 1))))) else (papermillref02_DivMod.l0 kj19 l0 l1 y362 x8_19 (wrap64 (x9_2 - 1))))) else (none)) else (none)) = some (r1, r2, r3) := H
                                  have A27 := Aside0.mk A270
                                  clear A270
                                  by_cases c28 : 0 ≤ x9_2
                                  · rw [if_pos c28] at H
                                    have c28b0 : decide (0 ≤ x9_2) = true := decide_eq_true c28
                                    clear c28
                                    by_cases c29 : x9_2 < (x7_2.length : Int)
                                    · rw [if_pos c29] at H
                                      have c29b0 : decide (x9_2 < (x7_2.length : Int)) = true := decide_eq_true c29
                                      clear c29
                                      obtain ⟨y362, hy362⟩ : ∃ y_ : List Int, y_ = (x7_2.set (x9_2 : Int).toNat t361) := ⟨_, rfl⟩
                                      replace H : (if t361 > 0 then ((papermillref02_times.f kj19 l1 (([t361] : List Int))).bind fun t366 => ((papermillref02_minus.f kj19 x8_19 t366).bind fun t369 => (papermillref02_DivMod.l0 kj19 l0 l1 y362 t369 (wrap64 (x9_2 - 1))))) else (papermillref02_DivMod.l0 kj19 l0 l1 y362 x8_19 (wrap64 (x9_2 - 1)))) = some (r1, r2, r3) := by first | (rw [hy362]; with_reducible exact H) | (have H2_ := (Option.bind_some _ _).symm.trans H; rw [hy362]; with_reducible exact H2_) | (have H2_ := (Option.bind_some _ _).symm.trans H; with_reducible exact H2_) | with_reducible exact H | (rw [hy362]; exact H) | exact H
                                      have Ny362 := Aside0.mk hy362
                                      clear hy362
                                      by_cases c31 : t361 > 0
                                      · rw [if_pos c31] at H
                                        have c31b0 : decide (0 < t361) = true := decide_eq_true c31
                                        clear c31
                                        obtain ⟨y363, hy363⟩ : ∃ y_ : List Int, y_ = (([t361] : List Int)) := ⟨_, rfl⟩
                                        replace H : ((papermillref02_times.f kj19 l1 y363).bind fun t366 => ((papermillref02_minus.f kj19 x8_19 t366).bind fun t369 => (papermillref02_DivMod.l0 kj19 l0 l1 y362 t369 (wrap64 (x9_2 - 1))))) = some (r1, r2, r3) := by first | (rw [hy363]; with_reducible exact H) | (have H2_ := (Option.bind_some _ _).symm.trans H; rw [hy363]; with_reducible exact H2_) | (have H2_ := (Option.bind_some _ _).symm.trans H; with_reducible exact H2_) | with_reducible exact H | (rw [hy363]; exact H) | exact H
                                        have Ny363 := Aside0.mk hy363
                                        clear hy363
                                        replace H := Option.bind_eq_some_iff.mp H
                                        obtain ⟨t366, A320, H⟩ := H
                                        replace H : ((papermillref02_minus.f kj19 x8_19 t366).bind fun t369 => (papermillref02_DivMod.l0 kj19 l0 l1 y362 t369 (wrap64 (x9_2 - 1)))) = some (r1, r2, r3) := H
                                        have A32 := Aside0.mk A320
                                        clear A320
                                        replace H := Option.bind_eq_some_iff.mp H
                                        obtain ⟨t369, A330, H⟩ := H
                                        replace H : (papermillref02_DivMod.l0 kj19 l0 l1 y362 t369 (wrap64 (x9_2 - 1))) = some (r1, r2, r3) := H
                                        have A33 := Aside0.mk A330
                                        clear A330
                                        have H' := Aside0.mk H
                                        clear H
                                        obtain ⟨Ao34, co34, eo34⟩ := Kd.R_slice HO_8.out
                                        subst eo34
                                        go_wp2_with (first | ((with_reducible refine gate_callee (f := 74) rfl ?_); refine goesL_ (some 48) rfl rfl Try.func74 Z6 rfl #[.slice Ao34 x8_19.length co34, .slice A1 l1.length c1] rfl Z2 ?_; (with_reducible refine (papermillref02_digit.calls kj19 _ _ x8_19 _ _ l1 t361 _ ?side1 ?side2 ?side3 ?side4 A27.out).mono ?_); (case side1 => repeat (first | exact (Kd.R_reads' HO_8.out).2.2 | (with_reducible refine Kd.C_alloc ?_ _) | (with_reducible refine Kd.C_drewN ?_ _) | (with_reducible refine Kd.C_drew ?_))); (case side2 => exact (Kd.R_reads' HO_8.out).2.1); (case side3 => repeat (first | exact (Kd.C_below HR1.out HB.out) | (with_reducible refine Kd.C_alloc ?_ _) | (with_reducible refine Kd.C_drewN ?_ _) | (with_reducible refine Kd.C_drew ?_))); (case side4 => exact HC1.out); rintro e w35 ⟨rfl, hb⟩; refine ⟨_, rfl, ?_⟩; have n0_ := Aside0.mk (Kd.R_below Z8 hb); have n1_ := Aside0.mk (Kd.R_below Z7 hb); have n2_ := Aside0.mk (below_step Z0 hb); clear HO_7; clear HO_8; clear HB; have HO_7 := n0_; have HO_8 := n1_; have HB := n2_; clear n0_ n1_ n2_; (try clear hb); (try clear hb2); (try clear hk); (try clear hi); have p30 : 0 ≤ (x9_2 : Int) := of_decide_eq_true Z1; have q30 : (x9_2 : Int) < ((x7_2.length : Int) : Int) := of_decide_eq_true Z1; obtain ⟨go30, co30, eo30, gb30, gl30, cl30, HG30⟩ := Kd.R_form HO_7.out (by omega); (first | cases eo30 | (injection eo30 with ea_ en_ ec_; (first | subst ea_ | (injection ea_ with ea_; subst ea_)); subst ec_; clear en_)); have GB30 := Aside0.mk gb30; have GG30 := Aside0.mk HG30; clear gb30 gl30 HG30; obtain ⟨hx30_0, hf30_0⟩ := Kd.R_celln 0 HO_7.out (x9_2 : Int) p30 q30; replace p30 := eq_true p30; replace q30 := eq_true q30; obtain ⟨hy36_, hz36_⟩ := Kd.R_celln 0 HO_7.out (x9_2 : Int) (of_decide_eq_true Z1) (of_decide_eq_true Z1); have HP36 := Kd.R_putg HO_7.out (x9_2 : Int) t361) | ((with_reducible refine gate_store (t := 3) (p := 52) rfl ?_); refine store_event (t := 3) (p := 52) (v := ?vo_w37) (w1 := (w35.setCell ⟨go30, (x9_2 : Int).toNat, none⟩ (.int .i64 t361))) ?hg ?ho ?hn ?hr ?_; (case ho => rfl); (case hg => rfl); (case hn => rfl); (case hr => first | (go_simp; done) | (go_simp; rfl)); intro w37 hw; have hg : w35.grownBy w37 (some go30) := (by rw [hw]; exact HP36.2); have hp_ : Kd.R (Kd.int .i64) 3 w37 w.heap.size (fun k_ => some k_ ≠ (.slice Ao34 x8_19.length co34 : Value).ownBlock) (.slice (some ⟨go30, 0, none⟩) x7_2.length co30) y362 := (by rw [hw, Ny362.out]; exact HP36.1); clear HP36; have n0_ := Aside0.mk (hp_); have n1_ := Aside0.mk (Kd.R_after (v := (.slice (some ⟨go30, 0, none⟩) x7_2.length co30)) (v1 := (.slice (some ⟨go30, 0, none⟩) x7_2.length co30)) (ok := (fun _ => True)) (by (with_reducible repeat (first | apply Kd.R_alloc | apply Kd.R_drewN | apply Kd.R_drew)); exact Kd.R_mono HO_8.out (fun _ hk => ⟨trivial, hk⟩)) hg (.inl rfl)); have n2_ := Aside0.mk ((by rw [hw]; exact below_set (HB.out) GB30.out : Below w.heap.size w w37)); clear HO_7; clear HO_8; clear HB; have HO_7 := n0_; have HO_8 := n1_; have HB := n2_; clear n0_ n1_ n2_; clear hg hw hp_) | ((with_reducible refine gate_dst (N := 58) rfl ?_); refine Kd.R_lit (Kd.int .i64) _ 3 ?hg (N := 58) ?hd (xs := ([t361] : List Int)) (inner := [.int .i64 t361]) (ok := fun _ => True) (okp := fun _ => True) ?hr ?hp (fun _ hk => hk) trivial (Below.refl _ _) (Nat.le_refl _) (by simp) ?_; (case hd => rfl); (case hg => rfl); (case hr => first | (go_simp; done) | (go_simp; rfl)); (case hp => exact (Reps.one (show Kd.M (Kd.int .i64) _ _ _ t361 [.int .i64 t361] from rfl) (Reps.none _ _))); intro v364 w38 ho39 hb hg_ hnew_; clear hg_ hnew_; (first | rw [← Ny363.out] at ho39 | (simp only [Int.reduceToNat] at ho39; rw [← Ny363.out] at ho39)); have n0_ := Aside0.mk (Kd.R_elder' Z8 (Kd.R_base ho39) hb); have n1_ := Aside0.mk (Kd.R_elder' Z7 (Kd.R_base ho39) hb); have n2_ := Aside0.mk (Kd.R_lower (Kd.R_new' (Kd.R_new' ho39 (Kd.R_lt Z8)) (Kd.R_lt Z7)) (below_size Z0)); have n3_ := Aside0.mk (below_step Z0 hb); clear HO_7; clear HO_8; clear HB; have HO_7 := n0_; have HO_8 := n1_; have HO365 := n2_; have HB := n3_; clear n0_ n1_ n2_ n3_; clear hb ho39; obtain ⟨Ao40, co40, eo40⟩ := Kd.R_slice HO365.out; subst eo40) | ((with_reducible refine gate_callee (f := 57) rfl ?_); refine goesL_ (some 59) rfl rfl Try.func57 Z6 rfl #[.slice A1 l1.length c1, .slice Ao40 y363.length co40] rfl Z2 ?_; (with_reducible refine (papermillref02_times.calls kj19 _ _ l1 _ _ y363 t366 _ ?side1 ?side2 ?side3 ?side4 A32.out).mono ?_); (case side1 => repeat (first | exact (Kd.C_below HR1.out HB.out) | (with_reducible refine Kd.C_alloc ?_ _) | (with_reducible refine Kd.C_drewN ?_ _) | (with_reducible refine Kd.C_drew ?_))); (case side2 => exact HC1.out); (case side3 => repeat (first | exact (Kd.R_reads' HO365.out).2.2 | (with_reducible refine Kd.C_alloc ?_ _) | (with_reducible refine Kd.C_drewN ?_ _) | (with_reducible refine Kd.C_drew ?_))); (case side4 => exact (Kd.R_reads' HO365.out).2.1); rintro e w41 ⟨v367, rfl, ho0, hb⟩; refine ⟨_, rfl, ?_⟩; have n0_ := Aside0.mk (Kd.R_elder' Z8 (Kd.R_base ho0) hb); have n1_ := Aside0.mk (Kd.R_elder' Z7 (Kd.R_base ho0) hb); have n2_ := Aside0.mk (Kd.R_elder' Z23 (Kd.R_base ho0) hb); have n3_ := Aside0.mk (Kd.R_lower (Kd.R_new' (Kd.R_new' (Kd.R_new' ho0 (Kd.R_lt Z8)) (Kd.R_lt Z7)) (Kd.R_lt Z23)) (below_size Z0)); have n4_ := Aside0.mk (below_step Z0 hb); clear HO_7; clear HO_8; clear HO365; clear HB; have HO_7 := n0_; have HO_8 := n1_; have HO365 := n2_; have HO368 := n3_; have HB := n4_; clear n0_ n1_ n2_ n3_ n4_; (try clear hb); (try clear hb2); (try clear hk); (try clear hi); (try clear ho0); obtain ⟨Ao42, co42, eo42⟩ := Kd.R_slice HO368.out; subst eo42) | ((with_reducible refine gate_callee (f := 75) rfl ?_); refine goesL_ (some 60) rfl rfl Try.func75 Z6 rfl #[.slice Ao34 x8_19.length co34, .slice Ao42 t366.length co42] rfl Z2 ?_; (with_reducible refine (papermillref02_minus.calls kj19 _ _ x8_19 _ _ t366 t369 _ ?side1 ?side2 ?side3 ?side4 A33.out).mono ?_); (case side1 => repeat (first | exact (Kd.R_reads' HO_8.out).2.2 | (with_reducible refine Kd.C_alloc ?_ _) | (with_reducible refine Kd.C_drewN ?_ _) | (with_reducible refine Kd.C_drew ?_))); (case side2 => exact (Kd.R_reads' HO_8.out).2.1); (case side3 => repeat (first | exact (Kd.R_reads' HO368.out).2.2 | (with_reducible refine Kd.C_alloc ?_ _) | (with_reducible refine Kd.C_drewN ?_ _) | (with_reducible refine Kd.C_drew ?_))); (case side4 => exact (Kd.R_reads' HO368.out).2.1); rintro e w43 ⟨v370, rfl, ho0, hb⟩; refine ⟨_, rfl, ?_⟩; have n0_ := Aside0.mk (Kd.R_elder' Z8 (Kd.R_base ho0) hb); have n1_ := Aside0.mk (Kd.R_elder' Z7 (Kd.R_base ho0) hb); have n2_ := Aside0.mk (Kd.R_elder' Z23 (Kd.R_base ho0) hb); have n3_ := Aside0.mk (Kd.R_elder' (by (with_reducible repeat (first | apply Kd.R_alloc | apply Kd.R_drewN | apply Kd.R_drew)); exact HO368.out) (Kd.R_base ho0) hb); have n4_ := Aside0.mk (Kd.R_lower (Kd.R_new' (Kd.R_new' (Kd.R_new' (Kd.R_new' ho0 (Kd.R_lt Z8)) (Kd.R_lt Z7)) (Kd.R_lt Z23)) (Kd.R_lt (by (with_reducible repeat (first | apply Kd.R_alloc | apply Kd.R_drewN | apply Kd.R_drew)); exact HO368.out))) (below_size Z0)); have n5_ := Aside0.mk (below_step Z0 hb); clear HO_7; clear HO_8; clear HO365; clear HO368; clear HB; have HO_7 := n0_; have HO_8 := n1_; have HO365 := n2_; have HO368 := n3_; have HO371 := n4_; have HB := n5_; clear n0_ n1_ n2_ n3_ n4_ n5_; (try clear hb); (try clear hb2); (try clear hk); (try clear hi); (try clear ho0)))
                                        go_roundg kj19
                                        case measure => have := HJ2.out; have := HK2.out; have := HJ19.out; omega
                                        case rel => exact ⟨(y362), (t369), (wrap64 (x9_2 - 1)), Z4, H', ⟨by have := HJ2.out; have := HK2.out; have := HJ19.out; omega⟩, ⟨by (with_reducible repeat (first | apply Kd.R_alloc | apply Kd.R_drewN | apply Kd.R_drew)); exact Kd.R_mono HO_7.out (fun _ hk => hk.2)⟩, ⟨by (with_reducible repeat (first | apply Kd.R_alloc | apply Kd.R_drewN | apply Kd.R_drew)); exact Kd.R_mono HO371.out (fun _ hk => hk.1.1.1.2)⟩, ⟨by repeat (first | (with_reducible first | exact HB.out | apply below_alloc | apply pw_below_drewN | apply below_drew1) | exact HB.out)⟩⟩
                                      · rw [if_neg c31] at H
                                        have c31b0 : decide (0 < t361) = false := decide_eq_false c31
                                        clear c31
                                        have H' := Aside0.mk H
                                        clear H
                                        obtain ⟨Ao44, co44, eo44⟩ := Kd.R_slice HO_8.out
                                        subst eo44
                                        go_wp2_with (first | ((with_reducible refine gate_callee (f := 74) rfl ?_); refine goesL_ (some 48) rfl rfl Try.func74 Z6 rfl #[.slice Ao44 x8_19.length co44, .slice A1 l1.length c1] rfl Z2 ?_; (with_reducible refine (papermillref02_digit.calls kj19 _ _ x8_19 _ _ l1 t361 _ ?side1 ?side2 ?side3 ?side4 A27.out).mono ?_); (case side1 => repeat (first | exact (Kd.R_reads' HO_8.out).2.2 | (with_reducible refine Kd.C_alloc ?_ _) | (with_reducible refine Kd.C_drewN ?_ _) | (with_reducible refine Kd.C_drew ?_))); (case side2 => exact (Kd.R_reads' HO_8.out).2.1); (case side3 => repeat (first | exact (Kd.C_below HR1.out HB.out) | (with_reducible refine Kd.C_alloc ?_ _) | (with_reducible refine Kd.C_drewN ?_ _) | (with_reducible refine Kd.C_drew ?_))); (case side4 => exact HC1.out); rintro e w45 ⟨rfl, hb⟩; refine ⟨_, rfl, ?_⟩; have n0_ := Aside0.mk (Kd.R_below Z8 hb); have n1_ := Aside0.mk (Kd.R_below Z7 hb); have n2_ := Aside0.mk (below_step Z0 hb); clear HO_7; clear HO_8; clear HB; have HO_7 := n0_; have HO_8 := n1_; have HB := n2_; clear n0_ n1_ n2_; (try clear hb); (try clear hb2); (try clear hk); (try clear hi); have p30 : 0 ≤ (x9_2 : Int) := of_decide_eq_true Z1; have q30 : (x9_2 : Int) < ((x7_2.length : Int) : Int) := of_decide_eq_true Z1; obtain ⟨go30, co30, eo30, gb30, gl30, cl30, HG30⟩ := Kd.R_form HO_7.out (by omega); (first | cases eo30 | (injection eo30 with ea_ en_ ec_; (first | subst ea_ | (injection ea_ with ea_; subst ea_)); subst ec_; clear en_)); have GB30 := Aside0.mk gb30; have GG30 := Aside0.mk HG30; clear gb30 gl30 HG30; obtain ⟨hx30_0, hf30_0⟩ := Kd.R_celln 0 HO_7.out (x9_2 : Int) p30 q30; replace p30 := eq_true p30; replace q30 := eq_true q30; obtain ⟨hy46_, hz46_⟩ := Kd.R_celln 0 HO_7.out (x9_2 : Int) (of_decide_eq_true Z1) (of_decide_eq_true Z1); have HP46 := Kd.R_putg HO_7.out (x9_2 : Int) t361) | ((with_reducible refine gate_store (t := 3) (p := 52) rfl ?_); refine store_event (t := 3) (p := 52) (v := ?vo_w47) (w1 := (w45.setCell ⟨go30, (x9_2 : Int).toNat, none⟩ (.int .i64 t361))) ?hg ?ho ?hn ?hr ?_; (case ho => rfl); (case hg => rfl); (case hn => rfl); (case hr => first | (go_simp; done) | (go_simp; rfl)); intro w47 hw; have hg : w45.grownBy w47 (some go30) := (by rw [hw]; exact HP46.2); have hp_ : Kd.R (Kd.int .i64) 3 w47 w.heap.size (fun k_ => some k_ ≠ (.slice Ao44 x8_19.length co44 : Value).ownBlock) (.slice (some ⟨go30, 0, none⟩) x7_2.length co30) y362 := (by rw [hw, Ny362.out]; exact HP46.1); clear HP46; have n0_ := Aside0.mk (hp_); have n1_ := Aside0.mk (Kd.R_after (v := (.slice (some ⟨go30, 0, none⟩) x7_2.length co30)) (v1 := (.slice (some ⟨go30, 0, none⟩) x7_2.length co30)) (ok := (fun _ => True)) (by (with_reducible repeat (first | apply Kd.R_alloc | apply Kd.R_drewN | apply Kd.R_drew)); exact Kd.R_mono HO_8.out (fun _ hk => ⟨trivial, hk⟩)) hg (.inl rfl)); have n2_ := Aside0.mk ((by rw [hw]; exact below_set (HB.out) GB30.out : Below w.heap.size w w47)); clear HO_7; clear HO_8; clear HB; have HO_7 := n0_; have HO_8 := n1_; have HB := n2_; clear n0_ n1_ n2_; clear hg hw hp_))
                                        go_roundg kj19
                                        case measure => have := HJ2.out; have := HK2.out; have := HJ19.out; omega
                                        case rel => exact ⟨(y362), (x8_19), (wrap64 (x9_2 - 1)), Z4, H', ⟨by have := HJ2.out; have := HK2.out; have := HJ19.out; omega⟩, ⟨by (with_reducible repeat (first | apply Kd.R_alloc | apply Kd.R_drewN | apply Kd.R_drew)); exact HO_7.out⟩, ⟨by (with_reducible repeat (first | apply Kd.R_alloc | apply Kd.R_drewN | apply Kd.R_drew)); exact Kd.R_mono HO_8.out (fun _ hk => hk.2)⟩, ⟨by repeat (first | (with_reducible first | exact HB.out | apply below_alloc | apply pw_below_drewN | apply below_drew1) | exact HB.out)⟩⟩
                                    · rw [if_neg c29] at H
                                      exact absurd H (by simp)
                                  · rw [if_neg c28] at H
                                    exact absurd H (by simp)
                            · rw [if_neg c19] at H
                              exact absurd H (by simp)
                          · rw [if_neg c18] at H
                            exact absurd H (by simp)
                        · rw [if_neg c16] at H
                          exact absurd H (by simp)
                      · rw [if_neg c15] at H
                        exact absurd H (by simp)
                    · rw [if_neg c14] at H
                      exact absurd H (by simp)
                  · rw [if_neg c13] at H
                    have c13b0 : decide (0 ≤ x9_2) = false := decide_eq_false c13
                    clear c13
                    replace H := Option.bind_eq_some_iff.mp H
                    obtain ⟨⟨t349, t350⟩, A480, H⟩ := H
                    replace H : (some (t349, x8_2, 0)) = some (r1, r2, r3) := H
                    have A48 := Aside0.mk A480
                    clear A480
                    simp only [Option.some.injEq, Prod.mk.injEq] at H
                    obtain ⟨rfl, rfl, rfl⟩ := H
                    obtain ⟨Ao49, co49, eo49⟩ := Kd.R_slice HO_7.out
                    subst eo49
                    go_wp2_with (first | ((with_reducible refine gate_callee (f := 56) rfl ?_); refine goesL_ (some 63) rfl rfl Try.func56 Z6 rfl #[.slice Ao49 x7_2.length co49] rfl Z2 ?_; (with_reducible refine (papermillref02_fit.calls k2 _ _ x7_2 t349 t350 _ ?side1 ?side2 A48.out).mono ?_); (case side1 => repeat (first | exact (Kd.R_reads' HO_7.out).2.2 | (with_reducible refine Kd.C_alloc ?_ _) | (with_reducible refine Kd.C_drewN ?_ _) | (with_reducible refine Kd.C_drew ?_))); (case side2 => exact (Kd.R_reads' HO_7.out).2.1); rintro e w50 ⟨v351, rfl, ho0, hb⟩; refine ⟨_, rfl, ?_⟩; have n0_ := Aside0.mk (Kd.R_elder' Z8 (Kd.R_base ho0) hb); have n1_ := Aside0.mk (Kd.R_elder' Z7 (Kd.R_base ho0) hb); have n2_ := Aside0.mk (Kd.R_lower (Kd.R_new' (Kd.R_new' ho0 (Kd.R_lt Z8)) (Kd.R_lt Z7)) (below_size Z0)); have n3_ := Aside0.mk (below_step Z0 hb); clear HO_7; clear HO_8; clear HB; have HO_7 := n0_; have HO_8 := n1_; have HO352 := n2_; have HB := n3_; clear n0_ n1_ n2_ n3_; (try clear hb); (try clear hb2); (try clear hk); (try clear hi); (try clear ho0)))
                    go_ret3
                    exact ⟨_, _, by first | rfl | (simp [errW_none, errW_some] <;> rfl) | (simp [*, errW_none, errW_some] <;> rfl), by (with_reducible repeat (first | apply Kd.R_alloc | apply Kd.R_drewN | apply Kd.R_drew)); exact Kd.R_mono HO352.out (fun _ hk => hk.2), by (with_reducible repeat (first | apply Kd.R_alloc | apply Kd.R_drewN | apply Kd.R_drew)); exact Kd.R_mono HO_8.out (fun _ hk => hk.2), by repeat (first | (with_reducible first | exact HB.out | apply below_alloc | apply pw_below_drewN | apply below_drew1) | exact HB.out)⟩
            · rw [if_neg c10] at H
              exact absurd H (by simp)
          · rw [if_neg c9] at H
            exact absurd H (by simp)
mutual
def papermillref02_Gcd.j0 : Nat → List Int → List Int → Bool → Option (List Int × Int)
  | 0, _, _, _ => none
  | k + 1, x0, x1, x16 => if x16 = true then (some (([] : List Int), 3)) else ((some (([] : List Int) : List Int)).bind fun y374 => (if y374.length + x0.length < 17592186044416 then (papermillref02_Gcd.l0 k (y374 ++ x0) x1) else (none)))
def papermillref02_Gcd.l0 : Nat → List Int → List Int → Option (List Int × Int)
  | 0, _, _ => none
  | k + 1, x0, x1 => if (x1.length : Int) > 0 then ((papermillref02_DivMod.f k x0 x1).bind fun bt380 => ((some (([] : List Int) : List Int)).bind fun y387 => (if y387.length + x1.length < 17592186044416 then (papermillref02_Gcd.l0 k (y387 ++ x1) bt380.2.1) else (none)))) else (some (x0, 0))
end
def papermillref02_Gcd.f (k : Nat) (l0 : List Int) (l1 : List Int) : Option (List Int × Int) := (papermillref02_Valid.f k l0).bind fun t372 => (if t372 = true then ((papermillref02_Valid.f k l1).bind fun t373 => (papermillref02_Gcd.j0 k l0 l1 (!t373))) else (papermillref02_Gcd.j0 k l0 l1 true))
set_option maxHeartbeats 8000000 in
set_option maxRecDepth 100000 in
theorem papermillref02_Gcd.calls (k : Nat) (A0 : Option Addr) (c0 : Nat) (l0 : List Int) (P1_ : Nat → Prop) (A1 : Option Addr) (c1 : Nat) (l1 : List Int) (r1 : List Int) (r2 : Int) (w : World) (hr0 : Kd.C (Kd.int .i64) w A0 l0.length l0) (hc0 : l0.length ≤ c0) (hs1 : Kd.V (Kd.int .i64) 3 w w.heap.size (fun k_ => P1_ k_) (.slice A1 l1.length c1) l1) (h : papermillref02_Gcd.f k l0 l1 = some (r1, r2)) :
    Calls Try.prog 42 #[.slice A0 l0.length c0, .slice A1 l1.length c1] w fun e w' => ∃ v0_ : Value, e = .returned (.tuple #[v0_, .int .i64 r2]) ∧ Kd.R (Kd.int .i64) 3 w' w.heap.size (fun k_ => (w.heap.size ≤ k_)) v0_ r1 ∧ Below w.heap.size w w' := by
  have HR0 := Aside0.mk hr0
  have HC0 := Aside0.mk hc0
  clear hr0 hc0
  have HO1 := Aside0.mk (show Kd.V (Kd.int .i64) 3 w w.heap.size (fun k_ => (P1_ k_ ∨ w.heap.size ≤ k_)) (.slice A1 l1.length c1) l1 from Kd.V_mono hs1 (fun k_ hk => .inl hk))
  have HB := Aside0.mk (Below.refl w.heap.size w)
  have H : ((papermillref02_Valid.f k l0).bind fun t372 => (if t372 = true then ((papermillref02_Valid.f k l1).bind fun t373 => (papermillref02_Gcd.j0 k l0 l1 (!t373))) else (papermillref02_Gcd.j0 k l0 l1 true))) = some (r1, r2) := h
  clear h
  have HC3 := Aside0.mk H
  clear H
  go_enter Try.func42, Try.ntmps42
  go_upto_region 1 with (fail)
  go_cut [16] (fun v16 wc => ∃ (kq : Nat) (x16_2 : Bool), v16 = .bool x16_2 ∧ Aside0 (papermillref02_Gcd.j0 kq l0 l1 x16_2 = some (r1, r2)) ∧ Aside0 (kq ≤ k) ∧ Aside0 (Kd.V (Kd.int .i64) 3 wc w.heap.size (fun k_ => (P1_ k_ ∨ w.heap.size ≤ k_)) (.slice A1 l1.length c1) l1) ∧ Aside0 (Below w.heap.size w wc))
  case first =>
    have H := HC3.out
    clear HC3
    replace H := Option.bind_eq_some_iff.mp H
    obtain ⟨t372, A40, H⟩ := H
    replace H : (if t372 = true then ((papermillref02_Valid.f k l1).bind fun t373 => (papermillref02_Gcd.j0 k l0 l1 (!t373))) else (papermillref02_Gcd.j0 k l0 l1 true)) = some (r1, r2) := H
    have A4 := Aside0.mk A40
    clear A40
    by_cases c5 : t372 = true
    · subst c5
      have H1 : ((papermillref02_Valid.f k l1).bind fun t373 => (papermillref02_Gcd.j0 k l0 l1 (!t373))) = some (r1, r2) := by rw [if_pos rfl] at H; exact H
      clear H
      have H := H1
      clear H1
      replace H := Option.bind_eq_some_iff.mp H
      obtain ⟨t373, A60, H⟩ := H
      replace H : (papermillref02_Gcd.j0 k l0 l1 (!t373)) = some (r1, r2) := H
      have A6 := Aside0.mk A60
      clear A60
      have H' := Aside0.mk H
      clear H
      go_wp2_with (first | ((with_reducible refine gate_callee (f := 41) rfl ?_); refine goesL_ (some 10) rfl rfl Try.func41 Z6 rfl #[.slice A0 l0.length c0] rfl Z2 ?_; (with_reducible refine (papermillref02_Valid.calls k _ _ l0 true _ ?side1 ?side2 A4.out).mono ?_); (case side1 => repeat (first | exact (Kd.C_below HR0.out HB.out) | (with_reducible refine Kd.C_alloc ?_ _) | (with_reducible refine Kd.C_drewN ?_ _) | (with_reducible refine Kd.C_drew ?_))); (case side2 => exact HC0.out); rintro e w' ⟨rfl, ⟨nd, rfl⟩⟩; refine ⟨_, rfl, ?_⟩) | (go_at_call 41; (with_reducible refine (papermillref02_Valid.calls k _ _ l1 t373 _ ?side1 ?side2 A6.out).mono ?_); (case side1 => repeat (first | exact (Kd.V_reads' HO1.out).2.2 | (with_reducible refine Kd.C_alloc ?_ _) | (with_reducible refine Kd.C_drewN ?_ _) | (with_reducible refine Kd.C_drew ?_))); (case side2 => exact (Kd.V_reads' HO1.out).2.1); rintro e w' ⟨rfl, ⟨nd, rfl⟩⟩))
      go_meet
      case rel => exact ⟨_, (!t373), Z4, H', ⟨by first | omega | exact Nat.le_refl _⟩, ⟨by (with_reducible repeat (first | apply Kd.V_alloc | apply Kd.V_drewN | apply Kd.V_drew)); exact HO1.out⟩, ⟨by repeat (first | (with_reducible first | exact HB.out | apply below_alloc | apply pw_below_drewN | apply below_drew1) | exact HB.out)⟩⟩
    · replace c5 := Bool.eq_false_iff.mpr c5
      subst c5
      have H1 : (papermillref02_Gcd.j0 k l0 l1 true) = some (r1, r2) := by rw [if_neg (show ¬ (false = true) by decide)] at H; exact H
      clear H
      have H := H1
      clear H1
      have H' := Aside0.mk H
      clear H
      go_wp2_with (first | ((with_reducible refine gate_callee (f := 41) rfl ?_); refine goesL_ (some 10) rfl rfl Try.func41 Z6 rfl #[.slice A0 l0.length c0] rfl Z2 ?_; (with_reducible refine (papermillref02_Valid.calls k _ _ l0 false _ ?side1 ?side2 A4.out).mono ?_); (case side1 => repeat (first | exact (Kd.C_below HR0.out HB.out) | (with_reducible refine Kd.C_alloc ?_ _) | (with_reducible refine Kd.C_drewN ?_ _) | (with_reducible refine Kd.C_drew ?_))); (case side2 => exact HC0.out); rintro e w' ⟨rfl, ⟨nd, rfl⟩⟩; refine ⟨_, rfl, ?_⟩))
      go_meet
      case rel => exact ⟨_, (true), Z4, H', ⟨by first | omega | exact Nat.le_refl _⟩, ⟨by (with_reducible repeat (first | apply Kd.V_alloc | apply Kd.V_drewN | apply Kd.V_drew)); exact HO1.out⟩, ⟨by repeat (first | (with_reducible first | exact HB.out | apply below_alloc | apply pw_below_drewN | apply below_drew1) | exact HB.out)⟩⟩
  case rest =>
    clear HC3
    try clear c1
    try clear p2
    try clear c4
    try clear c5
    obtain ⟨kq, x16_2, rfl, HA, HJ2, HO_1, HB⟩ := hcut
    cases kq with
    | zero => exact absurd HA.out (by simp [papermillref02_Gcd.j0])
    | succ kj2 =>
      have H := HA.out
      clear HA
      simp only [papermillref02_Gcd.j0] at H
      by_cases c7 : x16_2 = true
      · subst c7
        have H1 : (some (([] : List Int), 3)) = some (r1, r2) := by rw [if_pos rfl] at H; exact H
        clear H
        have H := H1
        clear H1
        simp only [Option.some.injEq, Prod.mk.injEq] at H
        obtain ⟨rfl, rfl⟩ := H
        go_wp2
        go_ret2
        exact ⟨_, by first | rfl | (simp [errW_none, errW_some] <;> rfl) | (simp [*, errW_none, errW_some] <;> rfl), by first | exact Kd.R_nil _ _ _ _ _ | exact Kd.N_nil _ _ _ _ _ | exact Kd.V_nil _ _ _ _ _ | exact Kd.Q_nil _ _ _ _ _ | exact Kd.S_nil _ _ _ _ _, by repeat (first | (with_reducible first | exact HB.out | apply below_alloc | apply pw_below_drewN | apply below_drew1) | exact HB.out)⟩
      · replace c7 := Bool.eq_false_iff.mpr c7
        subst c7
        have H1 : ((some (([] : List Int) : List Int)).bind fun y374 => (if y374.length + l0.length < 17592186044416 then (papermillref02_Gcd.l0 kj2 (y374 ++ l0) l1) else (none))) = some (r1, r2) := by rw [if_neg (show ¬ (false = true) by decide)] at H; exact H
        clear H
        have H := H1
        clear H1
        obtain ⟨y374, hy374⟩ : ∃ y_ : List Int, y_ = (([] : List Int)) := ⟨_, rfl⟩
        replace H : (if y374.length + l0.length < 17592186044416 then (papermillref02_Gcd.l0 kj2 (y374 ++ l0) l1) else (none)) = some (r1, r2) := by first | (rw [hy374]; with_reducible exact H) | (have H2_ := (Option.bind_some _ _).symm.trans H; rw [hy374]; with_reducible exact H2_) | (have H2_ := (Option.bind_some _ _).symm.trans H; with_reducible exact H2_) | with_reducible exact H | (rw [hy374]; exact H) | exact H
        have Ny374 := Aside0.mk hy374
        clear hy374
        by_cases c8 : y374.length + l0.length < 17592186044416
        · rw [if_pos c8] at H
          have LMc8 := Aside0.mk c8
          clear c8
          obtain ⟨y377, hy377⟩ : ∃ y_ : List Int, y_ = (y374 ++ l0) := ⟨_, rfl⟩
          replace H : (papermillref02_Gcd.l0 kj2 y377 l1) = some (r1, r2) := by first | (rw [hy377]; with_reducible exact H) | (have H2_ := (Option.bind_some _ _).symm.trans H; rw [hy377]; with_reducible exact H2_) | (have H2_ := (Option.bind_some _ _).symm.trans H; with_reducible exact H2_) | with_reducible exact H | (rw [hy377]; exact H) | exact H
          have Ny377 := Aside0.mk hy377
          clear hy377
          have H' := Aside0.mk H
          clear H
          go_wp2_with (first | ((with_reducible refine gate_dst (N := 17) rfl ?_); refine Kd.R_lit (Kd.int .i64) _ 3 ?hg (N := 17) ?hd (xs := ([] : List Int)) (inner := []) (ok := fun _ => True) (okp := fun _ => True) ?hr ?hp (fun _ hk => hk) trivial (Below.refl _ _) (Nat.le_refl _) (by simp) ?_; (case hd => rfl); (case hg => rfl); (case hr => first | (go_simp; done) | (go_simp; rfl)); (case hp => exact (Reps.none _ _)); intro v375 w9 ho10 hb hg_ hnew_; clear hg_ hnew_; (first | rw [← Ny374.out] at ho10 | (simp only [Int.reduceToNat] at ho10; rw [← Ny374.out] at ho10)); have n0_ := Aside0.mk (Kd.V_elder' Z9 (Kd.R_base ho10) hb); have n1_ := Aside0.mk (Kd.R_lower (Kd.R_newM (M := fun k_ => (w.heap.size ≤ k_)) ho10 (below_size Z0) (fun k_ h_ => h_)) (below_size Z0)); have n2_ := Aside0.mk (below_step Z0 hb); clear HO_1; clear HB; have HO_1 := n0_; have HO376 := n1_; have HB := n2_; clear n0_ n1_ n2_; clear hb ho10) | ((with_reducible refine gate_builtin (b := .append) (xs := #[.tmp 17, .tmp 18]) rfl ?_); at_builtin; refine Kd.R_append_rows (Kd.int .i64) (w0 := w) w.heap.size rfl (.tmp 17) (.tmp 18) 25 3 (.int .i64 0) 8 rfl Try.underlying25 info3 rfl (by decide) (by omega) v375 y374 l0 _ _ _ (fun k_ => (w.heap.size ≤ k_)) (fun _ => False) rfl rfl ?aO ?aR (fun _ _ h => h) (fun _ h => h.elim) ?aF ?aB ?aS ?aL ?_; (case aR => repeat (first | exact (Kd.C_below HR0.out HB.out) | (with_reducible refine Kd.C_alloc ?_ _) | (with_reducible refine Kd.C_drewN ?_ _) | (with_reducible refine Kd.C_drew ?_))); (case aB => exact Z0); (case aF => exact (fun k_ hk => (Nat.le_trans (below_size Z0) hk))); (case aO => exact (by (with_reducible repeat (first | apply Kd.R_alloc | apply Kd.R_drewN | apply Kd.R_drew)); exact Kd.R_mono HO376.out (fun _ hk => hk.1))); (case aS => exact (below_size Z0)); (case aL => have := LMc8.out; omega); intro v378 w11 ho hb hg hat; rw [← Ny377.out] at ho; have n0_ := Aside0.mk (Kd.V_afterv (ok := (fun k_ => (P1_ k_ ∨ w.heap.size ≤ k_))) Z9 hg hat); have n1_ := Aside0.mk (hb); have n2_ := Aside0.mk (ho); clear HO_1; clear HB; clear HO376; have HO_1 := n0_; have HB := n1_; have HO379 := n2_; clear n0_ n1_ n2_; clear ho hb hg hat))
          go_loopg [0, 1] kj2 (fun kq v0 v1 w' => ∃ (x0_2 : List Int) (x1_2 : List Int), Aside0 (papermillref02_Gcd.l0 kq x0_2 x1_2 = some (r1, r2)) ∧ Aside0 (kq ≤ kj2) ∧ Aside0 (Kd.R (Kd.int .i64) 3 w' w.heap.size (fun k_ => (w.heap.size ≤ k_)) v0 x0_2) ∧ Aside0 (Kd.V (Kd.int .i64) 3 w' w.heap.size (fun k_ => (P1_ k_ ∨ w.heap.size ≤ k_) ∧ some k_ ≠ (v0 : Value).ownBlock) v1 x1_2) ∧ Aside0 (Below w.heap.size w w'))
          case atStart => exact ⟨(y377), (l1), H', ⟨Nat.le_refl _⟩, ⟨by (with_reducible repeat (first | apply Kd.R_alloc | apply Kd.R_drewN | apply Kd.R_drew)); exact HO379.out⟩, ⟨by (with_reducible repeat (first | apply Kd.V_alloc | apply Kd.V_drewN | apply Kd.V_drew)); exact HO_1.out⟩, ⟨by repeat (first | (with_reducible first | exact HB.out | apply below_alloc | apply pw_below_drewN | apply below_drew1) | exact HB.out)⟩⟩
          case round =>
            clear H'
            try clear c1
            try clear p2
            try clear c4
            try clear c5
            try clear c7
            try clear c8
            try clear p2
            obtain ⟨x0_2, x1_2, HA, HK2, HO_0, HO_1, HB⟩ := hrel
            cases gk with
            | zero => exact absurd HA.out (by simp [papermillref02_Gcd.l0])
            | succ k2 =>
              have H := HA.out
              clear HA
              simp only [papermillref02_Gcd.l0] at H
              by_cases c12 : (x1_2.length : Int) > 0
              · rw [if_pos c12] at H
                have c12b0 : decide (0 < (x1_2.length : Int)) = true := decide_eq_true c12
                have c12b1 : decide (0 < x1_2.length) = true := decide_eq_true (by omega)
                clear c12
                replace H := Option.bind_eq_some_iff.mp H
                obtain ⟨⟨t380, t381, t382⟩, A130, H⟩ := H
                replace H : ((some (([] : List Int) : List Int)).bind fun y387 => (if y387.length + x1_2.length < 17592186044416 then (papermillref02_Gcd.l0 k2 (y387 ++ x1_2) t381) else (none))) = some (r1, r2) := H
                have A13 := Aside0.mk A130
                clear A130
                obtain ⟨y387, hy387⟩ : ∃ y_ : List Int, y_ = (([] : List Int)) := ⟨_, rfl⟩
                replace H : (if y387.length + x1_2.length < 17592186044416 then (papermillref02_Gcd.l0 k2 (y387 ++ x1_2) t381) else (none)) = some (r1, r2) := by first | (rw [hy387]; with_reducible exact H) | (have H2_ := (Option.bind_some _ _).symm.trans H; rw [hy387]; with_reducible exact H2_) | (have H2_ := (Option.bind_some _ _).symm.trans H; with_reducible exact H2_) | with_reducible exact H | (rw [hy387]; exact H) | exact H
                have Ny387 := Aside0.mk hy387
                clear hy387
                by_cases c14 : y387.length + x1_2.length < 17592186044416
                · rw [if_pos c14] at H
                  have LMc14 := Aside0.mk c14
                  clear c14
                  obtain ⟨y390, hy390⟩ : ∃ y_ : List Int, y_ = (y387 ++ x1_2) := ⟨_, rfl⟩
                  replace H : (papermillref02_Gcd.l0 k2 y390 t381) = some (r1, r2) := by first | (rw [hy390]; with_reducible exact H) | (have H2_ := (Option.bind_some _ _).symm.trans H; rw [hy390]; with_reducible exact H2_) | (have H2_ := (Option.bind_some _ _).symm.trans H; with_reducible exact H2_) | with_reducible exact H | (rw [hy390]; exact H) | exact H
                  have Ny390 := Aside0.mk hy390
                  clear hy390
                  have H' := Aside0.mk H
                  clear H
                  obtain ⟨Ao15, co15, eo15⟩ := Kd.V_slice HO_1.out
                  subst eo15
                  obtain ⟨Ao16, co16, eo16⟩ := Kd.R_slice HO_0.out
                  subst eo16
                  go_wp2_with (first | ((with_reducible refine gate_callee (f := 55) rfl ?_); refine goesL_ (some 26) rfl rfl Try.func55 Z6 rfl #[.slice Ao16 x0_2.length co16, .slice Ao15 x1_2.length co15] rfl Z2 ?_; (with_reducible refine (papermillref02_DivMod.calls k2 _ _ x0_2 _ _ x1_2 t380 t381 t382 _ ?side1 ?side2 ?side3 ?side4 A13.out).mono ?_); (case side1 => repeat (first | exact (Kd.R_reads' HO_0.out).2.2 | (with_reducible refine Kd.C_alloc ?_ _) | (with_reducible refine Kd.C_drewN ?_ _) | (with_reducible refine Kd.C_drew ?_))); (case side2 => exact (Kd.R_reads' HO_0.out).2.1); (case side3 => repeat (first | exact (Kd.V_reads' HO_1.out).2.2 | (with_reducible refine Kd.C_alloc ?_ _) | (with_reducible refine Kd.C_drewN ?_ _) | (with_reducible refine Kd.C_drew ?_))); (case side4 => exact (Kd.V_reads' HO_1.out).2.1); rintro e w17 ⟨v383, v385, rfl, ho0, ho1, hb⟩; refine ⟨_, rfl, ?_⟩; have n0_ := Aside0.mk (Kd.R_mono (Kd.R_told (Kd.R_told (Kd.R_old Z16 hb) (Kd.R_base ho0)) (Kd.R_base ho1)) (fun _ h_ => h_.1)); have n1_ := Aside0.mk (Kd.V_mono (Kd.V_told (Kd.V_told (Kd.V_old Z9 hb) (Kd.R_base ho0)) (Kd.R_base ho1)) (fun _ h_ => h_.1)); have n2_ := Aside0.mk (Kd.R_lower (Kd.R_new' (Kd.R_newM (M := fun k_ => (w.heap.size ≤ k_)) ho0 (below_size Z0) (fun k_ h_ => h_)) (Kd.R_lt Z16)) (below_size Z0)); have n3_ := Aside0.mk (Kd.R_lower (Kd.R_new' (Kd.R_newM (M := fun k_ => (w.heap.size ≤ k_)) ho1 (below_size Z0) (fun k_ h_ => h_)) (Kd.R_lt Z16)) (below_size Z0)); have n4_ := Aside0.mk (below_step Z0 hb); clear HO_0; clear HO_1; clear HB; have HO_0 := n0_; have HO_1 := n1_; have HO384 := n2_; have HO386 := n3_; have HB := n4_; clear n0_ n1_ n2_ n3_ n4_; (try clear hb); (try clear hb2); (try clear hk); (try clear hi); (try clear ho0); (try clear ho1)) | ((with_reducible refine gate_dst (N := 30) rfl ?_); refine Kd.R_lit (Kd.int .i64) _ 3 ?hg (N := 30) ?hd (xs := ([] : List Int)) (inner := []) (ok := fun _ => True) (okp := fun _ => True) ?hr ?hp (fun _ hk => hk) trivial (Below.refl _ _) (Nat.le_refl _) (by simp) ?_; (case hd => rfl); (case hg => rfl); (case hr => first | (go_simp; done) | (go_simp; rfl)); (case hp => exact (Reps.none _ _)); intro v388 w18 ho19 hb hg_ hnew_; clear hg_ hnew_; (first | rw [← Ny387.out] at ho19 | (simp only [Int.reduceToNat] at ho19; rw [← Ny387.out] at ho19)); have n0_ := Aside0.mk (Kd.R_elder' Z16 (Kd.R_base ho19) hb); have n1_ := Aside0.mk (Kd.V_elder' Z9 (Kd.R_base ho19) hb); have n2_ := Aside0.mk (Kd.R_elder' Z30 (Kd.R_base ho19) hb); have n3_ := Aside0.mk (Kd.R_elder' Z22 (Kd.R_base ho19) hb); have n4_ := Aside0.mk (Kd.R_lower (Kd.R_new' (Kd.R_new' (Kd.R_new' (Kd.R_newM (M := fun k_ => (w.heap.size ≤ k_)) ho19 (below_size Z0) (fun k_ h_ => h_)) (Kd.R_lt Z16)) (Kd.R_lt Z30)) (Kd.R_lt Z22)) (below_size Z0)); have n5_ := Aside0.mk (below_step Z0 hb); clear HO_0; clear HO_1; clear HO384; clear HO386; clear HB; have HO_0 := n0_; have HO_1 := n1_; have HO384 := n2_; have HO386 := n3_; have HO389 := n4_; have HB := n5_; clear n0_ n1_ n2_ n3_ n4_ n5_; clear hb ho19) | ((with_reducible refine gate_builtin (b := .append) (xs := #[.tmp 30, .tmp 31]) rfl ?_); at_builtin; refine Kd.R_append_rows (Kd.int .i64) (w0 := w) w.heap.size rfl (.tmp 30) (.tmp 31) 25 3 (.int .i64 0) 8 rfl Try.underlying25 info3 rfl (by decide) (by omega) v388 y387 x1_2 _ _ _ (fun k_ => (w.heap.size ≤ k_) ∧ some k_ ≠ (.slice Ao16 x0_2.length co16 : Value).ownBlock ∧ some k_ ≠ (v383 : Value).ownBlock ∧ some k_ ≠ (v385 : Value).ownBlock) (fun _ => False) rfl rfl ?aO ?aR (fun _ _ h => h) (fun _ h => h.elim) ?aF ?aB ?aS ?aL ?_; (case aR => repeat (first | exact (Kd.V_reads' HO_1.out).2.2 | (with_reducible refine Kd.C_alloc ?_ _) | (with_reducible refine Kd.C_drewN ?_ _) | (with_reducible refine Kd.C_drew ?_))); (case aB => exact Z0); (case aF => exact (fun k_ hk => ⟨(Nat.le_trans (below_size Z0) hk), Kd.fresh' (Kd.R_lt Z16) k_ hk, Kd.fresh' (Kd.R_lt Z30) k_ hk, Kd.fresh' (Kd.R_lt Z22) k_ hk⟩)); (case aO => exact (by (with_reducible repeat (first | apply Kd.R_alloc | apply Kd.R_drewN | apply Kd.R_drew)); exact Kd.R_mono HO389.out (fun _ hk => ⟨hk.1.1.1.1, ⟨hk.1.1.2, ⟨hk.1.2, hk.2⟩⟩⟩))); (case aS => exact (below_size Z0)); (case aL => have := LMc14.out; omega); intro v391 w20 ho hb hg hat; rw [← Ny390.out] at ho; have n0_ := Aside0.mk (Kd.R_after (ok := (fun k_ => (w.heap.size ≤ k_) ∧ some k_ ≠ (v383 : Value).ownBlock ∧ some k_ ≠ (v385 : Value).ownBlock)) (by (with_reducible repeat (first | apply Kd.R_alloc | apply Kd.R_drewN | apply Kd.R_drew)); exact Kd.R_mono HO_0.out (fun _ hk => ⟨⟨hk.1.1.1, ⟨hk.1.1.2, hk.1.2⟩⟩, hk.2⟩)) hg hat); have n1_ := Aside0.mk (Kd.V_afterv (ok := (fun k_ => (P1_ k_ ∨ w.heap.size ≤ k_) ∧ some k_ ≠ (.slice Ao16 x0_2.length co16 : Value).ownBlock ∧ some k_ ≠ (v383 : Value).ownBlock ∧ some k_ ≠ (v385 : Value).ownBlock)) (by (with_reducible repeat (first | apply Kd.V_alloc | apply Kd.V_drewN | apply Kd.V_drew)); exact Kd.V_mono HO_1.out (fun _ hk => ⟨⟨hk.1.1.1.1, ⟨hk.1.1.1.2, ⟨hk.1.1.2, hk.1.2⟩⟩⟩, hk.2⟩)) hg hat); have n2_ := Aside0.mk (Kd.R_after (ok := (fun k_ => (w.heap.size ≤ k_) ∧ some k_ ≠ (.slice Ao16 x0_2.length co16 : Value).ownBlock ∧ some k_ ≠ (v385 : Value).ownBlock)) (by (with_reducible repeat (first | apply Kd.R_alloc | apply Kd.R_drewN | apply Kd.R_drew)); exact Kd.R_mono HO384.out (fun _ hk => ⟨⟨hk.1.1.1, ⟨hk.1.2, hk.1.1.2⟩⟩, hk.2⟩)) hg hat); have n3_ := Aside0.mk (Kd.R_after (ok := (fun k_ => (w.heap.size ≤ k_) ∧ some k_ ≠ (.slice Ao16 x0_2.length co16 : Value).ownBlock ∧ some k_ ≠ (v383 : Value).ownBlock)) (by (with_reducible repeat (first | apply Kd.R_alloc | apply Kd.R_drewN | apply Kd.R_drew)); exact Kd.R_mono HO386.out (fun _ hk => ⟨⟨hk.1.1.1, ⟨hk.1.2, hk.1.1.2⟩⟩, hk.2⟩)) hg hat); have n4_ := Aside0.mk (hb); have n5_ := Aside0.mk (ho); clear HO_0; clear HO_1; clear HO384; clear HO386; clear HB; clear HO389; have HO_0 := n0_; have HO_1 := n1_; have HO384 := n2_; have HO386 := n3_; have HB := n4_; have HO392 := n5_; clear n0_ n1_ n2_ n3_ n4_ n5_; clear ho hb hg hat))
                  go_roundg k2
                  case measure => have := HJ2.out; have := HK2.out; omega
                  case rel => exact ⟨(y390), (t381), H', ⟨by have := HJ2.out; have := HK2.out; omega⟩, ⟨by (with_reducible repeat (first | apply Kd.R_alloc | apply Kd.R_drewN | apply Kd.R_drew)); exact Kd.R_mono HO392.out (fun _ hk => hk.1)⟩, ⟨Kd.V_mono (Kd.R_V Z22) (fun k_ hk => by first | exact ⟨.inr hk.1.1, hk.2⟩ | exact ⟨(.inr (hk.1)), hk.2⟩ | exact (.inr (hk)))⟩, ⟨by repeat (first | (with_reducible first | exact HB.out | apply below_alloc | apply pw_below_drewN | apply below_drew1) | exact HB.out)⟩⟩
                · rw [if_neg c14] at H
                  exact absurd H (by simp)
              · rw [if_neg c12] at H
                have c12b0 : decide (0 < (x1_2.length : Int)) = false := decide_eq_false c12
                have c12b1 : decide (0 < x1_2.length) = false := decide_eq_false (by omega)
                clear c12
                simp only [Option.some.injEq, Prod.mk.injEq] at H
                obtain ⟨rfl, rfl⟩ := H
                obtain ⟨Ao21, co21, eo21⟩ := Kd.V_slice HO_1.out
                subst eo21
                go_wp2
                go_ret2
                exact ⟨_, by first | rfl | (simp [errW_none, errW_some] <;> rfl) | (simp [*, errW_none, errW_some] <;> rfl), by (with_reducible repeat (first | apply Kd.R_alloc | apply Kd.R_drewN | apply Kd.R_drew)); exact HO_0.out, by repeat (first | (with_reducible first | exact HB.out | apply below_alloc | apply pw_below_drewN | apply below_drew1) | exact HB.out)⟩
        · rw [if_neg c8] at H
          exact absurd H (by simp)
end Go.Proofs.Ytbjamhkhocjdkaa.Px
namespace Go.Proofs.Ytbjamhkhocjdkaa.Px
open Go.RowKit Go.Proofs.YtbjamhkhocjdkaaW.PrintWords Go.Proofs.YtbjamhkhocjdkaaW.PrintLast Go.Proofs.YtbjamhkhocjdkaaW.PrintMore Go.Proofs.Ytbjamhkhocjdkaa.Mat
set_option linter.unusedVariables false
theorem er_times_l2 (l : List Int) (h : Dig l) (hb : l.length ≤ 1000000000) : ∀ (d : Nat), d ≤ l.length → val (l.drop d) = 0 →
    Ev (fun k => papermillref02_times.l2 k l d) (dg (val l)) := by
  intro d
  induction d with
  | zero =>
    intro hd hv
    refine Ev.step (f := fun _ => some _) (fun k => ?_) (Ev.now _)
    simp only [papermillref02_times.l2]
    rw [if_neg (by omega), if_pos (by omega), if_pos (by omega)]
    rw [List.drop_zero] at hv
    rw [hv, dg_zero]; simp
  | succ d ih =>
    intro hd hv
    have e1 : (((d + 1 : Nat) : Int) - 1) = d := by omega
    by_cases c : rd l d = 0
    · have hv' : val (l.drop d) = 0 := by
        have := val_drop (l := l) (i := (d : Int)) (by omega) (by omega)
        simp only [Int.toNat_natCast] at this
        rw [this, c, hv]; rfl
      refine Ev.step (fun k => ?_) (ih (by omega) hv')
      simp only [papermillref02_times.l2]
      rw [if_pos (by omega), w64 (by omega) (by omega), e1, if_pos (by omega), if_pos (by omega), if_pos c]
    · refine Ev.step (f := fun _ => some _) (fun k => ?_) (Ev.now _)
      simp only [papermillref02_times.l2]
      rw [if_pos (by omega), w64 (by omega) (by omega), e1, if_pos (by omega), if_pos (by omega), if_neg c, if_pos (by omega), if_pos (by omega)]
      congr 1
      have e2 : ((d + 1 : Nat) : Int).toNat = d + 1 := by omega
      rw [e2]
      have hn : Nrm (l.take (d + 1)) := by
        refine nrm_of_last (h.take _) fun i hi h0 => ?_
        rw [List.length_take, Nat.min_eq_left hd] at hi
        have : i = d := by omega
        subst this
        have h2 : rd l d = rd (l.take (d + 1) ++ l.drop (d + 1)) d := by rw [List.take_append_drop]
        rw [h2, rd_append_left (by rw [List.length_take]; omega)] at c
        exact c
      have h3 := val_split l (d + 1) hd
      rw [hv, Int.mul_zero, Int.add_zero] at h3
      rw [h3, dg_val hn]
theorem take_step' (b : List Int) (t : Nat) : val (b.take (t + 1)) = val (b.take t) + pw t * rd b t := by
  by_cases h : t < b.length
  · exact take_step b t h
  · rw [rd_ge (by omega), List.take_of_length_le (by omega), List.take_of_length_le (by omega)]; omega
theorem er_times_l1 (a b : List Int) (ha : Dig a) (hb : Dig b) (hal : a.length ≤ 1000) (hbl : b.length ≤ 1000) (i : Int) (hi0 : 0 ≤ i) (hi1 : i < a.length) (F : List Int) (V : Int)
    (hnext : ∀ x : List Int, Dig x → x.length = a.length + b.length → val x = V + rd a i * val b * pw i.toNat → (∀ t : Nat, i + b.length + 1 ≤ t → rd x t = 0) → Ev (fun k => papermillref02_times.l0 k a b x (wrap64 (i + 1))) F) :
    ∀ (d : Nat) (x : List Int) (c t : Int), Dig x → x.length = a.length + b.length → 0 ≤ t → t ≤ b.length + 1 → (b.length : Int) + 1 - t = d → 0 ≤ c → c < 1000000000 → (t = b.length + 1 → c = 0) →
    val x + c * pw (i.toNat + t.toNat) = V + rd a i * val (b.take t.toNat) * pw i.toNat → (∀ s : Nat, i + b.length + 1 ≤ s → rd x s = 0) → (t ≤ b.length → rd x (i + b.length) = 0) →
    Ev (fun k => papermillref02_times.l1 k a b x i c t) F := by
  intro d
  induction d with
  | zero =>
    intro x c t hx hxl h0 h1 hd hc0 hc1 hcz hV hz hz2
    have et : t.toNat = b.length + 1 := by omega
    have hc := hcz (by omega)
    rw [et, List.take_of_length_le (by omega), hc] at hV
    refine Ev.step (fun k => ?_) (hnext x hx hxl (by rw [← hV]; omega) hz)
    simp only [papermillref02_times.l1]
    rw [if_neg (by omega), if_neg (by omega)]
  | succ d ih =>
    intro x c t hx hxl h0 h1 hd hc0 hc1 hcz hV hz hz2
    have hr := hx.rd (i + t)
    have hm := mul_lt (ha.rd i) (hb.rd t)
    have et : (t + 1).toNat = t.toNat + 1 := by omega
    have eit : (i + t).toNat = i.toNat + t.toNat := by omega
    have hsum : 0 ≤ rd x (i + t) + rd a i * rd b t + c := by omega
    have hdm := Int.emod_add_mul_ediv (rd x (i + t) + rd a i * rd b t + c) 1000000000
    have htk := take_step' b t.toNat
    have e3 : ((t.toNat : Nat) : Int) = t := by omega
    rw [e3] at htk
    have hp := pw_add i.toNat t.toNat
    have step : Ev (fun k => papermillref02_times.l1 k a b (x.set (i + t).toNat ((rd x (i + t) + rd a i * rd b t + c) % 1000000000)) i ((rd x (i + t) + rd a i * rd b t + c) / 1000000000) (t + 1)) F := by
      have hs := val_set (l := x) (i := i + t) ((rd x (i + t) + rd a i * rd b t + c) % 1000000000) (by omega) (by omega)
      refine ih _ _ _ (hx.set _ (by omega)) (by rw [List.length_set]; exact hxl) (by omega) (by omega) (by omega) (by omega) (by omega) (fun h => ?_)
        (by rw [hs, et, htk, eit, ← Nat.add_assoc, pw_succ, hp]; rw [hp] at hV; grind) (fun s hs => by rw [rd_set_ne _ (by omega)]; exact hz s (by omega)) (fun h => by rw [rd_set_ne _ (by omega)]; exact hz2 (by omega))
      have htb : t = b.length := by omega
      have z1 := hz2 (by omega)
      rw [← htb] at z1
      rw [z1, rd_ge (l := b) (by omega)]
      omega
    by_cases cb : t < b.length
    · refine Ev.step (fun k => ?_) step
      simp only [papermillref02_times.l1]
      rw [if_pos cb, w64 (x := i + t) (by omega) (by omega), if_pos (by omega), if_pos (by omega), if_pos hi0, if_pos hi1, at_e b t h0, Option.bind_some,
        w64 (x := rd a i * rd b t) (by omega) (by omega), w64 (x := rd x (i + t) + rd a i * rd b t) (by omega) (by omega), w64 (x := rd x (i + t) + rd a i * rd b t + c) (by omega) (by omega), tmod_e hsum, tdiv_e hsum, w64 (by omega) (by omega), w64 (by omega) (by omega)]
    · have htb : t = b.length := by omega
      by_cases cc : c > 0
      · refine Ev.step (fun k => ?_) step
        simp only [papermillref02_times.l1]
        rw [if_neg cb, if_pos cc, w64 (x := i + t) (by omega) (by omega), if_pos (by omega), if_pos (by omega), if_pos hi0, if_pos hi1, at_e b t h0, Option.bind_some,
          w64 (x := rd a i * rd b t) (by omega) (by omega), w64 (x := rd x (i + t) + rd a i * rd b t) (by omega) (by omega), w64 (x := rd x (i + t) + rd a i * rd b t + c) (by omega) (by omega), tmod_e hsum, tdiv_e hsum, w64 (by omega) (by omega), w64 (by omega) (by omega)]
      · have hcz2 : c = 0 := by omega
        rw [htb, hcz2, show ((b.length : Int)).toNat = b.length by omega, List.take_length] at hV
        refine Ev.step (fun k => ?_) (hnext x hx hxl (by rw [← hV]; omega) hz)
        simp only [papermillref02_times.l1]
        rw [if_neg cb, if_neg cc]
theorem er_times_l0 (a b : List Int) (ha : Dig a) (hb : Dig b) (hal : a.length ≤ 1000) (hbl : b.length ≤ 1000) : ∀ (d : Nat) (x : List Int) (i : Int), Dig x → x.length = a.length + b.length → 0 ≤ i → i ≤ a.length → (a.length : Int) - i = d →
    val x = val (a.take i.toNat) * val b → (∀ s : Nat, i + b.length ≤ s → rd x s = 0) → Ev (fun k => papermillref02_times.l0 k a b x i) (dg (val a * val b)) := by
  intro d
  induction d with
  | zero =>
    intro x i hx hxl h0 h1 hd hV hz
    have ei : i.toNat = a.length := by omega
    rw [ei, List.take_length] at hV
    have := er_times_l2 x hx (by omega) x.length (Nat.le_refl _) (by rw [List.drop_length]; rfl)
    rw [hV] at this
    refine Ev.step (fun k => ?_) this
    simp only [papermillref02_times.l0]
    rw [if_neg (by omega)]
  | succ d ih =>
    intro x i hx hxl h0 h1 hd hV hz
    have ei : (i + 1).toNat = i.toNat + 1 := by omega
    have hts := take_step a i.toNat (by omega)
    have e2 : ((i.toNat : Nat) : Int) = i := by omega
    rw [e2] at hts
    have hz3 := hz (i + b.length).toNat (by omega)
    have e3 : (((i + (b.length : Int)).toNat : Nat) : Int) = i + (b.length : Int) := by omega
    rw [e3] at hz3
    have := er_times_l1 a b ha hb hal hbl i h0 (by omega) (dg (val a * val b)) (val x) (fun y hy hyl hyv hyz => by
      rw [w64 (by omega) (by omega)]
      exact ih y (i + 1) hy hyl (by omega) (by omega) (by omega) (by rw [ei, hts, hyv, hV]; grind) (fun s hs => hyz s (by omega))) (b.length + 1) x 0 0 hx hxl (by omega) (by omega) (by omega) (by omega) (by omega) (by omega) (by simp [val]) (fun s hs => hz s (by omega)) (fun _ => hz3)
    refine Ev.step (fun k => ?_) this
    simp only [papermillref02_times.l0]
    rw [if_pos (by omega)]
theorem er_times (a b : List Int) (ha : Dig a) (hb : Dig b) (hal : a.length ≤ 400) (hbl : b.length ≤ 400) : Ev (fun k => papermillref02_times.f k a b) (dg (val a * val b)) := by
  have := er_times_l0 a b ha hb (by omega) (by omega) a.length (List.replicate (a.length + b.length) 0) 0 (Dig.rep _) (by simp) (by omega) (by omega) (by omega) (by rw [val_rep]; simp [val]) (fun s _ => rd_rep _ _)
  refine Ev.congr (fun k => ?_) this
  unfold papermillref02_times.f
  have e : ((a.length : Int) + (b.length : Int)).toNat = a.length + b.length := by omega
  rw [w64 (by omega) (by omega), if_pos (by omega), if_pos (by omega), e]
theorem mul_le_pw {a b : List Int} (ha : Dig a) (hb : Dig b) : 0 ≤ val a * val b ∧ val a * val b < pw (a.length + b.length) := by
  refine ⟨Int.mul_nonneg (val_nonneg ha) (val_nonneg hb), ?_⟩
  rw [pw_add]
  have h1 := val_lt ha
  have h2 := val_lt hb
  have h3 := val_nonneg ha
  have h4 := val_nonneg hb
  have h5 := Int.mul_le_mul (show val a ≤ pw a.length - 1 by omega) (show val b ≤ pw b.length - 1 by omega) h4 (by omega)
  have h6 := pw_pos a.length
  have h7 := pw_pos b.length
  have h8 : (pw a.length - 1) * (pw b.length - 1) = pw a.length * pw b.length - pw a.length - pw b.length + 1 := by grind
  omega
theorem er_Mul (a b : List Int) (ha : Sml a) (hb : Sml b) : Ev (fun k => papermillref02_Mul.f k a b) (mulS a b) := by
  unfold papermillref02_Mul.f mulS
  refine two_checks (V := papermillref02_Valid.f) (fun l hl => er_Valid l (by rcases hl with rfl | rfl <;> assumption)) (J := fun k t => papermillref02_Mul.j0 k a b t) (fun ca cb => ?_) ?_
  · have oa := okN_iff.1 ca
    have ob := okN_iff.1 cb
    have h1 := oa.1
    have h2 := ob.1
    have h3 := mul_le_pw oa.2.1 ob.2.1
    have hf := er_fit (dg (val a * val b)) (nrm_dg _).1 (by have := (dg_len h3.1).2 h3.2; omega)
    rw [val_dg h3.1] at hf
    refine Ev.step (f := fun k => (papermillref02_times.f k a b).bind fun t => papermillref02_fit.f k t) (fun k => ?_) (Ev.bind (er_times a b oa.2.1 ob.2.1 (by omega) (by omega)) hf)
    simp only [papermillref02_Mul.j0]
    rw [if_neg (by simp)]
    congr 1
    funext t
    cases papermillref02_fit.f k t with
    | none => rfl
    | some p => rfl
  · refine Ev.step (f := fun _ => some _) (fun k => ?_) (Ev.now _)
    simp [papermillref02_Mul.j0]
theorem er_digit_l0 (r b : List Int) (hr : Nrm r) (hb : Nrm b) (hrl : r.length ≤ 200) (hbl : b.length ≤ 100) (hbp : 0 < val b) : ∀ (n : Nat) (lo hi : Int), hi - lo < n → 0 ≤ lo → lo ≤ hi → hi ≤ 999999999 → lo ≤ val r / val b → (val r / val b ≤ hi) →
    Ev (fun k => papermillref02_digit.l0 k r b lo hi) (val r / val b) := by
  intro n
  induction n with
  | zero => intro lo hi h; omega
  | succ n ih =>
    intro lo hi hn h0 h1 h2 hl hh
    by_cases c : lo < hi
    · obtain ⟨m, hm⟩ : ∃ m, (lo + hi + 1) / 2 = m := ⟨_, rfl⟩
      have hm1 : lo < m ∧ m ≤ hi := by omega
      have hDm : Dig [m] := Dig.cons (by omega) Dig.nil
      have hvm : val [m] = m := by simp [val]
      have ht := er_times b [m] hb.1 hDm (by omega) (by simp)
      rw [hvm] at ht
      have hb0 := val_nonneg hb.1
      have hbm : 0 ≤ val b * m := Int.mul_nonneg hb0 (by omega)
      have hw := (mul_le_pw hb.1 hDm).2
      rw [hvm] at hw
      have hl2 := (dg_len hbm).2 hw
      have hc := er_compare (dg (val b * m)) r (nrm_dg _) hr (by simp at hl2; omega)
      rw [val_dg hbm] at hc
      have hstep : ∀ k, papermillref02_digit.l0 (k + 1) r b lo hi = (papermillref02_times.f k b [m]).bind fun t => (papermillref02_compare.f k t r).bind fun s => if s ≤ 0 then papermillref02_digit.l0 k r b m hi else papermillref02_digit.l0 k r b lo (m - 1) := by
        intro k
        simp only [papermillref02_digit.l0]
        rw [if_pos c, w64 (x := lo + hi) (by omega) (by omega), w64 (x := lo + hi + 1) (by omega) (by omega), tdiv_e (by omega), hm, w64 (x := m) (by omega) (by omega), w64 (x := m - 1) (by omega) (by omega)]
      by_cases cm : val b * m ≤ val r
      · have hs : cmpS (val b * m) (val r) ≤ 0 := by unfold cmpS; split <;> (try split) <;> omega
        refine Ev.step hstep (Ev.bind ht (Ev.bind hc (Ev.congr (fun k => if_pos hs) (ih m hi (by omega) (by omega) hm1.2 h2 ?_ hh))))
        exact Int.le_ediv_of_mul_le hbp (by rw [Int.mul_comm]; exact cm)
      · have hs : ¬ cmpS (val b * m) (val r) ≤ 0 := by unfold cmpS; rw [if_neg (by omega), if_pos (by omega)]; omega
        refine Ev.step hstep (Ev.bind ht (Ev.bind hc (Ev.congr (fun k => if_neg hs) (ih lo (m - 1) (by omega) h0 (by omega) (by omega) hl ?_))))
        have : val r / val b < m := Int.ediv_lt_of_lt_mul hbp (by rw [Int.mul_comm]; omega)
        omega
    · have he : val r / val b = lo := by omega
      rw [he]
      refine Ev.step (f := fun _ => some _) (fun k => ?_) (Ev.now _)
      simp only [papermillref02_digit.l0]
      rw [if_neg c]
theorem er_digit (r b : List Int) (hr : Nrm r) (hb : Nrm b) (hrl : r.length ≤ 200) (hbl : b.length ≤ 100) (hbp : 0 < val b) (hlt : val r < 1000000000 * val b) : Ev (fun k => papermillref02_digit.f k r b) (val r / val b) := by
  have h1 : 0 ≤ val r / val b := Int.ediv_nonneg (val_nonneg hr.1) (by omega)
  have h2 : val r / val b < 1000000000 := Int.ediv_lt_of_lt_mul hbp hlt
  exact er_digit_l0 r b hr hb hrl hbl hbp 1000000000 0 999999999 (by omega) (by omega) (by omega) (by omega) h1 (by omega)
theorem nrm_cons {d : Int} {l : List Int} (hd : 0 ≤ d ∧ d < 1000000000) (hl : Nrm l) (hne : l ≠ []) : Nrm (d :: l) := by
  refine ⟨Dig.cons hd hl.1, fun h => ?_⟩
  rw [List.getLast_cons hne]
  exact hl.2 hne
theorem er_DivMod_l0 (a b : List Int) (ha : Dig a) (hb : Nrm b) (hal : a.length ≤ 100) (hbl : b.length ≤ 100) (hbp : 0 < val b) (haw : val a < pw 48) : ∀ (d : Nat) (q r : List Int), Dig q → q.length = a.length → Nrm r → val r < val b → d ≤ a.length →
    val (a.drop d) = val b * val (q.drop d) + val r → (∀ s : Nat, s < d → rd q s = 0) → Ev (fun k => papermillref02_DivMod.l0 k a b q r ((d : Int) - 1)) (dg (val a / val b), dg (val a % val b), 0) := by
  intro d
  induction d with
  | zero =>
    intro q r hq hql hr hlt hd hV hz
    simp only [List.drop_zero] at hV
    have hr0 := val_nonneg hr.1
    obtain ⟨h1, h2⟩ := divmod_unique (a := val a) (b := val b) (q := val q) (r := val r) (by omega) hr0 hlt
    rw [h1, h2, dg_val hr]
    have hf := er_fit q hq (by omega)
    have hq0 := val_nonneg hq
    have hqle : val q ≤ val a := by
      have := Int.mul_le_mul_of_nonneg_right (show 1 ≤ val b by omega) hq0
      omega
    unfold fitS at hf
    rw [if_pos (by omega)] at hf
    refine Ev.step (f := fun k => (papermillref02_fit.f k q).bind fun p => some (p.1, r, 0)) (fun k => ?_) (Ev.bind hf (Ev.now _))
    simp only [papermillref02_DivMod.l0]
    rw [if_neg (by omega)]
  | succ d ih =>
    intro q r hq hql hr hlt hd hV hz
    have e1 : (((d + 1 : Nat) : Int) - 1) = d := by omega
    have ed : ((d : Int)).toNat = d := by omega
    have hra := ha.rd d
    have hda := val_drop (l := a) (i := (d : Int)) (by omega) (by omega)
    rw [ed] at hda
    have hr0 := val_nonneg hr.1
    have hrl : r.length ≤ 100 := by
      have := (len_le hr (n := b.length)).2 (by have := val_lt hb.1; omega)
      omega
    have key : ∀ r2 : List Int, Nrm r2 → r2.length ≤ 101 → val r2 = rd a d + 1000000000 * val r → Ev (fun k => papermillref02_DivMod.j2 k a b q r2 d) (dg (val a / val b), dg (val a % val b), 0) := by
      intro r2 hr2 hl2 hv2
      have hlt2 : val r2 < 1000000000 * val b := by omega
      have hE1 := er_digit r2 b hr2 hb (by omega) hbl hbp hlt2
      have hdm := Int.emod_add_mul_ediv (val r2) (val b)
      have hm0 := Int.emod_nonneg (val r2) (show val b ≠ 0 by omega)
      have hm1 := Int.emod_lt_of_pos (val r2) hbp
      have hr20 := val_nonneg hr2.1
      have hqt0 : 0 ≤ val r2 / val b := Int.ediv_nonneg hr20 (by omega)
      have hqt1 : val r2 / val b < 1000000000 := Int.ediv_lt_of_lt_mul hbp hlt2
      obtain ⟨t, ht⟩ : ∃ t, val r2 / val b = t := ⟨_, rfl⟩
      obtain ⟨m, hm⟩ : ∃ m, val r2 % val b = m := ⟨_, rfl⟩
      rw [ht] at hE1 hdm hqt0 hqt1
      rw [hm] at hdm hm0 hm1
      have hdx := val_drop (l := q.set d t) (i := (d : Int)) (by omega) (by rw [List.length_set]; omega)
      rw [ed] at hdx
      have hrs := rd_set_eq (l := q) (i := (d : Int)) t (by omega)
      rw [ed] at hrs
      rw [hrs, List.drop_set_of_lt (show d < d + 1 by omega)] at hdx
      have fin : ∀ r3 : List Int, Nrm r3 → val r3 = m → Ev (fun k => papermillref02_DivMod.l0 k a b (q.set d t) r3 ((d : Int) - 1)) (dg (val a / val b), dg (val a % val b), 0) := by
        intro r3 hr3 hv3
        refine ih (q.set d t) r3 (hq.set _ ⟨hqt0, hqt1⟩) (by rw [List.length_set]; exact hql) hr3 (by omega) (by omega) ?_ (fun s hs => ?_)
        · rw [hda, hdx, hV, hv3]
          have : val r2 = m + val b * t := by omega
          grind
        · have := rd_set_ne (l := q) (i := (d : Int)) (j := (s : Int)) t (by omega)
          rw [ed] at this
          rw [this]; exact hz s (by omega)
      by_cases ct : t > 0
      · have hDt : Dig [t] := Dig.cons ⟨hqt0, hqt1⟩ Dig.nil
        have hvt : val [t] = t := by simp [val]
        have hE2 := er_times b [t] hb.1 hDt (by omega) (by simp)
        rw [hvt] at hE2
        have hbt0 : 0 ≤ val b * t := Int.mul_nonneg (by omega) hqt0
        have hE3 := er_minus r2 (dg (val b * t)) hr2 (nrm_dg _) (by omega) (by rw [val_dg hbt0]; omega) (by
          rw [val_dg hbt0]
          have h1 : val r2 - val b * t = m := by omega
          have h2 : m < val b := hm1
          have h3 : val a ≥ 0 := val_nonneg ha
          have h4 := val_lt hb.1
          have h5 : m ≤ val a := by
            have h6 := val_split a d (by omega)
            have h7 := val_nonneg (ha.take d)
            have h8 := val_nonneg (hq.drop (d + 1))
            have h9 : 0 ≤ val b * val (q.drop (d + 1)) := Int.mul_nonneg (by omega) h8
            have h10 : val r2 ≤ val (a.drop d) := by rw [hda, hv2, hV]; omega
            have h11 := pw_pos d
            have h12 := Int.mul_le_mul_of_nonneg_right (show 1 ≤ pw d by omega) (val_nonneg (ha.drop d))
            omega
          omega)
        rw [val_dg hbt0] at hE3
        have hmm : val r2 - val b * t = m := by omega
        rw [hmm] at hE3
        have hfin := fin (dg m) (nrm_dg _) (val_dg hm0)
        refine Ev.step (f := fun k => (papermillref02_digit.f k r2 b).bind fun t407 => (if 0 ≤ (d : Int) then (if (d : Int) < (q.length : Int) then ((some (q.set ((d : Int)).toNat t407 : List Int)).bind fun y408 => (if t407 > 0 then ((papermillref02_times.f k b (([t407] : List Int))).bind fun t412 => ((papermillref02_minus.f k r2 t412).bind fun t415 => (papermillref02_DivMod.l0 k a b y408 t415 (wrap64 ((d : Int) - 1))))) else (papermillref02_DivMod.l0 k a b y408 r2 (wrap64 ((d : Int) - 1))))) else (none)) else (none))) (fun k => by simp only [papermillref02_DivMod.j2]) (Ev.bind hE1 ?_)
        refine Ev.congr (f := fun k => (papermillref02_times.f k b [t]).bind fun t412 => (papermillref02_minus.f k r2 t412).bind fun t415 => papermillref02_DivMod.l0 k a b (q.set d t) t415 ((d : Int) - 1)) (fun k => ?_) (Ev.bind hE2 (Ev.bind hE3 hfin))
        rw [if_pos (by omega), if_pos (by omega), Option.bind_some, if_pos ct, ed, w64 (by omega) (by omega)]
      · have ht0 : t = 0 := by omega
        have hmm : val r2 = m := by rw [ht0] at hdm; omega
        have hfin := fin r2 hr2 hmm
        refine Ev.step (f := fun k => (papermillref02_digit.f k r2 b).bind fun t407 => (if 0 ≤ (d : Int) then (if (d : Int) < (q.length : Int) then ((some (q.set ((d : Int)).toNat t407 : List Int)).bind fun y408 => (if t407 > 0 then ((papermillref02_times.f k b (([t407] : List Int))).bind fun t412 => ((papermillref02_minus.f k r2 t412).bind fun t415 => (papermillref02_DivMod.l0 k a b y408 t415 (wrap64 ((d : Int) - 1))))) else (papermillref02_DivMod.l0 k a b y408 r2 (wrap64 ((d : Int) - 1))))) else (none)) else (none))) (fun k => by simp only [papermillref02_DivMod.j2]) (Ev.bind hE1 ?_)
        refine Ev.congr (fun k => ?_) hfin
        rw [if_pos (by omega), if_pos (by omega), Option.bind_some, if_neg ct, ed, w64 (by omega) (by omega)]
    have hlen1 : (([rd a d] ++ r : List Int).length : Int) - 1 = (r.length : Int) := by simp
    have hstep : ∀ k, papermillref02_DivMod.l0 (k + 1) a b q r (((d + 1 : Nat) : Int) - 1) = if rd ([rd a d] ++ r) r.length = 0 then papermillref02_DivMod.j2 k a b q [] d else papermillref02_DivMod.j2 k a b q ([rd a d] ++ r) d := by
      intro k
      simp only [papermillref02_DivMod.l0]
      rw [e1, if_pos (by omega), if_pos (by omega), if_pos (by omega), Option.bind_some, if_pos Z20, Option.bind_some, hlen1, w64 (by omega) (by omega), if_pos (by omega), if_pos Z20]
    by_cases hrn : r = []
    · subst hrn
      have e0 : rd ([rd a d] ++ ([] : List Int)) (([] : List Int).length) = rd a d := by simp [rd]
      by_cases cz : rd a d = 0
      · refine Ev.step (fun k => ?_) (key [] nrm_nil (by simp) (by simp [val, cz]))
        rw [hstep, if_pos (by rw [e0]; exact cz)]
      · refine Ev.step (fun k => ?_) (key ([rd a d] ++ []) (nrm_one ⟨by omega, hra.2⟩) (by simp) (by simp [val]))
        rw [hstep, if_neg (by rw [e0]; exact cz)]
    · have hn := nrm_cons hra hr hrn
      have hl := nrm_last hn (i := (r.length : Int)) (by simp) (by omega)
      refine Ev.step (fun k => ?_) (key ([rd a d] ++ r) hn Z20 (by simp [val]))
      rw [hstep, if_neg (show ¬ rd ([rd a d] ++ r) r.length = 0 from hl)]
theorem er_DivMod (a b : List Int) (ha : Sml a) (hb : Sml b) : Ev (fun k => papermillref02_DivMod.f k a b) (divS a b) := by
  unfold papermillref02_DivMod.f divS
  refine two_checks (V := papermillref02_Valid.f) (fun l hl => er_Valid l (by rcases hl with rfl | rfl <;> assumption)) (J := fun k t => papermillref02_DivMod.j0 k a b t) (fun ca cb => ?_) ?_
  · have oa := okN_iff.1 ca
    have ob := okN_iff.1 cb
    have h1 := oa.1
    have h2 := ob.1
    by_cases c : b = []
    · subst c
      rw [if_pos rfl]
      refine Ev.step (f := fun _ => some _) (fun k => ?_) (Ev.now _)
      simp [papermillref02_DivMod.j0]
    · rw [if_neg c]
      have h0 : b.length ≠ 0 := fun e => c (List.eq_nil_of_length_eq_zero e)
      have hbp := val_pos ob.2 c
      have := er_DivMod_l0 a b oa.2.1 ob.2 (by omega) (by omega) hbp oa.lt a.length (List.replicate a.length 0) [] (Dig.rep _) (by simp) nrm_nil (by simpa [val] using hbp) (Nat.le_refl _) (by rw [List.drop_length, List.drop_eq_nil_of_le (by simp)]; simp [val]) (fun s _ => rd_rep _ _)
      refine Ev.step (fun k => ?_) this
      have e : ((a.length : Int)).toNat = a.length := by omega
      simp only [papermillref02_DivMod.j0]
      rw [if_neg (by simp), if_neg (by omega), if_pos (by omega), if_pos (by omega), e, w64 (by omega) (by omega)]
  · refine Ev.step (f := fun _ => some _) (fun k => ?_) (Ev.now _)
    simp [papermillref02_DivMod.j0]
theorem ok_sml {l : List Int} (h : Ok l) : Sml l := by have := h.1; unfold Sml; omega
theorem er_Gcd_l0 : ∀ (n : Nat) (a b : List Int), val b < n → Ok a → Ok b → Ev (fun k => papermillref02_Gcd.l0 k a b) (dg (gcdI (val a) (val b)), 0) := by
  intro n
  induction n with
  | zero => intro a b h ha hb; have := hb.nonneg; omega
  | succ n ih =>
    intro a b h ha hb
    have hbl1 := hb.1
    by_cases c : b = []
    · subst c
      have e : val ([] : List Int) = 0 := rfl
      rw [e, gcdI_zero ha.nonneg, dg_val ha.2]
      refine Ev.step (f := fun _ => some _) (fun k => ?_) (Ev.now _)
      simp only [papermillref02_Gcd.l0]
      rw [if_neg (by simp)]
    · have hbl : b.length ≠ 0 := fun e => c (List.eq_nil_of_length_eq_zero e)
      have hbp := val_pos hb.2 c
      have h1 := Int.emod_nonneg (val a) (show val b ≠ 0 by omega)
      have h2 := Int.emod_lt_of_pos (val a) hbp
      have hlt := hb.lt
      have hrec := ih b (dg (val a % val b)) (by rw [val_dg h1]; omega) hb (ok_dg h1 (by omega))
      rw [val_dg h1, ← gcdI_step ha.nonneg hbp] at hrec
      have hdv := er_DivMod a b (ok_sml ha) (ok_sml hb)
      unfold divS at hdv
      rw [if_pos ⟨okN_iff.2 ha, okN_iff.2 hb⟩, if_neg c] at hdv
      refine Ev.step (f := fun k => (papermillref02_DivMod.f k a b).bind fun p => papermillref02_Gcd.l0 k b p.2.1) (fun k => ?_) (Ev.bind hdv hrec)
      simp only [papermillref02_Gcd.l0]
      rw [if_pos (by omega)]
      congr 1
      funext p
      rw [Option.bind_some, if_pos Z20]; rfl
theorem er_Gcd (a b : List Int) (ha : Sml a) (hb : Sml b) : Ev (fun k => papermillref02_Gcd.f k a b) (gcdS a b) := by
  unfold papermillref02_Gcd.f gcdS
  refine two_checks (V := papermillref02_Valid.f) (fun l hl => er_Valid l (by rcases hl with rfl | rfl <;> assumption)) (J := fun k t => papermillref02_Gcd.j0 k a b t) (fun ca cb => ?_) ?_
  · have oa := okN_iff.1 ca
    have ob := okN_iff.1 cb
    have h1 := oa.1
    refine Ev.step (fun k => ?_) (er_Gcd_l0 ((val b).toNat + 1) a b (by have := ob.nonneg; omega) oa ob)
    simp only [papermillref02_Gcd.j0]
    rw [if_neg (by simp), Option.bind_some, if_pos Z20]; rfl
  · refine Ev.step (f := fun _ => some _) (fun k => ?_) (Ev.now _)
    simp [papermillref02_Gcd.j0]
theorem er_Of_l0 : ∀ (j : Nat) (n : Int) (x : List Int), n < pw j → 0 ≤ n → n ≤ 9223372036854775807 → x.length + j ≤ 1000 → Ev (fun k => papermillref02_Of.l0 k n x) (x ++ dg n, 0) := by
  intro j
  induction j with
  | zero =>
    intro n x h h0 h1 hx
    rw [pw_zero] at h
    have : n = 0 := by omega
    subst this
    refine Ev.step (f := fun _ => some _) (fun k => ?_) (Ev.now _)
    simp only [papermillref02_Of.l0]
    rw [if_neg (by omega), dg_zero, List.append_nil]
  | succ j ih =>
    intro n x h h0 h1 hx
    rw [pw_succ] at h
    by_cases c : 0 < n
    · have := ih (n / 1000000000) (x ++ [n % 1000000000]) (by omega) (by omega) (by omega) Z20
      rw [List.append_assoc, List.singleton_append, ← dg_pos c] at this
      refine Ev.step (fun k => ?_) this
      simp only [papermillref02_Of.l0]
      rw [if_pos c, if_pos (by omega), tdiv_e h0, tmod_e h0, w64 (by omega) (by omega)]
    · have : n = 0 := by omega
      subst this
      refine Ev.step (f := fun _ => some _) (fun k => ?_) (Ev.now _)
      simp only [papermillref02_Of.l0]
      rw [if_neg (by omega), dg_zero, List.append_nil]
theorem er_Of (n : Int) (h : n ≤ 9223372036854775807) : Ev (fun k => papermillref02_Of.f k n) (ofS n) := by
  unfold ofS
  by_cases c : n < 0
  · rw [if_pos c]
    refine Ev.congr (f := fun _ => some _) (fun k => ?_) (Ev.now _)
    unfold papermillref02_Of.f; rw [if_pos c]
  · rw [if_neg c]
    have hp : pw 3 = 1000000000000000000000000000 := by rw [pw_succ, pw_two]; rfl
    have := er_Of_l0 3 n [] (by omega) (by omega) h (by simp)
    refine Ev.congr (fun k => ?_) this
    unfold papermillref02_Of.f; rw [if_neg c]
end Go.Proofs.Ytbjamhkhocjdkaa.Px
namespace Go.Proofs.Ytbjamhkhocjdkaa.Px
open Go.RowKit Go.Proofs.YtbjamhkhocjdkaaW.PrintWords Go.Proofs.YtbjamhkhocjdkaaW.PrintLast Go.Proofs.YtbjamhkhocjdkaaW.PrintMore
set_option linter.unusedVariables false
set_option linter.unusedSimpArgs false
def nat_Cmp.f (k : Nat) (l0 : List Int) (l1 : List Int) : Option (Int × Int) := (nat_Valid.f k l0).bind fun t255 => (if t255 = true then ((nat_Valid.f k l1).bind fun t256 => (if t256 = true then ((nat_compare.f k l0 l1).bind fun t257 => (some (t257, 0))) else (some (0, 3)))) else (some (0, 3)))
set_option maxHeartbeats 8000000 in
set_option maxRecDepth 100000 in
theorem nat_Cmp.calls (k : Nat) (A0 : Option Addr) (c0 : Nat) (l0 : List Int) (A1 : Option Addr) (c1 : Nat) (l1 : List Int) (r1 : Int) (r2 : Int) (w : World) (hr0 : Kd.C (Kd.int .i64) w A0 l0.length l0) (hc0 : l0.length ≤ c0) (hr1 : Kd.C (Kd.int .i64) w A1 l1.length l1) (hc1 : l1.length ≤ c1) (h : nat_Cmp.f k l0 l1 = some (r1, r2)) :
    Calls Try.prog 71 #[.slice A0 l0.length c0, .slice A1 l1.length c1] w fun e w' => e = .returned (.tuple #[.int .i64 r1, .int .i64 r2]) ∧ Drawn0 w w' := by
  have HR0 := Aside0.mk hr0
  have HC0 := Aside0.mk hc0
  clear hr0 hc0
  have HR1 := Aside0.mk hr1
  have HC1 := Aside0.mk hc1
  clear hr1 hc1
  have H : ((nat_Valid.f k l0).bind fun t255 => (if t255 = true then ((nat_Valid.f k l1).bind fun t256 => (if t256 = true then ((nat_compare.f k l0 l1).bind fun t257 => (some (t257, 0))) else (some (0, 3)))) else (some (0, 3)))) = some (r1, r2) := h
  clear h
  replace H := Option.bind_eq_some_iff.mp H
  obtain ⟨t255, A30, H⟩ := H
  replace H : (if t255 = true then ((nat_Valid.f k l1).bind fun t256 => (if t256 = true then ((nat_compare.f k l0 l1).bind fun t257 => (some (t257, 0))) else (some (0, 3)))) else (some (0, 3))) = some (r1, r2) := H
  have A3 := Aside0.mk A30
  clear A30
  by_cases c4 : t255 = true
  · subst c4
    have H1 : ((nat_Valid.f k l1).bind fun t256 => (if t256 = true then ((nat_compare.f k l0 l1).bind fun t257 => (some (t257, 0))) else (some (0, 3)))) = some (r1, r2) := by rw [if_pos rfl] at H; exact H
    clear H
    have H := H1
    clear H1
    replace H := Option.bind_eq_some_iff.mp H
    obtain ⟨t256, A50, H⟩ := H
    replace H : (if t256 = true then ((nat_compare.f k l0 l1).bind fun t257 => (some (t257, 0))) else (some (0, 3))) = some (r1, r2) := H
    have A5 := Aside0.mk A50
    clear A50
    by_cases c6 : t256 = true
    · subst c6
      have H1 : ((nat_compare.f k l0 l1).bind fun t257 => (some (t257, 0))) = some (r1, r2) := by rw [if_pos rfl] at H; exact H
      clear H
      have H := H1
      clear H1
      replace H := Option.bind_eq_some_iff.mp H
      obtain ⟨t257, A70, H⟩ := H
      replace H : (some (t257, 0)) = some (r1, r2) := H
      have A7 := Aside0.mk A70
      clear A70
      simp only [Option.some.injEq, Prod.mk.injEq] at H
      obtain ⟨rfl, rfl⟩ := H
      go_enter Try.func71, Try.ntmps71
      go_wp2_with (first | ((with_reducible refine gate_callee (f := 67) rfl ?_); refine goesL_ (some 7) rfl rfl Try.func67 Z6 rfl #[.slice A0 l0.length c0] rfl Z2 ?_; (with_reducible refine (nat_Valid.calls k _ _ l0 true _ ?side1 ?side2 A3.out).mono ?_); (case side1 => repeat (first | exact HR0.out | (with_reducible refine Kd.C_alloc ?_ _) | (with_reducible refine Kd.C_drewN ?_ _) | (with_reducible refine Kd.C_drew ?_))); (case side2 => exact HC0.out); rintro e w' ⟨rfl, ⟨nd, rfl⟩⟩; refine ⟨_, rfl, ?_⟩) | (go_at_call 67; (with_reducible refine (nat_Valid.calls k _ _ l1 true _ ?side1 ?side2 A5.out).mono ?_); (case side1 => repeat (first | exact HR1.out | (with_reducible refine Kd.C_alloc ?_ _) | (with_reducible refine Kd.C_drewN ?_ _) | (with_reducible refine Kd.C_drew ?_))); (case side2 => exact HC1.out); rintro e w' ⟨rfl, ⟨nd, rfl⟩⟩) | ((with_reducible refine gate_callee (f := 87) rfl ?_); refine goesL_ (some 16) rfl rfl Try.func87 Z6 rfl #[.slice A0 l0.length c0, .slice A1 l1.length c1] rfl Z2 ?_; (with_reducible refine (nat_compare.calls k _ _ l0 _ _ l1 t257 _ ?side1 ?side2 ?side3 ?side4 A7.out).mono ?_); (case side1 => repeat (first | exact HR0.out | (with_reducible refine Kd.C_alloc ?_ _) | (with_reducible refine Kd.C_drewN ?_ _) | (with_reducible refine Kd.C_drew ?_))); (case side2 => exact HC0.out); (case side3 => repeat (first | exact HR1.out | (with_reducible refine Kd.C_alloc ?_ _) | (with_reducible refine Kd.C_drewN ?_ _) | (with_reducible refine Kd.C_drew ?_))); (case side4 => exact HC1.out); rintro e w' ⟨rfl, ⟨nd, rfl⟩⟩; refine ⟨_, rfl, ?_⟩))
      go_ret2
      exact ⟨by first | rfl | (simp; done) | (simp [*]; done), by repeat (first | exact Drawn0.refl _ | apply Drawn0.step)⟩
    · replace c6 := Bool.eq_false_iff.mpr c6
      subst c6
      have H1 : (some (0, 3)) = some (r1, r2) := by rw [if_neg (show ¬ (false = true) by decide)] at H; exact H
      clear H
      have H := H1
      clear H1
      simp only [Option.some.injEq, Prod.mk.injEq] at H
      obtain ⟨rfl, rfl⟩ := H
      go_enter Try.func71, Try.ntmps71
      go_wp2_with (first | ((with_reducible refine gate_callee (f := 67) rfl ?_); refine goesL_ (some 7) rfl rfl Try.func67 Z6 rfl #[.slice A0 l0.length c0] rfl Z2 ?_; (with_reducible refine (nat_Valid.calls k _ _ l0 true _ ?side1 ?side2 A3.out).mono ?_); (case side1 => repeat (first | exact HR0.out | (with_reducible refine Kd.C_alloc ?_ _) | (with_reducible refine Kd.C_drewN ?_ _) | (with_reducible refine Kd.C_drew ?_))); (case side2 => exact HC0.out); rintro e w' ⟨rfl, ⟨nd, rfl⟩⟩; refine ⟨_, rfl, ?_⟩) | (go_at_call 67; (with_reducible refine (nat_Valid.calls k _ _ l1 false _ ?side1 ?side2 A5.out).mono ?_); (case side1 => repeat (first | exact HR1.out | (with_reducible refine Kd.C_alloc ?_ _) | (with_reducible refine Kd.C_drewN ?_ _) | (with_reducible refine Kd.C_drew ?_))); (case side2 => exact HC1.out); rintro e w' ⟨rfl, ⟨nd, rfl⟩⟩))
      go_ret2
      exact ⟨by first | rfl | (simp; done) | (simp [*]; done), by repeat (first | exact Drawn0.refl _ | apply Drawn0.step)⟩
  · replace c4 := Bool.eq_false_iff.mpr c4
    subst c4
    have H1 : (some (0, 3)) = some (r1, r2) := by rw [if_neg (show ¬ (false = true) by decide)] at H; exact H
    clear H
    have H := H1
    clear H1
    simp only [Option.some.injEq, Prod.mk.injEq] at H
    obtain ⟨rfl, rfl⟩ := H
    go_enter Try.func71, Try.ntmps71
    go_wp2_with (first | ((with_reducible refine gate_callee (f := 67) rfl ?_); refine goesL_ (some 7) rfl rfl Try.func67 Z6 rfl #[.slice A0 l0.length c0] rfl Z2 ?_; (with_reducible refine (nat_Valid.calls k _ _ l0 false _ ?side1 ?side2 A3.out).mono ?_); (case side1 => repeat (first | exact HR0.out | (with_reducible refine Kd.C_alloc ?_ _) | (with_reducible refine Kd.C_drewN ?_ _) | (with_reducible refine Kd.C_drew ?_))); (case side2 => exact HC0.out); rintro e w' ⟨rfl, ⟨nd, rfl⟩⟩; refine ⟨_, rfl, ?_⟩))
    go_ret2
    exact ⟨by first | rfl | (simp; done) | (simp [*]; done), by repeat (first | exact Drawn0.refl _ | apply Drawn0.step)⟩
def papermillref03_limbs.l0 : Nat → List Int → List Int → Int → Option (Bool)
  | 0, _, _, _ => none
  | k + 1, x0, x1, x5 => if x5 < (x0.length : Int) then (if 0 ≤ x5 then (if x5 < (x1.length : Int) then (if (rd x0 x5) = (rd x1 x5) then (papermillref03_limbs.l0 k x0 x1 (wrap64 (x5 + 1))) else (some false)) else (none)) else (none)) else (some true)
def papermillref03_limbs.f (k : Nat) (l0 : List Int) (l1 : List Int) : Option (Bool) := if (l0.length : Int) = (l1.length : Int) then (papermillref03_limbs.l0 k l0 l1 0) else (some false)
set_option maxHeartbeats 8000000 in
set_option maxRecDepth 100000 in
theorem papermillref03_limbs.calls (k : Nat) (A0 : Option Addr) (c0 : Nat) (l0 : List Int) (A1 : Option Addr) (c1 : Nat) (l1 : List Int) (r : Bool) (w : World) (hr0 : Kd.C (Kd.int .i64) w A0 l0.length l0) (hc0 : l0.length ≤ c0) (hr1 : Kd.C (Kd.int .i64) w A1 l1.length l1) (hc1 : l1.length ≤ c1) (h : papermillref03_limbs.f k l0 l1 = some r) :
    Calls Try.prog 43 #[.slice A0 l0.length c0, .slice A1 l1.length c1] w fun e w' => e = .returned (.bool r) ∧ Drawn0 w w' := by
  have HR0 := Aside0.mk hr0
  have HC0 := Aside0.mk hc0
  clear hr0 hc0
  have HR1 := Aside0.mk hr1
  have HC1 := Aside0.mk hc1
  clear hr1 hc1
  have H : (if (l0.length : Int) = (l1.length : Int) then (papermillref03_limbs.l0 k l0 l1 0) else (some false)) = some r := h
  clear h
  by_cases c3 : (l0.length : Int) = (l1.length : Int)
  · rw [if_pos c3] at H
    have c3b0 : ((l0.length : Int) == (l1.length : Int)) = true := beq_iff_eq.mpr c3
    have c3b1 : ((l0.length : Int) != (l1.length : Int)) = false := bne_eq_false_iff_eq.mpr c3
    have c3b2 : (l0.length == l1.length) = true := by first | simpa using c3 | (simp at c3 ⊢; omega)
    clear c3
    have H' := Aside0.mk H
    clear H
    go_enter Try.func43, Try.ntmps43
    go_wp2
    repeat (go_quiet (fail); try go_wp2)
    go_loopg [5] k (fun kq v5 w' => ∃ (x5_1 : Int), v5 = .int .i64 x5_1 ∧ Aside0 (papermillref03_limbs.l0 kq l0 l1 x5_1 = some r) ∧ Aside0 (kq ≤ k) ∧ Drawn0 w w')
    case atStart => exact ⟨(0), Z4, H', ⟨Nat.le_refl _⟩, by repeat (first | exact Drawn0.refl _ | apply Drawn0.step)⟩
    case round =>
      clear H'
      try clear c1
      try clear p2
      try clear c3
      try clear c3b0
      try clear c3b1
      try clear c3b2
      obtain ⟨x5_1, rfl, HA, HK1, ⟨m1, rfl⟩⟩ := hrel
      cases gk with
      | zero => exact absurd HA.out (by simp [papermillref03_limbs.l0])
      | succ k1 =>
        have H := HA.out
        clear HA
        simp only [papermillref03_limbs.l0] at H
        by_cases c4 : x5_1 < (l0.length : Int)
        · rw [if_pos c4] at H
          have c4b0 : decide (x5_1 < (l0.length : Int)) = true := decide_eq_true c4
          clear c4
          by_cases c5 : 0 ≤ x5_1
          · rw [if_pos c5] at H
            have c5b0 : decide (0 ≤ x5_1) = true := decide_eq_true c5
            clear c5
            by_cases c6 : x5_1 < (l1.length : Int)
            · rw [if_pos c6] at H
              have c6b0 : decide (x5_1 < (l1.length : Int)) = true := decide_eq_true c6
              clear c6
              by_cases c7 : (rd l0 x5_1) = (rd l1 x5_1)
              · rw [if_pos c7] at H
                have c7b0 : ((rd l0 x5_1) == (rd l1 x5_1)) = true := beq_iff_eq.mpr c7
                have c7b1 : ((rd l0 x5_1) != (rd l1 x5_1)) = false := bne_eq_false_iff_eq.mpr c7
                clear c7
                have H' := Aside0.mk H
                clear H
                have p401 : 0 ≤ (x5_1 : Int) := of_decide_eq_true Z1
                have q401 : x5_1 < (l0.length : Int) := of_decide_eq_true Z1
                obtain ⟨ad401, e401, hx401_0⟩ := Kd.at_int HR0.out x5_1 p401 q401
                cases e401
                replace p401 := eq_true p401
                replace q401 := eq_true q401
                have p402 : 0 ≤ (x5_1 : Int) := of_decide_eq_true Z1
                have q402 : x5_1 < (l1.length : Int) := of_decide_eq_true Z1
                obtain ⟨ad402, e402, hx402_0⟩ := Kd.at_int HR1.out x5_1 p402 q402
                cases e402
                replace p402 := eq_true p402
                replace q402 := eq_true q402
                go_wp2
                repeat (go_quiet (fail); try go_wp2)
                go_roundg k1
                case measure => have := HK1.out; omega
                case rel => exact ⟨(wrap64 (x5_1 + 1)), Z4, H', ⟨by have := HK1.out; omega⟩, by repeat (first | exact Drawn0.refl _ | apply Drawn0.step)⟩
              · rw [if_neg c7] at H
                have c7b0 : ((rd l0 x5_1) == (rd l1 x5_1)) = false := beq_eq_false_iff_ne.mpr c7
                have c7b1 : ((rd l0 x5_1) != (rd l1 x5_1)) = true := bne_iff_ne.mpr c7
                obtain rfl := Option.some.inj H
                have p401 : 0 ≤ (x5_1 : Int) := of_decide_eq_true Z1
                have q401 : x5_1 < (l0.length : Int) := of_decide_eq_true Z1
                obtain ⟨ad401, e401, hx401_0⟩ := Kd.at_int HR0.out x5_1 p401 q401
                cases e401
                replace p401 := eq_true p401
                replace q401 := eq_true q401
                have p402 : 0 ≤ (x5_1 : Int) := of_decide_eq_true Z1
                have q402 : x5_1 < (l1.length : Int) := of_decide_eq_true Z1
                obtain ⟨ad402, e402, hx402_0⟩ := Kd.at_int HR1.out x5_1 p402 q402
                cases e402
                replace p402 := eq_true p402
                replace q402 := eq_true q402
                go_wp2
                repeat (go_quiet (fail); try go_wp2)
                go_ret
                exact ⟨by first | rfl | (simp; done) | (simp [*]; done), by repeat (first | exact Drawn0.refl _ | apply Drawn0.step)⟩
            · rw [if_neg c6] at H
              exact absurd H (by simp)
          · rw [if_neg c5] at H
            exact absurd H (by simp)
        · rw [if_neg c4] at H
          have c4b0 : decide (x5_1 < (l0.length : Int)) = false := decide_eq_false c4
          clear c4
          obtain rfl := Option.some.inj H
          go_wp2
          repeat (go_quiet (fail); try go_wp2)
          go_ret
          exact ⟨by first | rfl | (simp; done) | (simp [*]; done), by repeat (first | exact Drawn0.refl _ | apply Drawn0.step)⟩
  · rw [if_neg c3] at H
    have c3b0 : ((l0.length : Int) == (l1.length : Int)) = false := beq_eq_false_iff_ne.mpr c3
    have c3b1 : ((l0.length : Int) != (l1.length : Int)) = true := bne_iff_ne.mpr c3
    have c3b2 : (l0.length == l1.length) = false := by first | simpa using c3 | (simp at c3 ⊢; omega)
    obtain rfl := Option.some.inj H
    go_enter Try.func43, Try.ntmps43
    go_wp2
    repeat (go_quiet (fail); try go_wp2)
    go_ret
    exact ⟨by first | rfl | (simp; done) | (simp [*]; done), by repeat (first | exact Drawn0.refl _ | apply Drawn0.step)⟩
end Go.Proofs.Ytbjamhkhocjdkaa.Px
