/- The functions of the program as functions of values, part 5: a proof's lemmas, with no condition of their own. -/
import Derived.Shelf.Strings.Builder1
import Derived.Shelf.Strings.Builder2
import Derived.Shelf.Strings.BuilderF
import Derived.Shelf.Strings.BuilderK
import Derived.Shelf.Strconv.Itoa0
import Derived.Shelf.Strconv.Itoa1
import Derived.Shelf.LaysM
import Derived.Shelf.Strconv.Itoa2
import Derived.Shelf.Strconv.Itoa3
import Derived.Shelf.Strings.Prefix
import Derived.Shelf.Bits.Mul64
import Derived.Shelf.Strings.Repeat
import Derived.Test.YtalklhbdpmggjaaDoorProg
import Derived.Test.YtalklhbdpmggjaaDoorNba
import Derived.Test.YtalklhbdpmggjaaDoorNbb
import Derived.Test.YtalklhbdpmggjaaDoorNbc
import Derived.Test.YtalklhbdpmggjaaDoorNbd
set_option linter.unusedVariables false
set_option linter.unusedSimpArgs false
namespace Go.Proofs.YtalklhbdpmggjaaDoor.Px
open Go.Proofs.YtalklhbdpmggjaaDoor.Wd Go.Proofs.YtalklhbdpmggjaaDoor.Mat
set_option linter.unusedVariables false

theorem small_factor {b P x y : Int} (hP : 0 < P) (hb : 0 ≤ b) (h : x + b * P = y) (hx : 0 ≤ x) (hy : y < P) : b = 0 := by
  rcases Int.lt_or_le 0 b with h1 | h1
  · have := Int.mul_le_mul_of_nonneg_right (show 1 ≤ b by omega) (Int.le_of_lt hP)
    omega
  · omega
theorem one_factor {b P x y : Int} (hP : 0 < P) (h : x + b * P = y) (hx : 0 ≤ x) (hx1 : x < P) (hy0 : P ≤ y) (hy : y < 2 * P) : b = 1 := by
  rcases Int.lt_or_le 1 b with h1 | h1
  · have := Int.mul_le_mul_of_nonneg_right (show 2 ≤ b by omega) (Int.le_of_lt hP)
    omega
  · rcases Int.lt_or_le 0 b with h2 | h2
    · omega
    · have := Int.mul_le_mul_of_nonneg_right (show b ≤ 0 by omega) (Int.le_of_lt hP)
      omega
theorem ev_divide_l0 (v : List Int) (hv : Dig v) (hvl : 2 ≤ v.length) (hvm : v.length ≤ 400) (hn : 500000000 ≤ rd v ((v.length : Int) - 1)) (S : Int) : ∀ (d : Nat) (u out : List Int), Dig u → Dig out → u.length = out.length + v.length → u.length ≤ 900 → d ≤ out.length → val (u.drop d) < val v →
    val u + pw d * (val v * val (out.drop d)) = S → (∀ s : Nat, s < d → rd out s = 0) →
    ∃ uf of, Ev (fun k => nat_divide.l0 k v u out ((d : Int) - 1)) (uf, of) ∧ Dig uf ∧ Dig of ∧ uf.length = u.length ∧ of.length = out.length ∧ val uf < val v ∧ val uf + val v * val of = S := by
  intro d
  induction d with
  | zero =>
    intro u out hu ho hl hm hd ht hS hz
    refine ⟨u, out, ?_, hu, ho, rfl, rfl, by simpa using ht, by simpa [pw_zero] using hS⟩
    refine Ev.step (f := fun _ => some _) (fun k => ?_) (Ev.now _)
    simp only [nat_divide.l0]
    rw [if_neg (by omega)]
  | succ d ih =>
    intro u out hu ho hl hm hd ht hS hz
    have e1 : (((d + 1 : Nat) : Int) - 1) = d := by omega
    have ed : ((d : Int)).toNat = d := by omega
    obtain ⟨V, hV⟩ : ∃ V, val v = V := ⟨_, rfl⟩
    obtain ⟨L, hL⟩ : ∃ L, v.length = L := ⟨_, rfl⟩
    obtain ⟨pre, hpre⟩ : ∃ p, u.take d = p := ⟨_, rfl⟩
    obtain ⟨part, hpart⟩ : ∃ p, (u.drop d).take (v.length + 1) = p := ⟨_, rfl⟩
    obtain ⟨post, hpost⟩ : ∃ p, u.drop (d + (v.length + 1)) = p := ⟨_, rfl⟩
    have hpl : pre.length = d := by rw [← hpre, List.length_take]; omega
    have hql : part.length = L + 1 := by rw [← hpart, List.length_take, List.length_drop]; omega
    have hDpre : Dig pre := by rw [← hpre]; exact hu.take _
    have hDpart : Dig part := by rw [← hpart]; exact (hu.drop _).take _
    have hDpost : Dig post := by rw [← hpost]; exact hu.drop _
    have hVl := val_lt hv
    rw [hV, hL] at hVl
    rw [hV] at ht hS
    -- what lies above is zero
    have hr := hu.rd d
    have hda := val_drop (l := u) (i := (d : Int)) (by omega) (by omega)
    rw [ed] at hda
    have hT0 := val_nonneg (hu.drop (d + 1))
    have hpo : val post = 0 := by
      have h1 := val_split (u.drop (d + 1)) L (by rw [List.length_drop]; omega)
      rw [List.drop_drop, show d + 1 + L = d + (v.length + 1) by omega, hpost] at h1
      have h2 := val_nonneg ((hu.drop (d + 1)).take L)
      have h3 := val_nonneg hDpost
      exact small_factor (pw_pos L) h3 (x := val ((u.drop (d + 1)).take L)) (y := val (u.drop (d + 1))) (by rw [h1]; grind) h2 (by omega)
    have hP : val part = val (u.drop d) := by
      have h1 := val_split (u.drop d) (L + 1) (by rw [List.length_drop]; omega)
      rw [List.drop_drop, show d + (L + 1) = d + (v.length + 1) by omega, hpost, hpo, ← hL, hpart] at h1
      rw [h1]; omega
    have hPlt : val part < 1000000000 * V := by rw [hP, hda]; omega
    have hP0 := val_nonneg hDpart
    have hVp : 0 < V := by omega
    have hu1 : val u = val pre + pw d * val part := by
      rw [hP, ← hpre]; exact val_split u d (by omega)
    obtain ⟨q, hE1, hq0, hq1, hqa, hqb⟩ := ev_digit part v hDpart hv (by omega) hvl (by omega) hn (by rw [hV]; exact hPlt)
    obtain ⟨r, b, hE2, hDr, hrl, hb0, hrv⟩ := ev_reduce part v hDpart hv (by omega) (by omega) q ⟨hq0, by omega⟩
    rw [hV] at hqa hqb hrv
    have hdm := Int.emod_add_mul_ediv (val part) V
    have hm0 := Int.emod_nonneg (val part) (show V ≠ 0 by omega)
    have hm1 := Int.emod_lt_of_pos (val part) hVp
    obtain ⟨qt, hqt⟩ : ∃ x, val part / V = x := ⟨_, rfl⟩
    obtain ⟨rm, hrm⟩ : ∃ x, val part % V = x := ⟨_, rfl⟩
    rw [hqt] at hqa hqb hdm
    rw [hrm] at hdm hm0 hm1
    have hqt0 : 0 ≤ qt := by rw [← hqt]; exact Int.ediv_nonneg hP0 (by omega)
    have hr0 := val_nonneg hDr
    have hr1 := val_lt hDr
    rw [hrl, hql] at hr1
    rw [hql] at hrv
    have hpL := pw_pos L
    have hpw := pw_succ L
    obtain ⟨PP, hPP⟩ : ∃ x, pw (L + 1) = x := ⟨_, rfl⟩
    rw [hPP] at hr1 hrv hpw
    -- what both ways have in common
    have common : ∀ r' : List Int, Dig r' → r'.length = L + 1 → val r' = rm →
        ∃ uf of, Ev (fun k => nat_divide.l0 k v (pre ++ r' ++ post) (out.set d qt) ((d : Int) - 1)) (uf, of) ∧ Dig uf ∧ Dig of ∧ uf.length = u.length ∧ of.length = out.length ∧ val uf < val v ∧ val uf + val v * val of = S := by
      intro r' hD' hl' hv'
      have hul : (pre ++ r' ++ post).length = u.length := by
        have : u.length = pre.length + (part.length + post.length) := by
          rw [hpl, hql, ← hpost, List.length_drop]; omega
        simp only [List.length_append]; omega
      have hdr : (pre ++ r' ++ post).drop d = r' ++ post := by
        rw [List.append_assoc, ← hpl, List.drop_left]
      have hd1 : val ((pre ++ r' ++ post).drop d) = rm := by rw [hdr, val_append, hpo, hv']; omega
      have hu2 : val (pre ++ r' ++ post) = val pre + pw d * rm := by
        rw [val_split (pre ++ r' ++ post) d (by omega), hd1, List.append_assoc, ← hpl, List.take_left]
      have ho1 : val ((out.set d qt).drop d) = qt + 1000000000 * val (out.drop (d + 1)) := by
        have h1 := val_drop (l := out.set d qt) (i := (d : Int)) (by omega) (by rw [List.length_set]; omega)
        rw [ed] at h1
        have h2 := rd_set_eq (l := out) (i := (d : Int)) qt (by omega)
        rw [ed] at h2
        rw [h1, h2, List.drop_set_of_lt (show d < d + 1 by omega)]
      obtain ⟨uf, of, hE, h1, h2, h3, h4, h5, h6⟩ := ih (pre ++ r' ++ post) (out.set d qt) ((hDpre.append hD').append hDpost) (ho.set _ ⟨hqt0, by omega⟩) (by rw [hul, List.length_set]; exact hl) (by omega) (by rw [List.length_set]; omega) (by rw [hd1, hV]; exact hm1)
        (by rw [hu2, ho1, hV, ← hS, hu1, pw_succ, ← hdm]; grind) (fun s hs => by
          have := rd_set_ne (l := out) (i := (d : Int)) (j := (s : Int)) qt (by omega)
          rw [ed] at this
          rw [this]; exact hz s (by omega))
      exact ⟨uf, of, hE, h1, h2, by omega, by rw [h4, List.length_set], h5, h6⟩
    by_cases hcase : q = qt
    · -- the limb is right
      have hbz : b = 0 := by
        refine small_factor (show 0 < PP by omega) hb0 (x := rm) (y := val r) ?_ hm0 hr1
        rw [hrv, hcase, ← hdm]; grind
      have hrm2 : val r = rm := by rw [hrv, hbz, hcase, ← hdm]; grind
      obtain ⟨uf, of, hE, hrest⟩ := common r hDr (by omega) hrm2
      refine ⟨uf, of, ?_, hrest⟩
      refine Ev.step (fun k => ?_) (Ev.bind hE1 (Ev.bind hE2 (f := fun k b_ => if b_.1 = true then (nat_restore.f k b_.2 v).bind fun p => nat_divide.l0 k v (pre ++ p ++ post) (out.set d (wrap64 (q - 1))) ((d : Int) - 1) else nat_divide.l0 k v (pre ++ b_.2 ++ post) (out.set d q) ((d : Int) - 1)) ?_)
        (f := fun k q => (nat_reduce.f k part v q).bind fun b_ => if b_.1 = true then (nat_restore.f k b_.2 v).bind fun p => nat_divide.l0 k v (pre ++ p ++ post) (out.set d (wrap64 (q - 1))) ((d : Int) - 1) else nat_divide.l0 k v (pre ++ b_.2 ++ post) (out.set d q) ((d : Int) - 1)))
      · simp only [nat_divide.l0]
        rw [e1, if_pos (by omega), ed, hpre, hpart, hpost]
      · refine Ev.congr (fun k => ?_) hE
        simp only [hbz]
        rw [if_neg (by simp), hcase]
    · -- it is one too great
      have hq2 : q = qt + 1 := by omega
      have hbo : b = 1 := by
        refine one_factor (show 0 < PP by omega) (x := rm + PP - V) (y := val r + PP) ?_ (by omega) (by omega) (by omega) (by omega)
        rw [hrv, hq2, ← hdm]; grind
      have hrm2 : val r = rm - V + PP := by rw [hrv, hbo, hq2, ← hdm]; grind
      obtain ⟨p, c, hE3, hDp, hpl2, hc0, hpv⟩ := ev_restore r v hDr hv (by omega) (by omega)
      rw [hrl, hql, hPP, hV, hrm2] at hpv
      have hp0 := val_nonneg hDp
      have hp1 := val_lt hDp
      rw [hpl2, hrl, hql, hPP] at hp1
      have hc1 : c = 1 := one_factor (show 0 < PP by omega) hpv hp0 hp1 (by omega) (by omega)
      have hpm : val p = rm := by rw [hc1] at hpv; omega
      obtain ⟨uf, of, hE, hrest⟩ := common p hDp (by omega) hpm
      refine ⟨uf, of, ?_, hrest⟩
      refine Ev.step (fun k => ?_) (Ev.bind hE1 (Ev.bind hE2 (f := fun k b_ => if b_.1 = true then (nat_restore.f k b_.2 v).bind fun p => nat_divide.l0 k v (pre ++ p ++ post) (out.set d (wrap64 (q - 1))) ((d : Int) - 1) else nat_divide.l0 k v (pre ++ b_.2 ++ post) (out.set d q) ((d : Int) - 1)) ?_)
        (f := fun k q => (nat_reduce.f k part v q).bind fun b_ => if b_.1 = true then (nat_restore.f k b_.2 v).bind fun p => nat_divide.l0 k v (pre ++ p ++ post) (out.set d (wrap64 (q - 1))) ((d : Int) - 1) else nat_divide.l0 k v (pre ++ b_.2 ++ post) (out.set d q) ((d : Int) - 1)))
      · simp only [nat_divide.l0]
        rw [e1, if_pos (by omega), ed, hpre, hpart, hpost]
      · refine Ev.congr (f := fun k => (nat_restore.f k r v).bind fun p => nat_divide.l0 k v (pre ++ p ++ post) (out.set d qt) ((d : Int) - 1)) (fun k => ?_) (Ev.bind hE3 hE)
        simp only [hbo]
        rw [if_pos (by simp), w64 (by omega) (by omega)]
        have : q - 1 = qt := by omega
        rw [this]

theorem norm_half {bt m : Int} (h1 : 1 ≤ bt) (h2 : bt < 1000000000) (hm : 1000000000 / (bt + 1) = m) : 1 ≤ m ∧ m ≤ 500000000 ∧ 500000000 ≤ bt * m ∧ (bt + 1) * m ≤ 1000000000 := by
  have hdm := Int.emod_add_mul_ediv 1000000000 (bt + 1)
  have hr0 := Int.emod_nonneg 1000000000 (show bt + 1 ≠ 0 by omega)
  have hr1 := Int.emod_lt_of_pos 1000000000 (show 0 < bt + 1 by omega)
  rw [hm] at hdm
  have hm1 : 1 ≤ m := by
    rcases Int.lt_or_le 0 m with h | h
    · omega
    · have := Int.mul_le_mul_of_nonneg_left h (show 0 ≤ bt + 1 by omega)
      omega
  have hm2 : m ≤ 500000000 := by
    have := Int.mul_le_mul_of_nonneg_right (show 2 ≤ bt + 1 by omega) (show 0 ≤ m by omega)
    omega
  refine ⟨hm1, hm2, ?_, by omega⟩
  have hx : (bt + 1) * m = bt * m + m := by grind
  by_cases c : m = 1
  · subst c; omega
  · by_cases c2 : bt = 1
    · subst c2; omega
    · have h3 : 0 ≤ (bt - 2) * (m - 2) := Int.mul_nonneg (by omega) (by omega)
      have h4 : (bt - 2) * (m - 2) = bt * m - 2 * bt - 2 * m + 4 := by grind
      omega
theorem divmod_unique {a b q r : Int} (h : r + b * q = a) (h0 : 0 ≤ r) (h1 : r < b) : a / b = q ∧ a % b = r := by
  have hb : 0 < b := by omega
  subst h
  exact ⟨by rw [Int.add_mul_ediv_left _ _ (by omega), Int.ediv_eq_zero_of_lt h0 h1]; omega, by rw [Int.add_mul_emod_self_left, Int.emod_eq_of_lt h0 h1]⟩
theorem take_all {l : List Int} (h : Dig l) {n : Nat} (hn : n ≤ l.length) (hv : val l < pw n) : val (l.take n) = val l := by
  have h1 := val_split l n hn
  have h2 := val_nonneg (h.take n)
  have h3 := val_nonneg (h.drop n)
  have h4 : val (l.drop n) = 0 := small_factor (pw_pos n) h3 (x := val (l.take n)) (y := val l) (by rw [h1]; grind) h2 hv
  rw [h1, h4]; omega
theorem ev_divide (a b : List Int) (ha : Nrm a) (hb : Nrm b) (hal : a.length ≤ 300) (hbl : 2 ≤ b.length) (hab : val b ≤ val a) :
    Ev (fun k => nat_divide.f k a b) (dg (val a / val b), dg (val a % val b)) := by
  have hlen := len_of_le ha hb hab
  obtain ⟨lb, hlb⟩ : ∃ n : Nat, b.length = n + 1 := ⟨b.length - 1, by omega⟩
  obtain ⟨e, he⟩ : ∃ n : Nat, a.length = n + b.length := ⟨a.length - b.length, by omega⟩
  have et : (b.length : Int) - 1 = (lb : Int) := by omega
  obtain ⟨bt, hbt⟩ : ∃ x, rd b (lb : Int) = x := ⟨_, rfl⟩
  have hb1 := hb.1.rd (lb : Int)
  have hbne := nrm_last hb (i := (lb : Int)) (by omega) (by omega)
  rw [hbt] at hb1 hbne
  obtain ⟨m, hm⟩ : ∃ m, 1000000000 / (bt + 1) = m := ⟨_, rfl⟩
  obtain ⟨hm1, hm2, hm3, hm4⟩ := norm_half (show 1 ≤ bt by omega) hb1.2 hm
  obtain ⟨u, hE1, hDu, hul, huv⟩ := ev_scaled a ha.1 (by omega) m (by omega) (by omega)
  obtain ⟨v0, hE2, hDv0, hvl0, hvv0⟩ := ev_scaled b hb.1 (by omega) m (by omega) (by omega)
  have hb0 := val_nonneg hb.1
  have ha0 := val_nonneg ha.1
  -- b, by its leading limb
  have hbs : val b = val (b.take lb) + pw lb * bt := by
    have h1 := val_split b lb (by omega)
    have h2 := val_drop (l := b) (i := (lb : Int)) (by omega) (by omega)
    have h3 : ((lb : Nat) : Int).toNat = lb := by omega
    rw [h3, List.drop_eq_nil_of_le (show b.length ≤ lb + 1 by omega), hbt] at h2
    rw [h2] at h1
    simpa [val] using h1
  have hbk0 := val_nonneg (hb.1.take lb)
  have hbk1 := val_lt (hb.1.take lb)
  rw [List.length_take, Nat.min_eq_left (by omega)] at hbk1
  have hP := pw_pos lb
  have hps := pw_succ lb
  obtain ⟨P, hPe⟩ : ∃ P, pw lb = P := ⟨_, rfl⟩
  rw [hPe] at hbs hbk1 hP hps
  have hbm1 : val b * m < P * 1000000000 := by
    have h0 : P * (bt + 1) = P * bt + P := by grind
    have h1 : val b * m < (P * (bt + 1)) * m := Int.mul_lt_mul_of_pos_right (by omega) (by omega)
    have h2 : (P * (bt + 1)) * m = P * ((bt + 1) * m) := by grind
    have h3 := Int.mul_le_mul_of_nonneg_left hm4 (Int.le_of_lt hP)
    omega
  have hbm2 : P * 500000000 ≤ val b * m := by
    have h1 : (P * bt) * m ≤ val b * m := Int.mul_le_mul_of_nonneg_right (by omega) (by omega)
    have h2 : (P * bt) * m = P * (bt * m) := by grind
    have h3 := Int.mul_le_mul_of_nonneg_left hm3 (Int.le_of_lt hP)
    omega
  obtain ⟨v, hve⟩ : ∃ v, v0.take b.length = v := ⟨_, rfl⟩
  have hDv : Dig v := by rw [← hve]; exact hDv0.take _
  have hvl : v.length = lb + 1 := by rw [← hve, List.length_take]; omega
  have hvv : val v = val b * m := by rw [← hve, ← hvv0]; exact take_all hDv0 (by omega) (by rw [hvv0, hlb, hps]; omega)
  -- v is normalised
  have hvn : 500000000 ≤ rd v ((v.length : Int) - 1) := by
    have h1 := val_split v lb (by omega)
    have h2 := val_drop (l := v) (i := (lb : Int)) (by omega) (by omega)
    have h3 : ((lb : Nat) : Int).toNat = lb := by omega
    rw [h3, List.drop_eq_nil_of_le (show v.length ≤ lb + 1 by omega)] at h2
    simp only [val, Int.mul_zero, Int.add_zero] at h2
    rw [h2, hPe] at h1
    have h4 := val_lt (hDv.take lb)
    rw [List.length_take, Nat.min_eq_left (by omega), hPe] at h4
    have h5 : (v.length : Int) - 1 = (lb : Int) := by omega
    rw [h5]
    rcases Int.lt_or_le (rd v (lb : Int)) 500000000 with h | h
    · exfalso
      have := Int.mul_le_mul_of_nonneg_left (show rd v (lb : Int) + 1 ≤ 500000000 by omega) (Int.le_of_lt hP)
      have h6 : P * (rd v (lb : Int) + 1) = P * rd v (lb : Int) + P := by grind
      omega
    · exact h
  -- the first leading part is less than v
  have hT : val (u.drop (e + 1)) < val v := by
    have h1 := val_split u (e + 1) (by omega)
    have h2 := val_nonneg (hDu.take (e + 1))
    have h3 := val_lt ha.1
    have h4 : pw a.length = pw (e + 1) * P := by rw [show a.length = (e + 1) + lb by omega, pw_add, hPe]
    have h5 : val a * m < pw (e + 1) * P * m := by rw [← h4]; exact Int.mul_lt_mul_of_pos_right h3 (by omega)
    rcases Int.lt_or_le (val (u.drop (e + 1))) (P * m) with h | h
    · have := Int.mul_le_mul_of_nonneg_left hm2 (Int.le_of_lt hP)
      rw [hvv]; omega
    · exfalso
      have h6 := Int.mul_le_mul_of_nonneg_left h (Int.le_of_lt (pw_pos (e + 1)))
      have h7 : pw (e + 1) * (P * m) = pw (e + 1) * P * m := by grind
      omega
  have hrz : val (List.replicate (e + 1) 0) = 0 := val_rep _
  obtain ⟨uf, of, hE3, hDuf, hDof, hufl, hofl, hlt, hS⟩ := ev_divide_l0 v hDv (by omega) (by omega) hvn (val u) (e + 1) u (List.replicate (e + 1) 0) hDu (Dig.rep _) (by simp; omega) (by omega) (by simp) hT (by rw [List.drop_eq_nil_of_le (by simp)]; simp [val]) (fun s _ => rd_rep _ _)
  have e3 : ((e + 1 : Nat) : Int) - 1 = (e : Int) := by omega
  rw [e3] at hE3
  have huf0 := val_nonneg hDuf
  -- the quotient and the remainder
  have hr : val uf = m * (val a - val b * val of) := by rw [huv, hvv] at hS; grind
  have hr0 : 0 ≤ val a - val b * val of := by
    rcases Int.lt_or_le (val a - val b * val of) 0 with h | h
    · have := Int.mul_lt_mul_of_pos_left h (show 0 < m by omega)
      omega
    · exact h
  have hr1 : val a - val b * val of < val b := by
    rcases Int.lt_or_le (val a - val b * val of) (val b) with h | h
    · exact h
    · have := Int.mul_le_mul_of_nonneg_left h (show 0 ≤ m by omega)
      rw [hvv] at hlt
      have h2 : m * val b = val b * m := Int.mul_comm _ _
      omega
  obtain ⟨hq1, hq2⟩ := divmod_unique (a := val a) (b := val b) (q := val of) (r := val a - val b * val of) (by omega) hr0 hr1
  have htk : val (uf.take b.length) = val uf := take_all hDuf (by omega) (by rw [hlb, hps]; rw [hvv] at hlt; omega)
  have hE4 := ev_trimmed (uf.take b.length) (hDuf.take _) (by rw [List.length_take]; omega)
  rw [htk] at hE4
  have hE5 := ev_short (dg (val uf)) (nrm_dg _).1 (by rw [dg_len huf0]; have := pw_le (show lb + 1 ≤ 1000 by omega); rw [hps] at this; rw [hvv] at hlt; omega) m (by omega) (by omega)
  rw [val_dg huf0] at hE5
  have hE6 := ev_trimmed of hDof (by rw [hofl]; simp; omega)
  have hdiv : val uf / m = val a % val b := by rw [hq2, hr]; exact Int.mul_ediv_cancel_left _ (by omega)
  rw [hdiv] at hE5
  rw [hq1]
  have hg : a.length ≤ 1000000 ∧ b.length ≤ a.length ∧ 2 ≤ b.length ∧ 0 ≤ rd b ((b.length : Int) - 1) ∧ rd b ((b.length : Int) - 1) < 1000000000 := by
    rw [et, hbt]; exact ⟨by omega, by omega, hbl, hb1.1, hb1.2⟩
  refine Ev.congr (f := fun k => (nat_scaled.f k a m).bind fun u_ => (nat_scaled.f k b m).bind fun v_ => if u_.length = a.length + 1 ∧ v_.length = b.length + 1 then
      (nat_divide.l0 k (v_.take b.length) u_ (List.replicate (a.length - b.length + 1) 0) ((a.length : Int) - b.length)).bind fun s =>
      (nat_trimmed.f k (s.1.take b.length)).bind fun t => (nat_short.f k t m).bind fun d => (nat_trimmed.f k s.2).bind fun q => some (q, d.1) else none) (fun k => ?_) ?_
  · unfold nat_divide.f
    rw [if_pos hg, et, hbt, hm]
  · refine Ev.bind hE1 (Ev.bind hE2 ?_)
    refine Ev.congr (fun k => if_pos ⟨hul, hvl0⟩) ?_
    rw [hve, show a.length - b.length + 1 = e + 1 by omega, show (a.length : Int) - (b.length : Int) = (e : Int) by omega]
    exact Ev.bind hE3 (Ev.bind hE4 (Ev.bind hE5 (Ev.bind hE6 (Ev.now _))))
theorem val_single {b : List Int} (h : b.length = 1) : val b = rd b 0 := by
  match b, h with
  | [x], _ => simp [val, rd]
theorem ev_divided (a b : List Int) (ha : Nrm a) (hb : Nrm b) (hal : a.length ≤ 300) (hbne : b ≠ []) :
    Ev (fun k => nat_divided.f k a b) (dg (val a / val b), dg (val a % val b)) := by
  have hbp := val_pos hb hbne
  have ha0 := val_nonneg ha.1
  unfold nat_divided.f
  refine Ev.bind (ev_compare a b ha hb (by omega)) ?_
  by_cases c : val a < val b
  · have h1 : val a / val b = 0 := Int.ediv_eq_zero_of_lt ha0 c
    have h2 : val a % val b = val a := Int.emod_eq_of_lt ha0 c
    rw [h1, h2, dg_zero]
    have hE := ev_trimmed a ha.1 (by omega)
    refine Ev.congr (f := fun k => (nat_trimmed.f k a).bind fun t => some ([], t)) (fun k => ?_) (Ev.bind hE (Ev.now _))
    have hcm : cmpS (val a) (val b) < 0 := by unfold cmpS; rw [if_pos c]; omega
    rw [if_pos hcm, padded_e _ _ (by omega) (by omega), Option.bind_some]
    have e : ((a.length : Int)).toNat - a.length = 0 := by omega
    rw [e]; simp
  · have hcm : ¬ cmpS (val a) (val b) < 0 := by unfold cmpS; rw [if_neg c]; split <;> omega
    by_cases c1 : b.length = 1
    · have hv := val_single c1
      have h1 := hb.1.rd 0
      have hE := ev_short a ha.1 (by omega) (rd b 0) (by omega) (by omega)
      rw [← hv] at hE
      refine Ev.congr (f := fun k => nat_short.f k a (val b)) (fun k => ?_) hE
      rw [if_neg hcm, if_pos (by omega), if_pos (by omega), ← hv]
      cases nat_short.f k a (val b) with
      | none => rfl
      | some p => rfl
    · have h0 : b.length ≠ 0 := fun e => hbne (List.eq_nil_of_length_eq_zero e)
      refine Ev.congr (f := fun k => nat_divide.f k a b) (fun k => ?_) (ev_divide a b ha hb hal (by omega) (by omega))
      rw [if_neg hcm, if_neg (by omega)]
      cases nat_divide.f k a b with
      | none => rfl
      | some p => rfl
def divS (a b : List Int) : List Int × List Int × Int := if okN a = true ∧ okN b = true then (if b = [] then ([], [], 16) else (dg (val a / val b), dg (val a % val b), 0)) else ([], [], 3)
theorem ev_DivMod (a b : List Int) : Ev (fun k => nat_DivMod.f k a b) (divS a b) := by
  unfold divS
  by_cases ca : okN a = true
  · by_cases cb : okN b = true
    · rw [if_pos ⟨ca, cb⟩]
      have oa := okN_iff.1 ca
      have ob := okN_iff.1 cb
      have hla := oa.1
      refine Ev.bind (ev_Valid a) ?_
      rw [ca]
      simp only [if_true]
      refine Ev.bind (ev_Valid b) ?_
      rw [cb]
      by_cases c : b = []
      · subst c
        rw [if_pos rfl]
        refine Ev.step (f := fun _ => some _) (fun k => ?_) (Ev.now _)
        simp [nat_DivMod.j0]
      · rw [if_neg c]
        have h0 : b.length ≠ 0 := fun e => c (List.eq_nil_of_length_eq_zero e)
        refine Ev.step (f := fun k => (nat_divided.f k a b).bind fun p => some (p.1, p.2, 0)) (fun k => ?_) (Ev.bind (ev_divided a b oa.2 ob.2 (by omega) c) (Ev.now _))
        simp only [nat_DivMod.j0]
        rw [if_neg (by simp), if_neg (by omega)]
    · rw [if_neg (fun h => cb h.2)]
      refine Ev.bind (ev_Valid a) ?_
      rw [ca]
      simp only [if_true]
      refine Ev.bind (ev_Valid b) ?_
      rw [Bool.eq_false_iff.2 cb]
      refine Ev.step (f := fun _ => some _) (fun k => ?_) (Ev.now _)
      simp [nat_DivMod.j0]
  · rw [if_neg (fun h => ca h.1)]
    refine Ev.bind (ev_Valid a) ?_
    rw [Bool.eq_false_iff.2 ca]
    simp only [Bool.false_eq_true, if_false]
    refine Ev.step (f := fun _ => some _) (fun k => ?_) (Ev.now _)
    simp [nat_DivMod.j0]
end Go.Proofs.YtalklhbdpmggjaaDoor.Px
namespace Go.Proofs.YtalklhbdpmggjaaDoor.Px
open Go.Proofs.YtalklhbdpmggjaaDoor.Wd Go.Proofs.YtalklhbdpmggjaaDoor.Mat
set_option linter.unusedVariables false

def gcdI (x y : Int) : Int := (Nat.gcd x.toNat y.toNat : Nat)
theorem gcdI_step {x y : Int} (hx : 0 ≤ x) (hy : 0 < y) : gcdI x y = gcdI y (x % y) := by
  unfold gcdI
  have e : (x % y).toNat = x.toNat % y.toNat := Int.toNat_emod hx (Int.le_of_lt hy)
  rw [e, Nat.gcd_comm, Nat.gcd_rec, Nat.gcd_comm]
theorem gcdI_zero {x : Int} (hx : 0 ≤ x) : gcdI x 0 = x := by unfold gcdI; simp; omega
theorem gcdI_nonneg (x y : Int) : 0 ≤ gcdI x y := by unfold gcdI; omega
theorem gcdI_le_left {x y : Int} (hx : 0 < x) : gcdI x y ≤ x := by
  unfold gcdI
  have := Nat.gcd_le_left (m := x.toNat) y.toNat (by omega)
  omega
theorem gcdI_comm (x y : Int) : gcdI x y = gcdI y x := by unfold gcdI; rw [Nat.gcd_comm]
theorem gcdI_le_right {x y : Int} (hy : 0 < y) : gcdI x y ≤ y := by rw [gcdI_comm]; exact gcdI_le_left hy
theorem ev_Gcd_l1 : ∀ (n : Nat) (x y : Int), y < n → 0 ≤ y → 0 ≤ x → x ≤ 9000000000000000000 → y ≤ 9000000000000000000 → Ev (fun k => nat_Gcd.l1 k x y) (dg (gcdI x y), 0) := by
  intro n
  induction n with
  | zero => intro x y h h0; omega
  | succ n ih =>
    intro x y h h0 hx hx1 hy1
    by_cases c : y > 0
    · have h1 := Int.emod_nonneg x (show y ≠ 0 by omega)
      have h2 := Int.emod_lt_of_pos x c
      have := ih y (x % y) (by omega) h1 h0 hy1 (by omega)
      rw [← gcdI_step hx c] at this
      refine Ev.step (fun k => ?_) this
      simp only [nat_Gcd.l1]
      rw [if_pos c, if_neg (by omega), tmod_e hx]
    · have hy : y = 0 := by omega
      subst hy
      rw [gcdI_zero hx]
      have := ev_Of x (by omega)
      unfold ofS at this
      rw [if_neg (by omega)] at this
      refine Ev.step (fun k => ?_) this
      simp only [nat_Gcd.l1]
      rw [if_neg c]
      cases nat_Of.f k x with
      | none => rfl
      | some p => rfl
theorem ev_Gcd_j2 (a b : List Int) (ha : Ok a) (hb : Ok b) (h : b = [] ∨ a.length ≤ 2 ∧ b.length ≤ 2) : Ev (fun k => nat_Gcd.j2 k a b) (dg (gcdI (val a) (val b)), 0) := by
  have hal := ha.1
  have ha0 := ha.nonneg
  have hb0 := hb.nonneg
  by_cases c : b = []
  · subst c
    have e : val ([] : List Int) = 0 := rfl
    rw [e, gcdI_zero ha0]
    refine Ev.step (f := fun k => (nat_trimmed.f k a).bind fun t => some (t, 0)) (fun k => ?_) (Ev.bind (ev_trimmed a ha.2.1 (by omega)) (Ev.now _))
    simp only [nat_Gcd.j2]
    rw [if_pos (by simp), padded_e _ _ (by omega) (by omega), Option.bind_some]
    have e : ((a.length : Int)).toNat - a.length = 0 := by omega
    rw [e]; simp
  · have h2 := h.resolve_left c
    have hbl : b.length ≠ 0 := fun e => c (List.eq_nil_of_length_eq_zero e)
    have l1 := val_lt ha.2.1
    have l2 := val_lt hb.2.1
    have l3 := pw_le h2.1
    have l4 := pw_le h2.2
    rw [pw_two] at l3 l4
    refine Ev.step (f := fun k => (nat_small.f k a).bind fun x => (nat_small.f k b).bind fun y => nat_Gcd.l1 k x y) (fun k => ?_) (Ev.bind (ev_small a ha.2.1 h2.1) (Ev.bind (ev_small b hb.2.1 h2.2) (ev_Gcd_l1 ((val b).toNat + 1) (val a) (val b) (by omega) hb0 ha0 (by omega) (by omega))))
    simp only [nat_Gcd.j2]
    rw [if_neg (by omega)]
theorem ev_Gcd_l0 : ∀ (n : Nat) (a b : List Int), val b < n → Ok a → Ok b → Ev (fun k => nat_Gcd.l0 k a b) (dg (gcdI (val a) (val b)), 0) := by
  intro n
  induction n with
  | zero => intro a b h ha hb; have := hb.nonneg; omega
  | succ n ih =>
    intro a b h ha hb
    have hal := ha.1
    by_cases c : b = []
    · subst c
      refine Ev.step (fun k => ?_) (ev_Gcd_j2 a [] ha hb (.inl rfl))
      simp only [nat_Gcd.l0]
      rw [if_neg (by simp)]
    · have hbl : b.length ≠ 0 := fun e => c (List.eq_nil_of_length_eq_zero e)
      have hbp := val_pos hb.2 c
      have h1 := Int.emod_nonneg (val a) (show val b ≠ 0 by omega)
      have h2 := Int.emod_lt_of_pos (val a) hbp
      have hlt := hb.lt
      have hrec := ih b (dg (val a % val b)) (by rw [val_dg h1]; omega) hb (ok_dg h1 (by omega))
      rw [val_dg h1, ← gcdI_step ha.nonneg hbp] at hrec
      by_cases c2 : a.length > 2
      · refine Ev.step (fun k => ?_) (Ev.bind (ev_divided a b ha.2 hb.2 (by omega) c) hrec (f := fun k p => nat_Gcd.l0 k b p.2))
        simp only [nat_Gcd.l0]
        rw [if_pos (by omega), if_pos (by omega)]
      · by_cases c3 : b.length > 2
        · refine Ev.step (fun k => ?_) (Ev.bind (ev_divided a b ha.2 hb.2 (by omega) c) hrec (f := fun k p => nat_Gcd.l0 k b p.2))
          simp only [nat_Gcd.l0]
          rw [if_pos (by omega), if_neg (by omega), if_pos (by omega)]
        · refine Ev.step (fun k => ?_) (ev_Gcd_j2 a b ha hb (.inr ⟨by omega, by omega⟩))
          simp only [nat_Gcd.l0]
          rw [if_pos (by omega), if_neg (by omega), if_neg (by omega)]
def gcdS (a b : List Int) : List Int × Int := if okN a = true ∧ okN b = true then (dg (gcdI (val a) (val b)), 0) else ([], 3)
theorem ev_Gcd (a b : List Int) : Ev (fun k => nat_Gcd.f k a b) (gcdS a b) := by
  unfold gcdS
  by_cases ca : okN a = true
  · by_cases cb : okN b = true
    · rw [if_pos ⟨ca, cb⟩]
      have oa := okN_iff.1 ca
      have ob := okN_iff.1 cb
      refine Ev.bind (ev_Valid a) ?_
      rw [ca]
      simp only [if_true]
      refine Ev.bind (ev_Valid b) ?_
      rw [cb]
      refine Ev.step (fun k => ?_) (ev_Gcd_l0 ((val b).toNat + 1) a b (by have := ob.nonneg; omega) oa ob)
      simp [nat_Gcd.j0]
    · rw [if_neg (fun h => cb h.2)]
      refine Ev.bind (ev_Valid a) ?_
      rw [ca]
      simp only [if_true]
      refine Ev.bind (ev_Valid b) ?_
      rw [Bool.eq_false_iff.2 cb]
      refine Ev.step (f := fun _ => some _) (fun k => ?_) (Ev.now _)
      simp [nat_Gcd.j0]
  · rw [if_neg (fun h => ca h.1)]
    refine Ev.bind (ev_Valid a) ?_
    rw [Bool.eq_false_iff.2 ca]
    simp only [Bool.false_eq_true, if_false]
    refine Ev.step (f := fun _ => some _) (fun k => ?_) (Ev.now _)
    simp [nat_Gcd.j0]
end Go.Proofs.YtalklhbdpmggjaaDoor.Px
namespace Go.Proofs.YtalklhbdpmggjaaDoor.Px
open Go.Proofs.YtalklhbdpmggjaaDoor.Wd Go.Proofs.YtalklhbdpmggjaaDoor.Mat
set_option linter.unusedVariables false

theorem er_Valid_l0 (l : List Int) (hb : l.length ≤ 48) : ∀ (d : Nat) (i : Int), 0 ≤ i → i ≤ l.length → (l.length : Int) - i = d →
    Ev (fun k => papermillref02_Valid.l0 k l i) (digB (l.drop i.toNat)) := by
  intro d
  induction d with
  | zero =>
    intro i h0 h1 hd
    have e : l.drop i.toNat = [] := List.drop_eq_nil_of_le (by omega)
    rw [e]
    refine Ev.step (f := fun _ => some _) (fun k => ?_) (Ev.now _)
    simp only [papermillref02_Valid.l0]
    rw [if_neg (by omega)]; rfl
  | succ d ih =>
    intro i h0 h1 hd
    have ih' := ih (i + 1) (by omega) (by omega) (by omega)
    have e1 : (i + 1).toNat = i.toNat + 1 := by omega
    rw [e1] at ih'
    rw [drop_rd h0 (by omega)]
    by_cases c1 : rd l i < 0
    · have e2 : (digB (rd l i :: l.drop (i.toNat + 1))) = false := by simp only [digB, List.all_cons]; rw [show decide (0 ≤ rd l i) = false from decide_eq_false (by omega)]; simp
      rw [e2]
      refine Ev.step (f := fun _ => some _) (fun k => ?_) (Ev.now _)
      simp only [papermillref02_Valid.l0]
      rw [if_pos (by omega), if_pos h0, if_pos c1]
    · by_cases c2 : rd l i ≥ 1000000000
      · have e2 : (digB (rd l i :: l.drop (i.toNat + 1))) = false := by simp only [digB, List.all_cons]; rw [show decide (rd l i < 1000000000) = false from decide_eq_false (by omega)]; simp
        rw [e2]
        refine Ev.step (f := fun _ => some _) (fun k => ?_) (Ev.now _)
        simp only [papermillref02_Valid.l0]
        rw [if_pos (by omega), if_pos h0, if_neg c1, if_pos c2]
      · have e2 : (digB (rd l i :: l.drop (i.toNat + 1))) = digB (l.drop (i.toNat + 1)) := by simp only [digB, List.all_cons]; rw [decide_eq_true (show 0 ≤ rd l i by omega), decide_eq_true (show rd l i < 1000000000 by omega)]; simp
        rw [e2]
        refine Ev.step (fun k => ?_) ih'
        simp only [papermillref02_Valid.l0]
        rw [if_pos (by omega), if_pos h0, if_neg c1, if_neg c2, w64 (by omega) (by omega)]
theorem er_Valid (l : List Int) (hlen : l.length ≤ 9223372036854775807) : Ev (fun k => papermillref02_Valid.f k l) (okN l) := by
  have hf : Ev (fun k => papermillref02_Valid.j0 k l true) false := by
    refine Ev.step (f := fun _ => some _) (fun k => ?_) (Ev.now _)
    simp [papermillref02_Valid.j0]
  by_cases hl : l.length ≤ 48
  · have h := er_Valid_l0 l hl l.length 0 (by omega) (by omega) (by omega)
    have hj : Ev (fun k => papermillref02_Valid.j0 k l false) (digB l) := by
      refine Ev.step (fun k => ?_) h
      simp [papermillref02_Valid.j0]
    unfold okN
    rw [decide_eq_true hl, Bool.true_and]
    by_cases hn : l = []
    · subst hn
      refine Ev.congr (fun k => ?_) hj
      unfold papermillref02_Valid.f
      rw [if_neg (by simp), if_neg (by simp)]
    · have hp : 0 < l.length := List.length_pos_iff.2 hn
      have e2 : l.isEmpty = false := by cases l with | nil => exact absurd rfl hn | cons a b => rfl
      rw [e2, Bool.false_or]
      by_cases hz : rd l ((l.length : Int) - 1) = 0
      · have e3 : (rd l ((l.length : Int) - 1) != 0) = false := bne_eq_false_iff_eq.2 hz
        rw [e3, Bool.and_false]
        refine Ev.congr (fun k => ?_) hf
        unfold papermillref02_Valid.f
        rw [if_neg (by omega), if_pos (by omega), w64 (by omega) (by omega), if_pos (by omega), if_pos (by omega), beq_iff_eq.2 hz]
      · have e3 : (rd l ((l.length : Int) - 1) != 0) = true := bne_iff_ne.2 hz
        rw [e3, Bool.and_true]
        refine Ev.congr (fun k => ?_) hj
        unfold papermillref02_Valid.f
        rw [if_neg (by omega), if_pos (by omega), w64 (by omega) (by omega), if_pos (by omega), if_pos (by omega), beq_eq_false_iff_ne.2 hz]
  · unfold okN
    rw [decide_eq_false hl, Bool.false_and, Bool.false_and]
    refine Ev.congr (fun k => ?_) hf
    unfold papermillref02_Valid.f
    rw [if_pos (by omega)]

theorem er_fit_l0 (l : List Int) (h : Dig l) (hb : l.length ≤ 1000000000) : ∀ (d : Nat), d ≤ l.length → val (l.drop d) = 0 →
    Ev (fun k => papermillref02_fit.l0 k l d) (fitS (val l)) := by
  have stop : ∀ d : Nat, d ≤ l.length → l.take d = dg (val l) → ((if (d : Int) > 48 then (some (([] : List Int), (2 : Int))) else ((some (([] : List Int) : List Int)).bind fun y => (if (0 : Int) ≤ d then (if (d : Int) ≤ (l.length : Int) then (if y.length + (l.take ((d : Int)).toNat).length < 17592186044416 then (some ((y ++ (l.take ((d : Int)).toNat)), (0 : Int))) else none) else none) else none)))) = some (fitS (val l)) := by
    intro d hd he
    have ed : ((d : Int)).toNat = d := by omega
    have hl : (dg (val l)).length = d := by rw [← he, List.length_take]; omega
    have hw := dg_len (val_nonneg h) (m := 48)
    unfold fitS
    by_cases c : d ≤ 48
    · rw [if_neg (by omega), if_pos (hw.1 (by omega)), Option.bind_some, if_pos (by omega), if_pos (by omega), ed, if_pos (by simp [List.length_take]; omega), he]; rfl
    · rw [if_pos (by omega), if_neg (fun e => c (by have := hw.2 e; omega))]
  intro d
  induction d with
  | zero =>
    intro hd hv
    rw [List.drop_zero] at hv
    refine Ev.step (f := fun _ => some _) (fun k => ?_) (Ev.now _)
    simp only [papermillref02_fit.l0]
    rw [if_neg (by omega)]
    exact stop 0 (by omega) (by rw [hv, dg_zero]; simp)
  | succ d ih =>
    intro hd hv
    have e1 : (((d + 1 : Nat) : Int) - 1) = d := by omega
    by_cases c : rd l d = 0
    · have hv' : val (l.drop d) = 0 := by
        have := val_drop (l := l) (i := (d : Int)) (by omega) (by omega)
        simp only [Int.toNat_natCast] at this
        rw [this, c, hv]; rfl
      refine Ev.step (fun k => ?_) (ih (by omega) hv')
      simp only [papermillref02_fit.l0]
      rw [if_pos (by omega), w64 (by omega) (by omega), e1, if_pos (by omega), if_pos (by omega), if_pos c]
    · refine Ev.step (f := fun _ => some _) (fun k => ?_) (Ev.now _)
      simp only [papermillref02_fit.l0]
      rw [if_pos (by omega), w64 (by omega) (by omega), e1, if_pos (by omega), if_pos (by omega), if_neg c]
      refine stop (d + 1) hd ?_
      have hn : Nrm (l.take (d + 1)) := by
        refine nrm_of_last (h.take _) fun i hi h0 => ?_
        rw [List.length_take, Nat.min_eq_left hd] at hi
        have : i = d := by omega
        subst this
        have h2 : rd l d = rd (l.take (d + 1) ++ l.drop (d + 1)) d := by rw [List.take_append_drop]
        rw [h2, rd_append_left (by rw [List.length_take]; omega)] at c
        exact c
      have h3 := val_split l (d + 1) hd
      rw [hv, Int.mul_zero, Int.add_zero] at h3
      rw [h3, dg_val hn]
theorem er_fit (l : List Int) (h : Dig l) (hb : l.length ≤ 1000000000) : Ev (fun k => papermillref02_fit.f k l) (fitS (val l)) :=
  er_fit_l0 l h hb l.length (Nat.le_refl _) (by rw [List.drop_length]; rfl)

theorem er_compare_l0 (a b : List Int) (ha : Dig a) (hb : Dig b) (hl : a.length = b.length) (hm : a.length ≤ 1000000000) : ∀ (d : Nat), d ≤ a.length → val (a.drop d) = val (b.drop d) →
    Ev (fun k => papermillref02_compare.l0 k a b ((d : Int) - 1)) (cmpS (val a) (val b)) := by
  intro d
  induction d with
  | zero =>
    intro hd he
    refine Ev.step (f := fun _ => some _) (fun k => ?_) (Ev.now _)
    simp only [papermillref02_compare.l0]
    rw [if_neg (by omega)]
    simp only [List.drop_zero] at he
    unfold cmpS
    rw [if_neg (by omega), if_neg (by omega)]
  | succ d ih =>
    intro hd he
    have e1 : (((d + 1 : Nat) : Int) - 1) = d := by omega
    rw [e1]
    have e2 : ((d : Int)).toNat + 1 = d + 1 := by omega
    by_cases c1 : rd a d < rd b d
    · have := cmp_top ha hb (i := (d : Int)) (by omega) (by omega) (by omega) (by rw [e2]; exact he) c1
      refine Ev.step (f := fun _ => some _) (fun k => ?_) (Ev.now _)
      simp only [papermillref02_compare.l0]
      rw [if_pos (by omega), if_pos (by omega), if_pos (by omega), if_pos (by omega), if_pos c1]
      unfold cmpS; rw [if_pos this]
    · by_cases c2 : rd a d > rd b d
      · have := cmp_top hb ha (i := (d : Int)) (by omega) (by omega) (by omega) (by rw [e2]; exact he.symm) c2
        refine Ev.step (f := fun _ => some _) (fun k => ?_) (Ev.now _)
        simp only [papermillref02_compare.l0]
        rw [if_pos (by omega), if_pos (by omega), if_pos (by omega), if_pos (by omega), if_neg c1, if_pos c2]
        unfold cmpS; rw [if_neg (by omega), if_pos this]
      · have hv : val (a.drop d) = val (b.drop d) := by
          have h1 := val_drop (l := a) (i := (d : Int)) (by omega) (by omega)
          have h2 := val_drop (l := b) (i := (d : Int)) (by omega) (by omega)
          simp only [Int.toNat_natCast] at h1 h2
          rw [h1, h2, he]; omega
        refine Ev.step (fun k => ?_) (ih (by omega) hv)
        simp only [papermillref02_compare.l0]
        rw [if_pos (by omega), if_pos (by omega), if_pos (by omega), if_pos (by omega), if_neg c1, if_neg c2, w64 (by omega) (by omega)]
theorem er_compare (a b : List Int) (ha : Nrm a) (hb : Nrm b) (hm : a.length ≤ 1000000000) : Ev (fun k => papermillref02_compare.f k a b) (cmpS (val a) (val b)) := by
  by_cases hl : a.length = b.length
  · refine Ev.congr (fun k => ?_) (er_compare_l0 a b ha.1 hb.1 hl hm a.length (Nat.le_refl _) (by rw [List.drop_length, hl, List.drop_length]))
    unfold papermillref02_compare.f
    rw [if_pos (by omega), w64 (by omega) (by omega)]
  · by_cases hc : a.length < b.length
    · refine Ev.congr (f := fun _ => some _) (fun k => ?_) (Ev.now _)
      unfold papermillref02_compare.f cmpS
      rw [if_neg (by omega), if_pos (by omega), if_pos (len_lt_val ha hb hc)]
    · have := len_lt_val hb ha (by omega)
      refine Ev.congr (f := fun _ => some _) (fun k => ?_) (Ev.now _)
      unfold papermillref02_compare.f cmpS
      rw [if_neg (by omega), if_neg (by omega), if_neg (by omega), if_pos this]
/-! ### the checks that all functions begin with -/
theorem two_checks {α : Type} {V : Nat → List Int → Option Bool} {a b : List Int} (hV : ∀ l, l = a ∨ l = b → Ev (fun k => V k l) (okN l)) {J : Nat → Bool → Option α} {r e : α} (hok : okN a = true → okN b = true → Ev (fun k => J k false) r) (hbad : Ev (fun k => J k true) e) :
    Ev (fun k => (V k a).bind fun t => if t = true then ((V k b).bind fun t' => J k (!t')) else J k true) (if okN a = true ∧ okN b = true then r else e) := by
  by_cases ca : okN a = true
  · by_cases cb : okN b = true
    · rw [if_pos ⟨ca, cb⟩]
      refine Ev.bind (hV a (.inl rfl)) ?_
      rw [ca]
      simp only [if_true]
      refine Ev.bind (hV b (.inr rfl)) ?_
      rw [cb]
      exact hok ca cb
    · rw [if_neg (fun h => cb h.2)]
      refine Ev.bind (hV a (.inl rfl)) ?_
      rw [ca]
      simp only [if_true]
      refine Ev.bind (hV b (.inr rfl)) ?_
      rw [Bool.eq_false_iff.2 cb]
      exact hbad
  · rw [if_neg (fun h => ca h.1)]
    refine Ev.bind (hV a (.inl rfl)) ?_
    rw [Bool.eq_false_iff.2 ca]
    simp only [Bool.false_eq_true, if_false]
    exact hbad
def Sml (l : List Int) : Prop := l.length ≤ 9223372036854775807

/-! ### Add -/
theorem at_e (l : List Int) (i : Int) (h : 0 ≤ i) : papermillref02_at.f l i = some (rd l i) := by
  unfold papermillref02_at.f
  by_cases c : i < l.length
  · rw [if_pos c, if_pos h]
  · rw [if_neg c, rd_ge (by omega)]
theorem val_drop_rd (l : List Int) {i : Int} (h : 0 ≤ i) : val (l.drop i.toNat) = rd l i + 1000000000 * val (l.drop (i.toNat + 1)) := by
  by_cases c : i < l.length
  · exact val_drop h c
  · rw [rd_ge (by omega), List.drop_eq_nil_of_le (by omega), List.drop_eq_nil_of_le (by omega)]; rfl
theorem val_snoc (x : List Int) (d : Int) : val (x ++ [d]) = val x + pw x.length * d := by rw [val_append]; simp [val]
theorem er_Add_l0 (a b : List Int) (ha : Dig a) (hb : Dig b) (hal : a.length ≤ 1000) (hbl : b.length ≤ 1000) (S : Int) : ∀ (n : Nat) (x : List Int) (c i : Int), Dig x → 0 ≤ i → (x.length : Int) = i → 2000 - i ≤ n → i ≤ 1001 → 0 ≤ c → c ≤ 1 → (c > 0 → i ≤ 1000) →
    val x + (c + val (a.drop i.toNat) + val (b.drop i.toNat)) * pw i.toNat = S → Ev (fun k => papermillref02_Add.l0 k a b x c i) (fitS S) := by
  intro n
  induction n with
  | zero => intro x c i hx h0 hxl hn h1; omega
  | succ n ih =>
    intro x c i hx h0 hxl hn h1 hc0 hc1 hci hS
    have go : (i < a.length ∨ i < b.length ∨ c > 0) → Ev (fun k => papermillref02_Add.j2 k a b x c i true) (fitS S) := by
      intro hg
      have r1 := ha.rd i
      have r2 := hb.rd i
      have hsum : 0 ≤ rd a i + rd b i + c := by omega
      have hm := Int.emod_add_mul_ediv (rd a i + rd b i + c) 1000000000
      have ei : (i + 1).toNat = i.toNat + 1 := by omega
      have e2 : x.length = i.toNat := by omega
      have := ih (x ++ [(rd a i + rd b i + c) % 1000000000]) ((rd a i + rd b i + c) / 1000000000) (i + 1) (hx.append (Dig.cons (by omega) Dig.nil)) (by omega) (by simp; omega) (by omega) (by omega) (by omega) (by omega)
        (fun hcc => by
          rcases hg with h | h | h
          · omega
          · omega
          · by_cases hh : i < 1000
            · omega
            · exfalso
              rw [rd_ge (by omega), rd_ge (by omega)] at hcc
              omega)
        (by
          have d1 := val_drop_rd a h0
          have d2 := val_drop_rd b h0
          rw [val_snoc, ei, e2, pw_succ]
          rw [d1, d2] at hS
          grind)
      refine Ev.step (fun k => ?_) this
      simp only [papermillref02_Add.j2]
      rw [if_pos trivial, at_e a i h0, Option.bind_some, at_e b i h0, Option.bind_some, if_pos (by omega), w64 (x := rd a i + rd b i) (by omega) (by omega), w64 (x := rd a i + rd b i + c) (by omega) (by omega), tmod_e hsum, tdiv_e hsum, w64 (by omega) (by omega), w64 (by omega) (by omega)]
    by_cases c1 : i < a.length
    · refine Ev.step (fun k => ?_) (go (.inl c1))
      simp only [papermillref02_Add.l0]
      rw [if_pos c1]
    · by_cases c2 : i < b.length
      · refine Ev.step (fun k => ?_) (go (.inr (.inl c2)))
        simp only [papermillref02_Add.l0]
        rw [if_neg c1, if_pos c2]
      · by_cases c3 : c > 0
        · refine Ev.step (fun k => ?_) (go (.inr (.inr c3)))
          simp only [papermillref02_Add.l0]
          rw [if_neg c1, if_neg c2, decide_eq_true c3]
        · have hcz : c = 0 := by omega
          have e1 : a.drop i.toNat = [] := List.drop_eq_nil_of_le (by omega)
          have e2 : b.drop i.toNat = [] := List.drop_eq_nil_of_le (by omega)
          rw [e1, e2, hcz] at hS
          have hS2 : val x = S := by simpa [val] using hS
          refine Ev.step (f := fun k => papermillref02_Add.j2 k a b x c i false) (fun k => ?_) (Ev.step (f := fun k => papermillref02_fit.f k x) (fun k => ?_) (hS2 ▸ er_fit x hx (by omega)))
          · simp only [papermillref02_Add.l0]
            rw [if_neg c1, if_neg c2, decide_eq_false c3]
          · simp only [papermillref02_Add.j2]
            rw [if_neg (by simp)]
            cases papermillref02_fit.f k x with
            | none => rfl
            | some p => rfl
theorem er_Add (a b : List Int) (ha : Sml a) (hb : Sml b) : Ev (fun k => papermillref02_Add.f k a b) (addS a b) := by
  unfold papermillref02_Add.f addS
  refine two_checks (V := papermillref02_Valid.f) (fun l hl => er_Valid l (by rcases hl with rfl | rfl <;> assumption)) (J := fun k t => papermillref02_Add.j0 k a b t) (fun ca cb => ?_) ?_
  · have oa := okN_iff.1 ca
    have ob := okN_iff.1 cb
    have h1 := oa.1
    have h2 := ob.1
    refine Ev.step (fun k => ?_) (er_Add_l0 a b oa.2.1 ob.2.1 (by omega) (by omega) (val a + val b) 2000 [] 0 0 Dig.nil (by omega) (by simp) (by omega) (by omega) (by omega) (by omega) (by omega) (by simp [val, pw_zero]))
    simp [papermillref02_Add.j0]
  · refine Ev.step (f := fun _ => some _) (fun k => ?_) (Ev.now _)
    simp [papermillref02_Add.j0]

/-! ### Sub -/
theorem er_minus_l0 (a b : List Int) (ha : Dig a) (hb : Dig b) (hal : a.length ≤ 1000) (hbl : b.length ≤ a.length) (S : Int) (hS0 : 0 ≤ S) (hS1 : S < pw 48) : ∀ (n : Nat) (x : List Int) (c i : Int), Dig x → 0 ≤ i → (x.length : Int) = i → (a.length : Int) - i = n → i ≤ a.length → 0 ≤ c → c ≤ 1 →
    val x + (val (a.drop i.toNat) - val (b.drop i.toNat) - c) * pw i.toNat = S → Ev (fun k => papermillref02_minus.l0 k a b x c i) (dg S) := by
  intro n
  induction n with
  | zero =>
    intro x c i hx h0 hxl hn h1 hc0 hc1 hS
    have e1 : a.drop i.toNat = [] := List.drop_eq_nil_of_le (by omega)
    have e2 : b.drop i.toNat = [] := List.drop_eq_nil_of_le (by omega)
    rw [e1, e2] at hS
    simp only [val] at hS
    have hv := val_lt hx
    have e3 : x.length = i.toNat := by omega
    rw [e3] at hv
    have hcz : c = 0 := by
      rcases (show c = 0 ∨ c = 1 by omega) with h | h
      · exact h
      · rw [h] at hS; omega
    rw [hcz] at hS
    have hS2 : val x = S := by simpa using hS
    have hf := er_fit x hx (by omega)
    rw [hS2] at hf
    unfold fitS at hf
    rw [if_pos hS1] at hf
    refine Ev.step (f := fun k => (papermillref02_fit.f k x).bind fun p => some p.1) (fun k => ?_) (Ev.bind hf (Ev.now _))
    simp only [papermillref02_minus.l0]
    rw [if_neg (by omega)]
  | succ n ih =>
    intro x c i hx h0 hxl hn h1 hc0 hc1 hS
    have r1 := ha.rd i
    have r2 := hb.rd i
    have ei : (i + 1).toNat = i.toNat + 1 := by omega
    have e2 : x.length = i.toNat := by omega
    have d1 := val_drop_rd a h0
    have d2 := val_drop_rd b h0
    rw [d1, d2] at hS
    by_cases cn : rd a i - rd b i - c < 0
    · have := ih (x ++ [rd a i - rd b i - c + 1000000000]) 1 (i + 1) (hx.append (Dig.cons (by omega) Dig.nil)) (by omega) (by simp; omega) (by omega) (by omega) (by omega) (by omega)
        (by rw [val_snoc, ei, e2, pw_succ]; grind)
      refine Ev.step (fun k => ?_) this
      simp only [papermillref02_minus.l0]
      rw [if_pos (by omega), if_pos h0, at_e b i h0, Option.bind_some, w64 (x := rd a i - rd b i) (by omega) (by omega), w64 (x := rd a i - rd b i - c) (by omega) (by omega), if_pos cn, if_pos (by omega), w64 (by omega) (by omega), w64 (by omega) (by omega)]
    · have := ih (x ++ [rd a i - rd b i - c]) 0 (i + 1) (hx.append (Dig.cons (by omega) Dig.nil)) (by omega) (by simp; omega) (by omega) (by omega) (by omega) (by omega)
        (by rw [val_snoc, ei, e2, pw_succ]; grind)
      refine Ev.step (fun k => ?_) this
      simp only [papermillref02_minus.l0]
      rw [if_pos (by omega), if_pos h0, at_e b i h0, Option.bind_some, w64 (x := rd a i - rd b i) (by omega) (by omega), w64 (x := rd a i - rd b i - c) (by omega) (by omega), if_neg cn, if_pos (by omega), w64 (by omega) (by omega)]
theorem er_minus (a b : List Int) (ha : Nrm a) (hb : Nrm b) (hal : a.length ≤ 1000) (hab : val b ≤ val a) (hlt : val a - val b < pw 48) : Ev (fun k => papermillref02_minus.f k a b) (dg (val a - val b)) :=
  er_minus_l0 a b ha.1 hb.1 hal (len_of_le ha hb hab) (val a - val b) (by omega) hlt a.length [] 0 0 Dig.nil (by omega) (by simp) (by omega) (by omega) (by omega) (by omega) (by simp [val, pw_zero])
theorem er_Sub (a b : List Int) (ha : Sml a) (hb : Sml b) : Ev (fun k => papermillref02_Sub.f k a b) (subS a b) := by
  unfold papermillref02_Sub.f subS
  refine two_checks (V := papermillref02_Valid.f) (fun l hl => er_Valid l (by rcases hl with rfl | rfl <;> assumption)) (J := fun k t => papermillref02_Sub.j0 k a b t) (fun ca cb => ?_) ?_
  · have oa := okN_iff.1 ca
    have ob := okN_iff.1 cb
    have h1 := oa.1
    have h2 := ob.1
    have h3 := oa.lt
    have h4 := ob.nonneg
    by_cases c : val a < val b
    · rw [if_pos c]
      have hcm : cmpS (val a) (val b) < 0 := by unfold cmpS; rw [if_pos c]; omega
      refine Ev.step (f := fun k => (papermillref02_compare.f k a b).bind fun t => if t < 0 then some ([], 1) else (papermillref02_minus.f k a b).bind fun t => some (t, 0)) (fun k => ?_) (Ev.bind (er_compare a b oa.2 ob.2 (by omega)) (Ev.congr (f := fun _ => some _) (fun k => if_pos hcm) (Ev.now _)))
      simp [papermillref02_Sub.j0]
    · rw [if_neg c]
      have hcm : ¬ cmpS (val a) (val b) < 0 := by unfold cmpS; rw [if_neg c]; split <;> omega
      refine Ev.step (f := fun k => (papermillref02_compare.f k a b).bind fun t => if t < 0 then some ([], 1) else (papermillref02_minus.f k a b).bind fun t => some (t, 0)) (fun k => ?_) (Ev.bind (er_compare a b oa.2 ob.2 (by omega)) (Ev.congr (fun k => if_neg hcm) (Ev.bind (er_minus a b oa.2 ob.2 (by omega) (by omega) (by omega)) (Ev.now _))))
      simp [papermillref02_Sub.j0]
  · refine Ev.step (f := fun _ => some _) (fun k => ?_) (Ev.now _)
    simp [papermillref02_Sub.j0]
end Go.Proofs.YtalklhbdpmggjaaDoor.Px
namespace Go.Proofs.YtalklhbdpmggjaaDoor.Px
open Go.Proofs.YtalklhbdpmggjaaDoor.Wd Go.Proofs.YtalklhbdpmggjaaDoor.Mat
set_option linter.unusedVariables false

theorem er_times_l2 (l : List Int) (h : Dig l) (hb : l.length ≤ 1000000000) : ∀ (d : Nat), d ≤ l.length → val (l.drop d) = 0 →
    Ev (fun k => papermillref02_times.l2 k l d) (dg (val l)) := by
  intro d
  induction d with
  | zero =>
    intro hd hv
    refine Ev.step (f := fun _ => some _) (fun k => ?_) (Ev.now _)
    simp only [papermillref02_times.l2]
    rw [if_neg (by omega), if_pos (by omega), if_pos (by omega)]
    rw [List.drop_zero] at hv
    rw [hv, dg_zero]; simp
  | succ d ih =>
    intro hd hv
    have e1 : (((d + 1 : Nat) : Int) - 1) = d := by omega
    by_cases c : rd l d = 0
    · have hv' : val (l.drop d) = 0 := by
        have := val_drop (l := l) (i := (d : Int)) (by omega) (by omega)
        simp only [Int.toNat_natCast] at this
        rw [this, c, hv]; rfl
      refine Ev.step (fun k => ?_) (ih (by omega) hv')
      simp only [papermillref02_times.l2]
      rw [if_pos (by omega), w64 (by omega) (by omega), e1, if_pos (by omega), if_pos (by omega), if_pos c]
    · refine Ev.step (f := fun _ => some _) (fun k => ?_) (Ev.now _)
      simp only [papermillref02_times.l2]
      rw [if_pos (by omega), w64 (by omega) (by omega), e1, if_pos (by omega), if_pos (by omega), if_neg c, if_pos (by omega), if_pos (by omega)]
      congr 1
      have e2 : ((d + 1 : Nat) : Int).toNat = d + 1 := by omega
      rw [e2]
      have hn : Nrm (l.take (d + 1)) := by
        refine nrm_of_last (h.take _) fun i hi h0 => ?_
        rw [List.length_take, Nat.min_eq_left hd] at hi
        have : i = d := by omega
        subst this
        have h2 : rd l d = rd (l.take (d + 1) ++ l.drop (d + 1)) d := by rw [List.take_append_drop]
        rw [h2, rd_append_left (by rw [List.length_take]; omega)] at c
        exact c
      have h3 := val_split l (d + 1) hd
      rw [hv, Int.mul_zero, Int.add_zero] at h3
      rw [h3, dg_val hn]
theorem take_step' (b : List Int) (t : Nat) : val (b.take (t + 1)) = val (b.take t) + pw t * rd b t := by
  by_cases h : t < b.length
  · exact take_step b t h
  · rw [rd_ge (by omega), List.take_of_length_le (by omega), List.take_of_length_le (by omega)]; omega
theorem er_times_l1 (a b : List Int) (ha : Dig a) (hb : Dig b) (hal : a.length ≤ 1000) (hbl : b.length ≤ 1000) (i : Int) (hi0 : 0 ≤ i) (hi1 : i < a.length) (F : List Int) (V : Int)
    (hnext : ∀ x : List Int, Dig x → x.length = a.length + b.length → val x = V + rd a i * val b * pw i.toNat → (∀ t : Nat, i + b.length + 1 ≤ t → rd x t = 0) → Ev (fun k => papermillref02_times.l0 k a b x (wrap64 (i + 1))) F) :
    ∀ (d : Nat) (x : List Int) (c t : Int), Dig x → x.length = a.length + b.length → 0 ≤ t → t ≤ b.length + 1 → (b.length : Int) + 1 - t = d → 0 ≤ c → c < 1000000000 → (t = b.length + 1 → c = 0) →
    val x + c * pw (i.toNat + t.toNat) = V + rd a i * val (b.take t.toNat) * pw i.toNat → (∀ s : Nat, i + b.length + 1 ≤ s → rd x s = 0) → (t ≤ b.length → rd x (i + b.length) = 0) →
    Ev (fun k => papermillref02_times.l1 k a b x i c t) F := by
  intro d
  induction d with
  | zero =>
    intro x c t hx hxl h0 h1 hd hc0 hc1 hcz hV hz hz2
    have et : t.toNat = b.length + 1 := by omega
    have hc := hcz (by omega)
    rw [et, List.take_of_length_le (by omega), hc] at hV
    refine Ev.step (fun k => ?_) (hnext x hx hxl (by rw [← hV]; omega) hz)
    simp only [papermillref02_times.l1]
    rw [if_neg (by omega), if_neg (by omega)]
  | succ d ih =>
    intro x c t hx hxl h0 h1 hd hc0 hc1 hcz hV hz hz2
    have hr := hx.rd (i + t)
    have hm := mul_lt (ha.rd i) (hb.rd t)
    have et : (t + 1).toNat = t.toNat + 1 := by omega
    have eit : (i + t).toNat = i.toNat + t.toNat := by omega
    have hsum : 0 ≤ rd x (i + t) + rd a i * rd b t + c := by omega
    have hdm := Int.emod_add_mul_ediv (rd x (i + t) + rd a i * rd b t + c) 1000000000
    have htk := take_step' b t.toNat
    have e3 : ((t.toNat : Nat) : Int) = t := by omega
    rw [e3] at htk
    have hp := pw_add i.toNat t.toNat
    have step : Ev (fun k => papermillref02_times.l1 k a b (x.set (i + t).toNat ((rd x (i + t) + rd a i * rd b t + c) % 1000000000)) i ((rd x (i + t) + rd a i * rd b t + c) / 1000000000) (t + 1)) F := by
      have hs := val_set (l := x) (i := i + t) ((rd x (i + t) + rd a i * rd b t + c) % 1000000000) (by omega) (by omega)
      refine ih _ _ _ (hx.set _ (by omega)) (by rw [List.length_set]; exact hxl) (by omega) (by omega) (by omega) (by omega) (by omega) (fun h => ?_)
        (by rw [hs, et, htk, eit, ← Nat.add_assoc, pw_succ, hp]; rw [hp] at hV; grind) (fun s hs => by rw [rd_set_ne _ (by omega)]; exact hz s (by omega)) (fun h => by rw [rd_set_ne _ (by omega)]; exact hz2 (by omega))
      have htb : t = b.length := by omega
      have z1 := hz2 (by omega)
      rw [← htb] at z1
      rw [z1, rd_ge (l := b) (by omega)]
      omega
    by_cases cb : t < b.length
    · refine Ev.step (fun k => ?_) step
      simp only [papermillref02_times.l1]
      rw [if_pos cb, w64 (x := i + t) (by omega) (by omega), if_pos (by omega), if_pos (by omega), if_pos hi0, if_pos hi1, at_e b t h0, Option.bind_some,
        w64 (x := rd a i * rd b t) (by omega) (by omega), w64 (x := rd x (i + t) + rd a i * rd b t) (by omega) (by omega), w64 (x := rd x (i + t) + rd a i * rd b t + c) (by omega) (by omega), tmod_e hsum, tdiv_e hsum, w64 (by omega) (by omega), w64 (by omega) (by omega)]
    · have htb : t = b.length := by omega
      by_cases cc : c > 0
      · refine Ev.step (fun k => ?_) step
        simp only [papermillref02_times.l1]
        rw [if_neg cb, if_pos cc, w64 (x := i + t) (by omega) (by omega), if_pos (by omega), if_pos (by omega), if_pos hi0, if_pos hi1, at_e b t h0, Option.bind_some,
          w64 (x := rd a i * rd b t) (by omega) (by omega), w64 (x := rd x (i + t) + rd a i * rd b t) (by omega) (by omega), w64 (x := rd x (i + t) + rd a i * rd b t + c) (by omega) (by omega), tmod_e hsum, tdiv_e hsum, w64 (by omega) (by omega), w64 (by omega) (by omega)]
      · have hcz2 : c = 0 := by omega
        rw [htb, hcz2, show ((b.length : Int)).toNat = b.length by omega, List.take_length] at hV
        refine Ev.step (fun k => ?_) (hnext x hx hxl (by rw [← hV]; omega) hz)
        simp only [papermillref02_times.l1]
        rw [if_neg cb, if_neg cc]
theorem er_times_l0 (a b : List Int) (ha : Dig a) (hb : Dig b) (hal : a.length ≤ 1000) (hbl : b.length ≤ 1000) : ∀ (d : Nat) (x : List Int) (i : Int), Dig x → x.length = a.length + b.length → 0 ≤ i → i ≤ a.length → (a.length : Int) - i = d →
    val x = val (a.take i.toNat) * val b → (∀ s : Nat, i + b.length ≤ s → rd x s = 0) → Ev (fun k => papermillref02_times.l0 k a b x i) (dg (val a * val b)) := by
  intro d
  induction d with
  | zero =>
    intro x i hx hxl h0 h1 hd hV hz
    have ei : i.toNat = a.length := by omega
    rw [ei, List.take_length] at hV
    have := er_times_l2 x hx (by omega) x.length (Nat.le_refl _) (by rw [List.drop_length]; rfl)
    rw [hV] at this
    refine Ev.step (fun k => ?_) this
    simp only [papermillref02_times.l0]
    rw [if_neg (by omega)]
  | succ d ih =>
    intro x i hx hxl h0 h1 hd hV hz
    have ei : (i + 1).toNat = i.toNat + 1 := by omega
    have hts := take_step a i.toNat (by omega)
    have e2 : ((i.toNat : Nat) : Int) = i := by omega
    rw [e2] at hts
    have hz3 := hz (i + b.length).toNat (by omega)
    have e3 : (((i + (b.length : Int)).toNat : Nat) : Int) = i + (b.length : Int) := by omega
    rw [e3] at hz3
    have := er_times_l1 a b ha hb hal hbl i h0 (by omega) (dg (val a * val b)) (val x) (fun y hy hyl hyv hyz => by
      rw [w64 (by omega) (by omega)]
      exact ih y (i + 1) hy hyl (by omega) (by omega) (by omega) (by rw [ei, hts, hyv, hV]; grind) (fun s hs => hyz s (by omega))) (b.length + 1) x 0 0 hx hxl (by omega) (by omega) (by omega) (by omega) (by omega) (by omega) (by simp [val]) (fun s hs => hz s (by omega)) (fun _ => hz3)
    refine Ev.step (fun k => ?_) this
    simp only [papermillref02_times.l0]
    rw [if_pos (by omega)]
theorem er_times (a b : List Int) (ha : Dig a) (hb : Dig b) (hal : a.length ≤ 400) (hbl : b.length ≤ 400) : Ev (fun k => papermillref02_times.f k a b) (dg (val a * val b)) := by
  have := er_times_l0 a b ha hb (by omega) (by omega) a.length (List.replicate (a.length + b.length) 0) 0 (Dig.rep _) (by simp) (by omega) (by omega) (by omega) (by rw [val_rep]; simp [val]) (fun s _ => rd_rep _ _)
  refine Ev.congr (fun k => ?_) this
  unfold papermillref02_times.f
  have e : ((a.length : Int) + (b.length : Int)).toNat = a.length + b.length := by omega
  rw [w64 (by omega) (by omega), if_pos (by omega), if_pos (by omega), e]
theorem mul_le_pw {a b : List Int} (ha : Dig a) (hb : Dig b) : 0 ≤ val a * val b ∧ val a * val b < pw (a.length + b.length) := by
  refine ⟨Int.mul_nonneg (val_nonneg ha) (val_nonneg hb), ?_⟩
  rw [pw_add]
  have h1 := val_lt ha
  have h2 := val_lt hb
  have h3 := val_nonneg ha
  have h4 := val_nonneg hb
  have h5 := Int.mul_le_mul (show val a ≤ pw a.length - 1 by omega) (show val b ≤ pw b.length - 1 by omega) h4 (by omega)
  have h6 := pw_pos a.length
  have h7 := pw_pos b.length
  have h8 : (pw a.length - 1) * (pw b.length - 1) = pw a.length * pw b.length - pw a.length - pw b.length + 1 := by grind
  omega
theorem er_Mul (a b : List Int) (ha : Sml a) (hb : Sml b) : Ev (fun k => papermillref02_Mul.f k a b) (mulS a b) := by
  unfold papermillref02_Mul.f mulS
  refine two_checks (V := papermillref02_Valid.f) (fun l hl => er_Valid l (by rcases hl with rfl | rfl <;> assumption)) (J := fun k t => papermillref02_Mul.j0 k a b t) (fun ca cb => ?_) ?_
  · have oa := okN_iff.1 ca
    have ob := okN_iff.1 cb
    have h1 := oa.1
    have h2 := ob.1
    have h3 := mul_le_pw oa.2.1 ob.2.1
    have hf := er_fit (dg (val a * val b)) (nrm_dg _).1 (by have := (dg_len h3.1).2 h3.2; omega)
    rw [val_dg h3.1] at hf
    refine Ev.step (f := fun k => (papermillref02_times.f k a b).bind fun t => papermillref02_fit.f k t) (fun k => ?_) (Ev.bind (er_times a b oa.2.1 ob.2.1 (by omega) (by omega)) hf)
    simp only [papermillref02_Mul.j0]
    rw [if_neg (by simp)]
    congr 1
    funext t
    cases papermillref02_fit.f k t with
    | none => rfl
    | some p => rfl
  · refine Ev.step (f := fun _ => some _) (fun k => ?_) (Ev.now _)
    simp [papermillref02_Mul.j0]

/-! ### the greatest limb with which the divisor is not too great -/
theorem er_digit_l0 (r b : List Int) (hr : Nrm r) (hb : Nrm b) (hrl : r.length ≤ 200) (hbl : b.length ≤ 100) (hbp : 0 < val b) : ∀ (n : Nat) (lo hi : Int), hi - lo < n → 0 ≤ lo → lo ≤ hi → hi ≤ 999999999 → lo ≤ val r / val b → (val r / val b ≤ hi) →
    Ev (fun k => papermillref02_digit.l0 k r b lo hi) (val r / val b) := by
  intro n
  induction n with
  | zero => intro lo hi h; omega
  | succ n ih =>
    intro lo hi hn h0 h1 h2 hl hh
    by_cases c : lo < hi
    · obtain ⟨m, hm⟩ : ∃ m, (lo + hi + 1) / 2 = m := ⟨_, rfl⟩
      have hm1 : lo < m ∧ m ≤ hi := by omega
      have hDm : Dig [m] := Dig.cons (by omega) Dig.nil
      have hvm : val [m] = m := by simp [val]
      have ht := er_times b [m] hb.1 hDm (by omega) (by simp)
      rw [hvm] at ht
      have hb0 := val_nonneg hb.1
      have hbm : 0 ≤ val b * m := Int.mul_nonneg hb0 (by omega)
      have hw := (mul_le_pw hb.1 hDm).2
      rw [hvm] at hw
      have hl2 := (dg_len hbm).2 hw
      have hc := er_compare (dg (val b * m)) r (nrm_dg _) hr (by simp at hl2; omega)
      rw [val_dg hbm] at hc
      have hstep : ∀ k, papermillref02_digit.l0 (k + 1) r b lo hi = (papermillref02_times.f k b [m]).bind fun t => (papermillref02_compare.f k t r).bind fun s => if s ≤ 0 then papermillref02_digit.l0 k r b m hi else papermillref02_digit.l0 k r b lo (m - 1) := by
        intro k
        simp only [papermillref02_digit.l0]
        rw [if_pos c, w64 (x := lo + hi) (by omega) (by omega), w64 (x := lo + hi + 1) (by omega) (by omega), tdiv_e (by omega), hm, w64 (x := m) (by omega) (by omega), w64 (x := m - 1) (by omega) (by omega)]
      by_cases cm : val b * m ≤ val r
      · have hs : cmpS (val b * m) (val r) ≤ 0 := by unfold cmpS; split <;> (try split) <;> omega
        refine Ev.step hstep (Ev.bind ht (Ev.bind hc (Ev.congr (fun k => if_pos hs) (ih m hi (by omega) (by omega) hm1.2 h2 ?_ hh))))
        exact Int.le_ediv_of_mul_le hbp (by rw [Int.mul_comm]; exact cm)
      · have hs : ¬ cmpS (val b * m) (val r) ≤ 0 := by unfold cmpS; rw [if_neg (by omega), if_pos (by omega)]; omega
        refine Ev.step hstep (Ev.bind ht (Ev.bind hc (Ev.congr (fun k => if_neg hs) (ih lo (m - 1) (by omega) h0 (by omega) (by omega) hl ?_))))
        have : val r / val b < m := Int.ediv_lt_of_lt_mul hbp (by rw [Int.mul_comm]; omega)
        omega
    · have he : val r / val b = lo := by omega
      rw [he]
      refine Ev.step (f := fun _ => some _) (fun k => ?_) (Ev.now _)
      simp only [papermillref02_digit.l0]
      rw [if_neg c]
theorem er_digit (r b : List Int) (hr : Nrm r) (hb : Nrm b) (hrl : r.length ≤ 200) (hbl : b.length ≤ 100) (hbp : 0 < val b) (hlt : val r < 1000000000 * val b) : Ev (fun k => papermillref02_digit.f k r b) (val r / val b) := by
  have h1 : 0 ≤ val r / val b := Int.ediv_nonneg (val_nonneg hr.1) (by omega)
  have h2 : val r / val b < 1000000000 := Int.ediv_lt_of_lt_mul hbp hlt
  exact er_digit_l0 r b hr hb hrl hbl hbp 1000000000 0 999999999 (by omega) (by omega) (by omega) (by omega) h1 (by omega)

/-! ### DivMod -/
theorem nrm_cons {d : Int} {l : List Int} (hd : 0 ≤ d ∧ d < 1000000000) (hl : Nrm l) (hne : l ≠ []) : Nrm (d :: l) := by
  refine ⟨Dig.cons hd hl.1, fun h => ?_⟩
  rw [List.getLast_cons hne]
  exact hl.2 hne
theorem er_DivMod_l0 (a b : List Int) (ha : Dig a) (hb : Nrm b) (hal : a.length ≤ 100) (hbl : b.length ≤ 100) (hbp : 0 < val b) (haw : val a < pw 48) : ∀ (d : Nat) (q r : List Int), Dig q → q.length = a.length → Nrm r → val r < val b → d ≤ a.length →
    val (a.drop d) = val b * val (q.drop d) + val r → (∀ s : Nat, s < d → rd q s = 0) → Ev (fun k => papermillref02_DivMod.l0 k a b q r ((d : Int) - 1)) (dg (val a / val b), dg (val a % val b), 0) := by
  intro d
  induction d with
  | zero =>
    intro q r hq hql hr hlt hd hV hz
    simp only [List.drop_zero] at hV
    have hr0 := val_nonneg hr.1
    obtain ⟨h1, h2⟩ := divmod_unique (a := val a) (b := val b) (q := val q) (r := val r) (by omega) hr0 hlt
    rw [h1, h2, dg_val hr]
    have hf := er_fit q hq (by omega)
    have hq0 := val_nonneg hq
    have hqle : val q ≤ val a := by
      have := Int.mul_le_mul_of_nonneg_right (show 1 ≤ val b by omega) hq0
      omega
    unfold fitS at hf
    rw [if_pos (by omega)] at hf
    refine Ev.step (f := fun k => (papermillref02_fit.f k q).bind fun p => some (p.1, r, 0)) (fun k => ?_) (Ev.bind hf (Ev.now _))
    simp only [papermillref02_DivMod.l0]
    rw [if_neg (by omega)]
  | succ d ih =>
    intro q r hq hql hr hlt hd hV hz
    have e1 : (((d + 1 : Nat) : Int) - 1) = d := by omega
    have ed : ((d : Int)).toNat = d := by omega
    have hra := ha.rd d
    have hda := val_drop (l := a) (i := (d : Int)) (by omega) (by omega)
    rw [ed] at hda
    have hr0 := val_nonneg hr.1
    have hrl : r.length ≤ 100 := by
      have := (len_le hr (n := b.length)).2 (by have := val_lt hb.1; omega)
      omega
    -- the next remainder, before it is reduced
    have key : ∀ r2 : List Int, Nrm r2 → r2.length ≤ 101 → val r2 = rd a d + 1000000000 * val r → Ev (fun k => papermillref02_DivMod.j2 k a b q r2 d) (dg (val a / val b), dg (val a % val b), 0) := by
      intro r2 hr2 hl2 hv2
      have hlt2 : val r2 < 1000000000 * val b := by omega
      have hE1 := er_digit r2 b hr2 hb (by omega) hbl hbp hlt2
      have hdm := Int.emod_add_mul_ediv (val r2) (val b)
      have hm0 := Int.emod_nonneg (val r2) (show val b ≠ 0 by omega)
      have hm1 := Int.emod_lt_of_pos (val r2) hbp
      have hr20 := val_nonneg hr2.1
      have hqt0 : 0 ≤ val r2 / val b := Int.ediv_nonneg hr20 (by omega)
      have hqt1 : val r2 / val b < 1000000000 := Int.ediv_lt_of_lt_mul hbp hlt2
      obtain ⟨t, ht⟩ : ∃ t, val r2 / val b = t := ⟨_, rfl⟩
      obtain ⟨m, hm⟩ : ∃ m, val r2 % val b = m := ⟨_, rfl⟩
      rw [ht] at hE1 hdm hqt0 hqt1
      rw [hm] at hdm hm0 hm1
      have hdx := val_drop (l := q.set d t) (i := (d : Int)) (by omega) (by rw [List.length_set]; omega)
      rw [ed] at hdx
      have hrs := rd_set_eq (l := q) (i := (d : Int)) t (by omega)
      rw [ed] at hrs
      rw [hrs, List.drop_set_of_lt (show d < d + 1 by omega)] at hdx
      have fin : ∀ r3 : List Int, Nrm r3 → val r3 = m → Ev (fun k => papermillref02_DivMod.l0 k a b (q.set d t) r3 ((d : Int) - 1)) (dg (val a / val b), dg (val a % val b), 0) := by
        intro r3 hr3 hv3
        refine ih (q.set d t) r3 (hq.set _ ⟨hqt0, hqt1⟩) (by rw [List.length_set]; exact hql) hr3 (by omega) (by omega) ?_ (fun s hs => ?_)
        · rw [hda, hdx, hV, hv3]
          have : val r2 = m + val b * t := by omega
          grind
        · have := rd_set_ne (l := q) (i := (d : Int)) (j := (s : Int)) t (by omega)
          rw [ed] at this
          rw [this]; exact hz s (by omega)
      by_cases ct : t > 0
      · have hDt : Dig [t] := Dig.cons ⟨hqt0, hqt1⟩ Dig.nil
        have hvt : val [t] = t := by simp [val]
        have hE2 := er_times b [t] hb.1 hDt (by omega) (by simp)
        rw [hvt] at hE2
        have hbt0 : 0 ≤ val b * t := Int.mul_nonneg (by omega) hqt0
        have hE3 := er_minus r2 (dg (val b * t)) hr2 (nrm_dg _) (by omega) (by rw [val_dg hbt0]; omega) (by
          rw [val_dg hbt0]
          have h1 : val r2 - val b * t = m := by omega
          have h2 : m < val b := hm1
          have h3 : val a ≥ 0 := val_nonneg ha
          have h4 := val_lt hb.1
          have h5 : m ≤ val a := by
            -- the remainder is at most what is left of a
            have h6 := val_split a d (by omega)
            have h7 := val_nonneg (ha.take d)
            have h8 := val_nonneg (hq.drop (d + 1))
            have h9 : 0 ≤ val b * val (q.drop (d + 1)) := Int.mul_nonneg (by omega) h8
            have h10 : val r2 ≤ val (a.drop d) := by rw [hda, hv2, hV]; omega
            have h11 := pw_pos d
            have h12 := Int.mul_le_mul_of_nonneg_right (show 1 ≤ pw d by omega) (val_nonneg (ha.drop d))
            omega
          omega)
        rw [val_dg hbt0] at hE3
        have hmm : val r2 - val b * t = m := by omega
        rw [hmm] at hE3
        have hfin := fin (dg m) (nrm_dg _) (val_dg hm0)
        refine Ev.step (f := fun k => (papermillref02_digit.f k r2 b).bind fun t407 => (if 0 ≤ (d : Int) then (if (d : Int) < (q.length : Int) then ((some (q.set ((d : Int)).toNat t407 : List Int)).bind fun y408 => (if t407 > 0 then ((papermillref02_times.f k b (([t407] : List Int))).bind fun t412 => ((papermillref02_minus.f k r2 t412).bind fun t415 => (papermillref02_DivMod.l0 k a b y408 t415 (wrap64 ((d : Int) - 1))))) else (papermillref02_DivMod.l0 k a b y408 r2 (wrap64 ((d : Int) - 1))))) else (none)) else (none))) (fun k => by simp only [papermillref02_DivMod.j2]) (Ev.bind hE1 ?_)
        refine Ev.congr (f := fun k => (papermillref02_times.f k b [t]).bind fun t412 => (papermillref02_minus.f k r2 t412).bind fun t415 => papermillref02_DivMod.l0 k a b (q.set d t) t415 ((d : Int) - 1)) (fun k => ?_) (Ev.bind hE2 (Ev.bind hE3 hfin))
        rw [if_pos (by omega), if_pos (by omega), Option.bind_some, if_pos ct, ed, w64 (by omega) (by omega)]
      · have ht0 : t = 0 := by omega
        have hmm : val r2 = m := by rw [ht0] at hdm; omega
        have hfin := fin r2 hr2 hmm
        refine Ev.step (f := fun k => (papermillref02_digit.f k r2 b).bind fun t407 => (if 0 ≤ (d : Int) then (if (d : Int) < (q.length : Int) then ((some (q.set ((d : Int)).toNat t407 : List Int)).bind fun y408 => (if t407 > 0 then ((papermillref02_times.f k b (([t407] : List Int))).bind fun t412 => ((papermillref02_minus.f k r2 t412).bind fun t415 => (papermillref02_DivMod.l0 k a b y408 t415 (wrap64 ((d : Int) - 1))))) else (papermillref02_DivMod.l0 k a b y408 r2 (wrap64 ((d : Int) - 1))))) else (none)) else (none))) (fun k => by simp only [papermillref02_DivMod.j2]) (Ev.bind hE1 ?_)
        refine Ev.congr (fun k => ?_) hfin
        rw [if_pos (by omega), if_pos (by omega), Option.bind_some, if_neg ct, ed, w64 (by omega) (by omega)]
    -- the limb comes down
    have hlen1 : (([rd a d] ++ r : List Int).length : Int) - 1 = (r.length : Int) := by simp
    have hstep : ∀ k, papermillref02_DivMod.l0 (k + 1) a b q r (((d + 1 : Nat) : Int) - 1) = if rd ([rd a d] ++ r) r.length = 0 then papermillref02_DivMod.j2 k a b q [] d else papermillref02_DivMod.j2 k a b q ([rd a d] ++ r) d := by
      intro k
      simp only [papermillref02_DivMod.l0]
      rw [e1, if_pos (by omega), if_pos (by omega), if_pos (by omega), Option.bind_some, if_pos (by simp; omega), Option.bind_some, hlen1, w64 (by omega) (by omega), if_pos (by omega), if_pos (by simp; omega)]
    by_cases hrn : r = []
    · subst hrn
      have e0 : rd ([rd a d] ++ ([] : List Int)) (([] : List Int).length) = rd a d := by simp [rd]
      by_cases cz : rd a d = 0
      · refine Ev.step (fun k => ?_) (key [] nrm_nil (by simp) (by simp [val, cz]))
        rw [hstep, if_pos (by rw [e0]; exact cz)]
      · refine Ev.step (fun k => ?_) (key ([rd a d] ++ []) (nrm_one ⟨by omega, hra.2⟩) (by simp) (by simp [val]))
        rw [hstep, if_neg (by rw [e0]; exact cz)]
    · have hn := nrm_cons hra hr hrn
      have hl := nrm_last hn (i := (r.length : Int)) (by simp) (by omega)
      refine Ev.step (fun k => ?_) (key ([rd a d] ++ r) hn (by simp; omega) (by simp [val]))
      rw [hstep, if_neg (show ¬ rd ([rd a d] ++ r) r.length = 0 from hl)]
theorem er_DivMod (a b : List Int) (ha : Sml a) (hb : Sml b) : Ev (fun k => papermillref02_DivMod.f k a b) (divS a b) := by
  unfold papermillref02_DivMod.f divS
  refine two_checks (V := papermillref02_Valid.f) (fun l hl => er_Valid l (by rcases hl with rfl | rfl <;> assumption)) (J := fun k t => papermillref02_DivMod.j0 k a b t) (fun ca cb => ?_) ?_
  · have oa := okN_iff.1 ca
    have ob := okN_iff.1 cb
    have h1 := oa.1
    have h2 := ob.1
    by_cases c : b = []
    · subst c
      rw [if_pos rfl]
      refine Ev.step (f := fun _ => some _) (fun k => ?_) (Ev.now _)
      simp [papermillref02_DivMod.j0]
    · rw [if_neg c]
      have h0 : b.length ≠ 0 := fun e => c (List.eq_nil_of_length_eq_zero e)
      have hbp := val_pos ob.2 c
      have := er_DivMod_l0 a b oa.2.1 ob.2 (by omega) (by omega) hbp oa.lt a.length (List.replicate a.length 0) [] (Dig.rep _) (by simp) nrm_nil (by simpa [val] using hbp) (Nat.le_refl _) (by rw [List.drop_length, List.drop_eq_nil_of_le (by simp)]; simp [val]) (fun s _ => rd_rep _ _)
      refine Ev.step (fun k => ?_) this
      have e : ((a.length : Int)).toNat = a.length := by omega
      simp only [papermillref02_DivMod.j0]
      rw [if_neg (by simp), if_neg (by omega), if_pos (by omega), if_pos (by omega), e, w64 (by omega) (by omega)]
  · refine Ev.step (f := fun _ => some _) (fun k => ?_) (Ev.now _)
    simp [papermillref02_DivMod.j0]

/-! ### Gcd -/
theorem ok_sml {l : List Int} (h : Ok l) : Sml l := by have := h.1; unfold Sml; omega
theorem er_Gcd_l0 : ∀ (n : Nat) (a b : List Int), val b < n → Ok a → Ok b → Ev (fun k => papermillref02_Gcd.l0 k a b) (dg (gcdI (val a) (val b)), 0) := by
  intro n
  induction n with
  | zero => intro a b h ha hb; have := hb.nonneg; omega
  | succ n ih =>
    intro a b h ha hb
    have hbl1 := hb.1
    by_cases c : b = []
    · subst c
      have e : val ([] : List Int) = 0 := rfl
      rw [e, gcdI_zero ha.nonneg, dg_val ha.2]
      refine Ev.step (f := fun _ => some _) (fun k => ?_) (Ev.now _)
      simp only [papermillref02_Gcd.l0]
      rw [if_neg (by simp)]
    · have hbl : b.length ≠ 0 := fun e => c (List.eq_nil_of_length_eq_zero e)
      have hbp := val_pos hb.2 c
      have h1 := Int.emod_nonneg (val a) (show val b ≠ 0 by omega)
      have h2 := Int.emod_lt_of_pos (val a) hbp
      have hlt := hb.lt
      have hrec := ih b (dg (val a % val b)) (by rw [val_dg h1]; omega) hb (ok_dg h1 (by omega))
      rw [val_dg h1, ← gcdI_step ha.nonneg hbp] at hrec
      have hdv := er_DivMod a b (ok_sml ha) (ok_sml hb)
      unfold divS at hdv
      rw [if_pos ⟨okN_iff.2 ha, okN_iff.2 hb⟩, if_neg c] at hdv
      refine Ev.step (f := fun k => (papermillref02_DivMod.f k a b).bind fun p => papermillref02_Gcd.l0 k b p.2.1) (fun k => ?_) (Ev.bind hdv hrec)
      simp only [papermillref02_Gcd.l0]
      rw [if_pos (by omega)]
      congr 1
      funext p
      rw [Option.bind_some, if_pos (by simp; omega)]; rfl
theorem er_Gcd (a b : List Int) (ha : Sml a) (hb : Sml b) : Ev (fun k => papermillref02_Gcd.f k a b) (gcdS a b) := by
  unfold papermillref02_Gcd.f gcdS
  refine two_checks (V := papermillref02_Valid.f) (fun l hl => er_Valid l (by rcases hl with rfl | rfl <;> assumption)) (J := fun k t => papermillref02_Gcd.j0 k a b t) (fun ca cb => ?_) ?_
  · have oa := okN_iff.1 ca
    have ob := okN_iff.1 cb
    have h1 := oa.1
    refine Ev.step (fun k => ?_) (er_Gcd_l0 ((val b).toNat + 1) a b (by have := ob.nonneg; omega) oa ob)
    simp only [papermillref02_Gcd.j0]
    rw [if_neg (by simp), Option.bind_some, if_pos (by simp; omega)]; rfl
  · refine Ev.step (f := fun _ => some _) (fun k => ?_) (Ev.now _)
    simp [papermillref02_Gcd.j0]

/-! ### Of -/
theorem er_Of_l0 : ∀ (j : Nat) (n : Int) (x : List Int), n < pw j → 0 ≤ n → n ≤ 9223372036854775807 → x.length + j ≤ 1000 → Ev (fun k => papermillref02_Of.l0 k n x) (x ++ dg n, 0) := by
  intro j
  induction j with
  | zero =>
    intro n x h h0 h1 hx
    rw [pw_zero] at h
    have : n = 0 := by omega
    subst this
    refine Ev.step (f := fun _ => some _) (fun k => ?_) (Ev.now _)
    simp only [papermillref02_Of.l0]
    rw [if_neg (by omega), dg_zero, List.append_nil]
  | succ j ih =>
    intro n x h h0 h1 hx
    rw [pw_succ] at h
    by_cases c : 0 < n
    · have := ih (n / 1000000000) (x ++ [n % 1000000000]) (by omega) (by omega) (by omega) (by simp; omega)
      rw [List.append_assoc, List.singleton_append, ← dg_pos c] at this
      refine Ev.step (fun k => ?_) this
      simp only [papermillref02_Of.l0]
      rw [if_pos c, if_pos (by omega), tdiv_e h0, tmod_e h0, w64 (by omega) (by omega)]
    · have : n = 0 := by omega
      subst this
      refine Ev.step (f := fun _ => some _) (fun k => ?_) (Ev.now _)
      simp only [papermillref02_Of.l0]
      rw [if_neg (by omega), dg_zero, List.append_nil]
theorem er_Of (n : Int) (h : n ≤ 9223372036854775807) : Ev (fun k => papermillref02_Of.f k n) (ofS n) := by
  unfold ofS
  by_cases c : n < 0
  · rw [if_pos c]
    refine Ev.congr (f := fun _ => some _) (fun k => ?_) (Ev.now _)
    unfold papermillref02_Of.f; rw [if_pos c]
  · rw [if_neg c]
    have hp : pw 3 = 1000000000000000000000000000 := by rw [pw_succ, pw_two]; rfl
    have := er_Of_l0 3 n [] (by omega) (by omega) h (by simp)
    refine Ev.congr (fun k => ?_) this
    unfold papermillref02_Of.f; rw [if_neg c]
end Go.Proofs.YtalklhbdpmggjaaDoor.Px
namespace Go.Proofs.YtalklhbdpmggjaaDoor.Px
open Go.Proofs.YtalklhbdpmggjaaDoor.Wd Go.Proofs.YtalklhbdpmggjaaDoor.Mat
set_option linter.unusedVariables false
def ncmpS (a b : List Int) : Int × Int := if okN a = true ∧ okN b = true then (cmpS (val a) (val b), 0) else (0, 3)
theorem ev_Cmp (a b : List Int) : Ev (fun k => nat_Cmp.f k a b) (ncmpS a b) := by
  unfold ncmpS nat_Cmp.f
  refine Ev.bind (ev_Valid a) ?_
  by_cases ha : okN a = true
  · simp only [ha, if_true, true_and]
    refine Ev.bind (ev_Valid b) ?_
    by_cases hb : okN b = true
    · simp only [hb, if_true]
      have o1 := okN_iff.1 ha
      have o2 := okN_iff.1 hb
      exact Ev.bind (ev_compare a b o1.2 o2.2 (by have := o1.1; omega)) (Ev.now _)
    · simp only [hb, if_false, Bool.false_eq_true]
      exact Ev.now _
  · simp only [ha, if_false, Bool.false_eq_true, false_and]
    exact Ev.now _
theorem er_Cmp (a b : List Int) (ha' : Sml a) (hb' : Sml b) : Ev (fun k => papermillref02_Cmp.f k a b) (ncmpS a b) := by
  unfold ncmpS papermillref02_Cmp.f
  refine Ev.bind (er_Valid a ha') ?_
  by_cases ha : okN a = true
  · simp only [ha, if_true, true_and]
    refine Ev.bind (er_Valid b hb') ?_
    by_cases hb : okN b = true
    · simp only [hb, if_true]
      have o1 := okN_iff.1 ha
      have o2 := okN_iff.1 hb
      exact Ev.bind (er_compare a b o1.2 o2.2 (by have := o1.1; omega)) (Ev.now _)
    · simp only [hb, if_false, Bool.false_eq_true]
      exact Ev.now _
  · simp only [ha, if_false, Bool.false_eq_true, false_and]
    exact Ev.now _
theorem take_eq_step {a b : List Int} {i : Nat} (hl : a.length = b.length) (hi : i < a.length) (h : a.take i = b.take i) : a.take (i + 1) = b.take (i + 1) ↔ rd a i = rd b i := by
  rw [List.take_add_one (l := a), List.take_add_one (l := b), h, List.append_cancel_left_eq]
  have h2 : i < b.length := by omega
  simp [rd, hi, h2, List.getElem?_eq_getElem]
theorem er_Same_l0 (a b : List Int) (ha : Sml a) (hl : a.length = b.length) : ∀ (d : Nat) (i : Int), 0 ≤ i → i ≤ a.length → (a.length : Int) - i = d → a.take i.toNat = b.take i.toNat → Ev (fun k => papermillref02_Same.l0 k a b i) (decide (a = b)) := by
  intro d
  induction d with
  | zero =>
    intro i h0 h1 h2 h3
    refine Ev.step (f := fun _ => some true) (fun k => ?_) ?_
    · simp only [papermillref02_Same.l0]
      rw [if_neg (by omega)]
    · have : a = b := by
        have e : i.toNat = a.length := by omega
        rw [e, List.take_length] at h3
        rw [h3, hl, List.take_length]
      simp only [this, decide_true]
      exact Ev.now _
  | succ d ih =>
    intro i h0 h1 h2 h3
    have hi : i < a.length := by omega
    have hi2 : i < b.length := by omega
    unfold Sml at ha
    have w : wrap64 (i + 1) = i + 1 := w64 (by omega) (by omega)
    have st := take_eq_step (i := i.toNat) hl (by omega) h3
    rw [show ((i.toNat : Nat) : Int) = i by omega] at st
    by_cases he : rd a i = rd b i
    · refine Ev.step (f := fun k => papermillref02_Same.l0 k a b (i + 1)) (fun k => ?_) (ih (i + 1) (by omega) (by omega) (by omega) ?_)
      · simp only [papermillref02_Same.l0]
        rw [if_pos hi, if_pos h0, if_pos hi2, if_pos he, w]
      · rw [show (i + 1).toNat = i.toNat + 1 by omega]; exact st.2 he
    · refine Ev.step (f := fun _ => some false) (fun k => ?_) ?_
      · simp only [papermillref02_Same.l0]
        rw [if_pos hi, if_pos h0, if_pos hi2, if_neg he]
      · have : ¬ a = b := fun e => he (by rw [e])
        simp only [this, decide_false]
        exact Ev.now _
theorem er_Same (a b : List Int) (ha : Sml a) : Ev (fun k => papermillref02_Same.f k a b) (decide (a = b)) := by
  unfold papermillref02_Same.f
  by_cases hl : (a.length : Int) = b.length
  · simp only [if_pos hl]
    exact er_Same_l0 a b ha (by omega) a.length 0 (by omega) (by omega) (by omega) (by simp)
  · simp only [if_neg hl]
    have : ¬ a = b := fun e => hl (by rw [e])
    simp only [this, decide_false]
    exact Ev.now _
theorem limbs_eq : ∀ (k : Nat) (a b : List Int) (i : Int), papermillref03_limbs.l0 k a b i = papermillref02_Same.l0 k a b i
  | 0, _, _, _ => rfl
  | k + 1, a, b, i => by simp only [papermillref03_limbs.l0, papermillref02_Same.l0, limbs_eq k]
theorem er_limbs (a b : List Int) (ha : Sml a) : Ev (fun k => papermillref03_limbs.f k a b) (decide (a = b)) := by
  refine Ev.congr (fun k => ?_) (er_Same a b ha)
  simp only [papermillref03_limbs.f, papermillref02_Same.f, limbs_eq]
end Go.Proofs.YtalklhbdpmggjaaDoor.Px
namespace Go.Proofs.YtalklhbdpmggjaaDoor.Pw
open Go Wd Px Mat
set_option linter.unusedVariables false
/-- A list that comes in has no more cells than memory has. -/
theorem Sound.sml {P : Program} {f : Nat} {args : List PV} {res : PV} (hE : Entered P f) (j : Nat) (l : List Int) (hj : args[j]? = some (N l)) (h : Sml l → Sound P f args res) : Sound P f args res :=
  Sound.len hE j l.length (l.map I) hj fun hl => h (by unfold Sml; omega)
theorem nat_Valid.c (l : List Int) : Sound Tryd.prog 29 [N l] (B (okN l)) := (ev_Valid l).rounds.elim fun k h => nat_Valid.snd k l _ h
theorem nat_Cmp.c (a b : List Int) : Sound Tryd.prog 32 [N a, N b] (.tup [I (ncmpS a b).1, I (ncmpS a b).2]) := (ev_Cmp a b).rounds.elim fun k h => nat_Cmp.snd k a b _ _ h
theorem nat_Of.c (n : Int) (hn : n ≤ 9223372036854775807) : Sound Tryd.prog 34 [I n] (.tup [N (ofS n).1, I (ofS n).2]) := (ev_Of n hn).rounds.elim fun k h => nat_Of.snd k n _ _ h
theorem nat_Add.c (a b : List Int) : Sound Tryd.prog 41 [N a, N b] (.tup [N (addS a b).1, I (addS a b).2]) := (ev_Add a b).rounds.elim fun k h => nat_Add.snd k a b _ _ h
theorem nat_Sub.c (a b : List Int) : Sound Tryd.prog 43 [N a, N b] (.tup [N (subS a b).1, I (subS a b).2]) := (ev_Sub a b).rounds.elim fun k h => nat_Sub.snd k a b _ _ h
theorem nat_Mul.c (a b : List Int) : Sound Tryd.prog 22 [N a, N b] (.tup [N (mulS a b).1, I (mulS a b).2]) := (ev_Mul a b).rounds.elim fun k h => nat_Mul.snd k a b _ _ h
theorem nat_Gcd.c (a b : List Int) : Sound Tryd.prog 27 [N a, N b] (.tup [N (gcdS a b).1, I (gcdS a b).2]) := (ev_Gcd a b).rounds.elim fun k h => nat_Gcd.snd k a b _ _ h
theorem nat_DivMod.c (a b : List Int) : Sound Tryd.prog 25 [N a, N b] (.tup [N (divS a b).1, N (divS a b).2.1, I (divS a b).2.2]) := (ev_DivMod a b).rounds.elim fun k h => nat_DivMod.snd k a b _ _ _ h
theorem ref_Valid.c (l : List Int) : Sound Tryd.prog 40 [N l] (B (okN l)) := Sound.sml (Entered.of Tryd.func40 rfl rfl) 0 l rfl fun hl => (er_Valid l hl).rounds.elim fun k h => ref_Valid.snd k l _ h
theorem ref_Add.c (a b : List Int) : Sound Tryd.prog 42 [N a, N b] (.tup [N (addS a b).1, I (addS a b).2]) := Sound.sml (Entered.of Tryd.func42 rfl rfl) 0 a rfl fun ha => Sound.sml (Entered.of Tryd.func42 rfl rfl) 1 b rfl fun hb => (er_Add a b ha hb).rounds.elim fun k h => ref_Add.snd k a b _ _ h
theorem ref_Sub.c (a b : List Int) : Sound Tryd.prog 44 [N a, N b] (.tup [N (subS a b).1, I (subS a b).2]) := Sound.sml (Entered.of Tryd.func44 rfl rfl) 0 a rfl fun ha => Sound.sml (Entered.of Tryd.func44 rfl rfl) 1 b rfl fun hb => (er_Sub a b ha hb).rounds.elim fun k h => ref_Sub.snd k a b _ _ h
theorem ref_Mul.c (a b : List Int) : Sound Tryd.prog 23 [N a, N b] (.tup [N (mulS a b).1, I (mulS a b).2]) := Sound.sml (Entered.of Tryd.func23 rfl rfl) 0 a rfl fun ha => Sound.sml (Entered.of Tryd.func23 rfl rfl) 1 b rfl fun hb => (er_Mul a b ha hb).rounds.elim fun k h => ref_Mul.snd k a b _ _ h
theorem ref_Gcd.c (a b : List Int) : Sound Tryd.prog 28 [N a, N b] (.tup [N (gcdS a b).1, I (gcdS a b).2]) := Sound.sml (Entered.of Tryd.func28 rfl rfl) 0 a rfl fun ha => Sound.sml (Entered.of Tryd.func28 rfl rfl) 1 b rfl fun hb => (er_Gcd a b ha hb).rounds.elim fun k h => ref_Gcd.snd k a b _ _ h
theorem ref_DivMod.c (a b : List Int) : Sound Tryd.prog 26 [N a, N b] (.tup [N (divS a b).1, N (divS a b).2.1, I (divS a b).2.2]) := Sound.sml (Entered.of Tryd.func26 rfl rfl) 0 a rfl fun ha => Sound.sml (Entered.of Tryd.func26 rfl rfl) 1 b rfl fun hb => (er_DivMod a b ha hb).rounds.elim fun k h => ref_DivMod.snd k a b _ _ _ h
theorem ref_Cmp.c (a b : List Int) : Sound Tryd.prog 33 [N a, N b] (.tup [I (ncmpS a b).1, I (ncmpS a b).2]) := Sound.sml (Entered.of Tryd.func33 rfl rfl) 0 a rfl fun ha => Sound.sml (Entered.of Tryd.func33 rfl rfl) 1 b rfl fun hb => (er_Cmp a b ha hb).rounds.elim fun k h => ref_Cmp.snd k a b _ _ h
theorem ref_Of.c (n : Int) (hn : n ≤ 9223372036854775807) : Sound Tryd.prog 35 [I n] (.tup [N (ofS n).1, I (ofS n).2]) := (er_Of n hn).rounds.elim fun k h => ref_Of.snd k n _ _ h
theorem ref_Same.c (a b : List Int) : Sound Tryd.prog 24 [N a, N b] (B (decide (a = b))) := Sound.sml (Entered.of Tryd.func24 rfl rfl) 0 a rfl fun ha => (er_Same a b ha).rounds.elim fun k h => ref_Same.snd k a b _ h
theorem limbs.c (a b : List Int) : Sound Tryd.prog 96 [N a, N b] (B (decide (a = b))) := Sound.sml (Entered.of Tryd.func96 rfl rfl) 0 a rfl fun ha => (er_limbs a b ha).rounds.elim fun k h => limbs.snd k a b _ h
end Go.Proofs.YtalklhbdpmggjaaDoor.Pw
namespace Go.Proofs
open Go.Shelf
def Tryd.lays170_ren : Go.Shelf.Ren := ⟨fun | 170 => 114 | n => n, fun | 70 => 69 | 3 => 3 | 0 => 0 | 72 => 72 | 37 => 70 | 5 => 5 | n => n, fun | n => n⟩
theorem Tryd.lays170 : Go.Proofs.Lays.n170 Tryd.prog Tryd.lays170_ren := {
  mixed := by kernel_rfl
  f170 := Tryd.func114.trans (congrArg some (by kernel_rfl))
  t0 := Tryd.underlying0
  a0 := Tryd.isAgg0
  z0 := Tryd.sizeOf0
  v0 := Tryd.zeroValue0
  t3 := Tryd.underlying3
  a3 := Tryd.isAgg3
  z3 := Tryd.sizeOf3
  v3 := Tryd.zeroValue3
  t37 := Tryd.underlying70
  a37 := Tryd.isAgg70
  z37 := Tryd.sizeOf70
  v37 := Tryd.zeroValue70
  t70 := Tryd.underlying69
  a70 := Tryd.isAgg69
  z70 := Tryd.sizeOf69
  v70 := Tryd.zeroValue69
  t72 := Tryd.underlying72
  a72 := Tryd.isAgg72
  z72 := Tryd.sizeOf72
  v72 := Tryd.zeroValue72 }
open Go.RowKit in
/-- (*strings.Builder).Len: "Len returns the number of accumulated bytes; b.Len() == len(b.String()).": the world is as it was. (LAID: no walk: one application.) -/
theorem Tryd.Builder_Len (B b : Nat) (bs : List Value) (w : World) (h : Lib.IsBuilder 72 5 B b bs w) :
    Calls Tryd.prog 114 #[.pointer (some ⟨b, 0, none⟩)] w fun e w' => e = .returned (.int .i64 bs.length) ∧ w' = w := Any.Builder_Len Tryd.lays170 B b bs w h
def Tryd.lays169_ren : Go.Shelf.Ren := ⟨fun | 169 => 87 | n => n, fun | 70 => 69 | 9 => 9 | 0 => 0 | 72 => 72 | 37 => 70 | 127 => 104 | 3 => 3 | 5 => 5 | n => n, fun | n => n⟩
theorem Tryd.lays169 : Go.Proofs.Lays.n169 Tryd.prog Tryd.lays169_ren := {
  mixed := by kernel_rfl
  f169 := Tryd.func87.trans (congrArg some (by kernel_rfl))
  t0 := Tryd.underlying0
  a0 := Tryd.isAgg0
  z0 := Tryd.sizeOf0
  v0 := Tryd.zeroValue0
  t3 := Tryd.underlying3
  a3 := Tryd.isAgg3
  z3 := Tryd.sizeOf3
  v3 := Tryd.zeroValue3
  t9 := Tryd.underlying9
  a9 := Tryd.isAgg9
  z9 := Tryd.sizeOf9
  v9 := Tryd.zeroValue9
  t37 := Tryd.underlying70
  a37 := Tryd.isAgg70
  z37 := Tryd.sizeOf70
  v37 := Tryd.zeroValue70
  t70 := Tryd.underlying69
  a70 := Tryd.isAgg69
  z70 := Tryd.sizeOf69
  v70 := Tryd.zeroValue69
  t72 := Tryd.underlying72
  a72 := Tryd.isAgg72
  z72 := Tryd.sizeOf72
  v72 := Tryd.zeroValue72
  t127 := Tryd.underlying104
  a127 := Tryd.isAgg104
  z127 := Tryd.sizeOf104
  v127 := Tryd.zeroValue104 }
theorem Tryd.Builder_Extra_169 : Builder.Extra Tryd.prog Tryd.lays169_ren := {
  sizeBuilder := by kernel_rfl
  liesBuilder := by kernel_rfl
  t5 := Tryd.underlying5
  a5 := Tryd.isAgg5
  z5 := Tryd.sizeOf5
  v5 := Tryd.zeroValue5
  infoByte := by kernel_rfl
  cellsByte := by kernel_rfl
  sizeByte := by kernel_rfl
  neB5 := by decide }
open Go.RowKit in
/-- (*strings.Builder).String: "String returns the accumulated string.": OF A BUILDER THAT HOLDS AT LEAST ONE BYTE. ✋ THE MODEL FREEZES THOSE BYTES IN THE BUFFER (unsafe.String): a later write INTO them ends the model's run without an answer; a later append BEHIND them goes on. The statement's order of evaluation is drawn: one draw. (LAID: no walk: one application.) -/
theorem Tryd.Builder_String (B b : Nat) (l : List UInt8) (w : World) (h : Lib.IsBuilder 72 5 B b (Lib.byteCells l) w) (h0 : l ≠ []) :
    Calls Tryd.prog 87 #[.pointer (some ⟨b, 0, none⟩)] w fun e w' => e = .returned (.string ⟨l.toArray⟩) ∧ Below B w w' := Any.Builder_String Tryd.lays169 Tryd.Builder_Extra_169 B b l w h h0
open Go.RowKit in
/-- (*strings.Builder).String OF A BUILDER THAT HOLDS NO BYTE: the empty string. (Its buffer is nil, or a row of which it has taken nothing yet; where that row has NO capacity the model lays one new block for unsafe.SliceData's 'some address'.) One draw. (LAID: no walk: one application.) -/
theorem Tryd.Builder_String_empty (B b : Nat) (w : World) (h : Lib.IsBuilder 72 5 B b [] w) (hBw : B ≤ w.heap.size) :
    Calls Tryd.prog 87 #[.pointer (some ⟨b, 0, none⟩)] w fun e w' => e = .returned (.string ⟨#[]⟩) ∧ Below B w w' := Any.Builder_String_empty Tryd.lays169 Tryd.Builder_Extra_169 B b w h hBw
open Go.RowKit in
/-- (*strings.Builder).String: "String returns the accumulated string.": WHATEVER THE BUILDER HOLDS. (LAID: no walk: one application.) -/
theorem Tryd.Builder_String_any (B b : Nat) (l : List UInt8) (w : World) (h : Lib.IsBuilder 72 5 B b (Lib.byteCells l) w) (hBw : B ≤ w.heap.size) :
    Calls Tryd.prog 87 #[.pointer (some ⟨b, 0, none⟩)] w fun e w' => e = .returned (.string ⟨l.toArray⟩) ∧ Below B w w' := Any.Builder_String_any Tryd.lays169 Tryd.Builder_Extra_169 B b l w h hBw
def Tryd.lays241_ren : Go.Shelf.Ren := ⟨fun | 241 => 125 | 277 => 130 | n => n, fun | 70 => 69 | 3 => 3 | 0 => 0 | 72 => 72 | 37 => 70 | 5 => 5 | n => n, fun | n => n⟩
theorem Tryd.lays241 : Go.Proofs.Lays.n241 Tryd.prog Tryd.lays241_ren := {
  mixed := by kernel_rfl
  f241 := Tryd.func125.trans (congrArg some (by kernel_rfl))
  f277 := Tryd.func130.trans (congrArg some (by kernel_rfl))
  t0 := Tryd.underlying0
  a0 := Tryd.isAgg0
  z0 := Tryd.sizeOf0
  v0 := Tryd.zeroValue0
  t3 := Tryd.underlying3
  a3 := Tryd.isAgg3
  z3 := Tryd.sizeOf3
  v3 := Tryd.zeroValue3
  t37 := Tryd.underlying70
  a37 := Tryd.isAgg70
  z37 := Tryd.sizeOf70
  v37 := Tryd.zeroValue70
  t70 := Tryd.underlying69
  a70 := Tryd.isAgg69
  z70 := Tryd.sizeOf69
  v70 := Tryd.zeroValue69
  t72 := Tryd.underlying72
  a72 := Tryd.isAgg72
  z72 := Tryd.sizeOf72
  v72 := Tryd.zeroValue72 }
theorem Tryd.Builder_Extra_241 : Builder.Extra Tryd.prog Tryd.lays241_ren := {
  sizeBuilder := by kernel_rfl
  liesBuilder := by kernel_rfl
  t5 := Tryd.underlying5
  a5 := Tryd.isAgg5
  z5 := Tryd.sizeOf5
  v5 := Tryd.zeroValue5
  infoByte := by kernel_rfl
  cellsByte := by kernel_rfl
  sizeByte := by kernel_rfl
  neB5 := by decide }
open Go.RowKit in
/-- (*strings.Builder).grow (no doc but "grow copies the buffer to a new, larger buffer so that there are at least n bytes of capacity beyond len(b.buf)."): AT A BUILDER WITHOUT A BUFFER: a new row of whatever bytes for its buffer, none of them its own yet. Three draws. (LAID: no walk: one application.) -/
theorem Tryd.Builder_grow_fresh (B b n : Nat) (w : World) (hB : B ≤ b) (hbk : w.heap[b]? = some (.cells #[.pointer (some ⟨b, 0, none⟩), .slice none 0 0] 72 (0, 0))) (hBw : B ≤ w.heap.size) (hn : n ≤ 281474976710656) :
    Calls Tryd.prog 125 #[.pointer (some ⟨b, 0, none⟩), .int .i64 n] w fun e w' => e = .returned (.tuple #[]) ∧ (Lib.BuilderAt 72 5 B b (.pointer (some ⟨b, 0, none⟩)) [] w' ∧ Below B w w') := Any.Builder_grow_fresh Tryd.lays241 Tryd.Builder_Extra_241 B b n w hB hbk hBw hn
def Tryd.lays165_ren : Go.Shelf.Ren := ⟨fun | 165 => 113 | 240 => 109 | 241 => 125 | 276 => 120 | 277 => 130 | n => n, fun | 70 => 69 | 3 => 3 | 0 => 0 | 4 => 4 | 9 => 9 | 20 => 20 | 72 => 72 | 37 => 70 | 164 => 109 | 5 => 5 | n => n, fun | n => n⟩
theorem Tryd.lays165 : Go.Proofs.Lays.n165 Tryd.prog Tryd.lays165_ren := {
  mixed := by kernel_rfl
  f165 := Tryd.func113.trans (congrArg some (by kernel_rfl))
  f240 := Tryd.func109.trans (congrArg some (by kernel_rfl))
  f241 := Tryd.func125.trans (congrArg some (by kernel_rfl))
  f276 := Tryd.func120.trans (congrArg some (by kernel_rfl))
  f277 := Tryd.func130.trans (congrArg some (by kernel_rfl))
  t0 := Tryd.underlying0
  a0 := Tryd.isAgg0
  z0 := Tryd.sizeOf0
  v0 := Tryd.zeroValue0
  t3 := Tryd.underlying3
  a3 := Tryd.isAgg3
  z3 := Tryd.sizeOf3
  v3 := Tryd.zeroValue3
  t4 := Tryd.underlying4
  a4 := Tryd.isAgg4
  z4 := Tryd.sizeOf4
  v4 := Tryd.zeroValue4
  t9 := Tryd.underlying9
  a9 := Tryd.isAgg9
  z9 := Tryd.sizeOf9
  v9 := Tryd.zeroValue9
  t20 := Tryd.underlying20
  a20 := Tryd.isAgg20
  z20 := Tryd.sizeOf20
  v20 := Tryd.zeroValue20
  t37 := Tryd.underlying70
  a37 := Tryd.isAgg70
  z37 := Tryd.sizeOf70
  v37 := Tryd.zeroValue70
  t70 := Tryd.underlying69
  a70 := Tryd.isAgg69
  z70 := Tryd.sizeOf69
  v70 := Tryd.zeroValue69
  t72 := Tryd.underlying72
  a72 := Tryd.isAgg72
  z72 := Tryd.sizeOf72
  v72 := Tryd.zeroValue72
  t164 := Tryd.underlying109
  a164 := Tryd.isAgg109
  z164 := Tryd.sizeOf109
  v164 := Tryd.zeroValue109 }
theorem Tryd.Builder_Extra_165 : Builder.Extra Tryd.prog Tryd.lays165_ren := {
  sizeBuilder := by kernel_rfl
  liesBuilder := by kernel_rfl
  t5 := Tryd.underlying5
  a5 := Tryd.isAgg5
  z5 := Tryd.sizeOf5
  v5 := Tryd.zeroValue5
  infoByte := by kernel_rfl
  cellsByte := by kernel_rfl
  sizeByte := by kernel_rfl
  neB5 := by decide }
open Go.RowKit in
/-- (*strings.Builder).Grow AT A BUILDER THAT HAS NOT BEEN WRITTEN ('var b strings.Builder; b.Grow(n)'): "Grow grows b's capacity, if necessary, to guarantee space for another n bytes.": it holds no byte behind it as before it. (LAID: no walk: one application.) -/
theorem Tryd.Builder_Grow_fresh (B b n : Nat) (w : World) (hB : B ≤ b) (hbk : w.heap[b]? = some (.cells #[.pointer none, .slice none 0 0] 72 (0, 0))) (hBw : B ≤ w.heap.size) (hn : n ≤ 281474976710656) :
    Calls Tryd.prog 113 #[.pointer (some ⟨b, 0, none⟩), .int .i64 n] w fun e w' => e = .returned (.tuple #[]) ∧ (Lib.BuilderAt 72 5 B b (.pointer (some ⟨b, 0, none⟩)) [] w' ∧ Below B w w') := Any.Builder_Grow_fresh Tryd.lays165 Tryd.Builder_Extra_165 B b n w hB hbk hBw hn
open Go.RowKit in
/-- (*strings.Builder).Len: "Len returns the number of accumulated bytes; b.Len() == len(b.String()).": the world is as it was. (THE FORM '_f': 'Lib.IsBuilderF'.) (LAID: no walk: one application.) -/
theorem Tryd.Builder_Len_f (B b : Nat) (bs : List Value) (w : World) (h : Lib.IsBuilderF 72 5 B b bs w) :
    Calls Tryd.prog 114 #[.pointer (some ⟨b, 0, none⟩)] w fun e w' => e = .returned (.int .i64 bs.length) ∧ w' = w := Any.Builder_Len_f Tryd.lays170 B b bs w h
open Go.RowKit in
/-- (*strings.Builder).String: "String returns the accumulated string.": OF A BUILDER THAT HOLDS AT LEAST ONE BYTE. ✋ THE MODEL FREEZES THOSE BYTES IN THE BUFFER (unsafe.String): a later write INTO them ends the model's run without an answer; a later append BEHIND them goes on. The statement's order of evaluation is drawn: one draw. THE FORM '_f': IT SAYS BESIDES THAT THE BUILDER IS A BUILDER STILL ('Lib.IsBuilderF', the same bytes): SO IT CAN BE WRITTEN ON: 'b.WriteString(b.String()[:k])'. (LAID: no walk: one application.) -/
theorem Tryd.Builder_String_f (B b : Nat) (l : List UInt8) (w : World) (h : Lib.IsBuilderF 72 5 B b (Lib.byteCells l) w) (h0 : l ≠ []) :
    Calls Tryd.prog 87 #[.pointer (some ⟨b, 0, none⟩)] w fun e w' => e = .returned (.string ⟨l.toArray⟩) ∧ (Lib.IsBuilderF 72 5 B b (Lib.byteCells l) w' ∧ Below B w w') := Any.Builder_String_f Tryd.lays169 Tryd.Builder_Extra_169 B b l w h h0
open Go.RowKit in
/-- (*strings.Builder).String OF A BUILDER THAT HOLDS NO BYTE: the empty string; THE FORM '_f': a builder still. (LAID: no walk: one application.) -/
theorem Tryd.Builder_String_empty_f (B b : Nat) (w : World) (h : Lib.IsBuilderF 72 5 B b [] w) (hBw : B ≤ w.heap.size) :
    Calls Tryd.prog 87 #[.pointer (some ⟨b, 0, none⟩)] w fun e w' => e = .returned (.string ⟨#[]⟩) ∧ (Lib.IsBuilderF 72 5 B b [] w' ∧ Below B w w') := Any.Builder_String_empty_f Tryd.lays169 Tryd.Builder_Extra_169 B b w h hBw
open Go.RowKit in
/-- (*strings.Builder).String: "String returns the accumulated string.": WHATEVER THE BUILDER HOLDS; THE FORM '_f': OF A BUILDER THAT MAY HAVE BEEN READ BEFORE; AND IT IS A BUILDER STILL, holding the same bytes: it can be written on. (LAID: no walk: one application.) -/
theorem Tryd.Builder_String_any_f (B b : Nat) (l : List UInt8) (w : World) (h : Lib.IsBuilderF 72 5 B b (Lib.byteCells l) w) (hBw : B ≤ w.heap.size) :
    Calls Tryd.prog 87 #[.pointer (some ⟨b, 0, none⟩)] w fun e w' => e = .returned (.string ⟨l.toArray⟩) ∧ (Lib.IsBuilderF 72 5 B b (Lib.byteCells l) w' ∧ Below B w w') := Any.Builder_String_any_f Tryd.lays169 Tryd.Builder_Extra_169 B b l w h hBw
open Go.RowKit in
/-- (*strings.Builder).String: "String returns the accumulated string.": OF A BUILDER THAT HOLDS AT LEAST ONE BYTE. ✋ THE MODEL FREEZES THOSE BYTES IN THE BUFFER (unsafe.String): a later write INTO them ends the model's run without an answer; a later append BEHIND them goes on. The statement's order of evaluation is drawn: one draw. THE FORM '_k': OVER 'Lib.IsBuilderF' (a builder that 'String()' may have read), AND WITH THE FRAME THAT REACHES ABOVE THE BUILDER: 'Lib.OthersKept': every block that is not b and is no row of uint8's stands as it stood: the iterator of a range among them. (LAID: no walk: one application.) -/
theorem Tryd.Builder_String_k (B b : Nat) (l : List UInt8) (w : World) (h : Lib.IsBuilderF 72 5 B b (Lib.byteCells l) w) (h0 : l ≠ []) :
    Calls Tryd.prog 87 #[.pointer (some ⟨b, 0, none⟩)] w fun e w' => e = .returned (.string ⟨l.toArray⟩) ∧ (Lib.IsBuilderF 72 5 B b (Lib.byteCells l) w' ∧ Below B w w' ∧ Lib.OthersKept 5 (some b) w w') := Any.Builder_String_k Tryd.lays169 Tryd.Builder_Extra_169 B b l w h h0
open Go.RowKit in
/-- (*strings.Builder).String OF A BUILDER THAT HOLDS NO BYTE: the empty string; THE FORM '_k': OVER 'Lib.IsBuilderF' (a builder that 'String()' may have read), AND WITH THE FRAME THAT REACHES ABOVE THE BUILDER: 'Lib.OthersKept': every block that is not b and is no row of uint8's stands as it stood: the iterator of a range among them. (LAID: no walk: one application.) -/
theorem Tryd.Builder_String_empty_k (B b : Nat) (w : World) (h : Lib.IsBuilderF 72 5 B b [] w) (hBw : B ≤ w.heap.size) :
    Calls Tryd.prog 87 #[.pointer (some ⟨b, 0, none⟩)] w fun e w' => e = .returned (.string ⟨#[]⟩) ∧ (Lib.IsBuilderF 72 5 B b [] w' ∧ Below B w w' ∧ Lib.OthersKept 5 (some b) w w') := Any.Builder_String_empty_k Tryd.lays169 Tryd.Builder_Extra_169 B b w h hBw
open Go.RowKit in
/-- (*strings.Builder).String: "String returns the accumulated string.": WHATEVER THE BUILDER HOLDS; THE FORM '_k': OVER 'Lib.IsBuilderF' (a builder that 'String()' may have read), AND WITH THE FRAME THAT REACHES ABOVE THE BUILDER: 'Lib.OthersKept': every block that is not b and is no row of uint8's stands as it stood: the iterator of a range among them. (LAID: no walk: one application.) -/
theorem Tryd.Builder_String_any_k (B b : Nat) (l : List UInt8) (w : World) (h : Lib.IsBuilderF 72 5 B b (Lib.byteCells l) w) (hBw : B ≤ w.heap.size) :
    Calls Tryd.prog 87 #[.pointer (some ⟨b, 0, none⟩)] w fun e w' => e = .returned (.string ⟨l.toArray⟩) ∧ (Lib.IsBuilderF 72 5 B b (Lib.byteCells l) w' ∧ Below B w w' ∧ Lib.OthersKept 5 (some b) w w') := Any.Builder_String_any_k Tryd.lays169 Tryd.Builder_Extra_169 B b l w h hBw
def Tryd.lays129_ren : Go.Shelf.Ren := ⟨fun | 129 => 132 | n => n, fun | 53 => 115 | 3 => 3 | 4 => 4 | 46 => 98 | 5 => 5 | 9 => 9 | n => n, fun | n => n⟩
theorem Tryd.lays129 : Go.Proofs.Lays.n129 Tryd.prog Tryd.lays129_ren := {
  mixed := by kernel_rfl
  f129 := Tryd.func132.trans (congrArg some (by kernel_rfl))
  t3 := Tryd.underlying3
  a3 := Tryd.isAgg3
  z3 := Tryd.sizeOf3
  v3 := Tryd.zeroValue3
  t4 := Tryd.underlying4
  a4 := Tryd.isAgg4
  z4 := Tryd.sizeOf4
  v4 := Tryd.zeroValue4
  t5 := Tryd.underlying5
  a5 := Tryd.isAgg5
  z5 := Tryd.sizeOf5
  v5 := Tryd.zeroValue5
  t9 := Tryd.underlying9
  a9 := Tryd.isAgg9
  z9 := Tryd.sizeOf9
  v9 := Tryd.zeroValue9
  t46 := Tryd.underlying98
  a46 := Tryd.isAgg98
  z46 := Tryd.sizeOf98
  v46 := Tryd.zeroValue98
  t53 := Tryd.underlying115
  a53 := Tryd.isAgg115
  z53 := Tryd.sizeOf115
  v53 := Tryd.zeroValue115 }
/-- bits.Len64: "Len64 returns the minimum number of bits required to represent x; the result is 0 for x == 0.": IT RETURNS 'Lib.bitLen x'; the world is as it was. ('h0', 'h1': x is a uint64.) (LAID: no walk: one application.) -/
theorem Tryd.bits_Len64 (x : Int) (w : World) (h0 : 0 ≤ x) (h1 : x ≤ 18446744073709551615) :
    Calls Tryd.prog 132 #[.int .u64 x] w fun e w' => e = .returned (.int .i64 (Lib.bitLen x.toNat)) ∧ w' = w := Any.bits_Len64 Tryd.lays129 x w h0 h1
def Tryd.lays317_ren : Go.Shelf.Ren := ⟨fun | 317 => 131 | n => n, fun | 3 => 3 | 46 => 98 | n => n, fun | n => n⟩
theorem Tryd.lays317 : Go.Proofs.Lays.n317 Tryd.prog Tryd.lays317_ren := {
  mixed := by kernel_rfl
  f317 := Tryd.func131.trans (congrArg some (by kernel_rfl))
  t3 := Tryd.underlying3
  a3 := Tryd.isAgg3
  z3 := Tryd.sizeOf3
  v3 := Tryd.zeroValue3
  t46 := Tryd.underlying98
  a46 := Tryd.isAgg98
  z46 := Tryd.sizeOf98
  v46 := Tryd.zeroValue98 }
open Go.Lib in
/-- internal/strconv.log10Pow2: "log10Pow2(x) returns ⌊log₁₀ 2**x⌋ = ⌊x * log₁₀ 2⌋.": '(x * 78913) >> 18', at an x up to 64 (a length in bits). The world is as it was. (LAID: no walk: one application.) -/
theorem Tryd.internal_strconv_log10Pow2 (x : Nat) (h : x ≤ 64) (w : World) :
    Calls Tryd.prog 131 #[.int .i64 x] w fun e w' => e = .returned (.int .i64 (Lib.l10 x)) ∧ w' = w := Any.internal_strconv_log10Pow2 Tryd.lays317 x h w
def Tryd.lays318_ren : Go.Shelf.Ren := ⟨fun | 318 => 133 | n => n, fun | 3 => 3 | 4 => 4 | n => n, fun | n => n⟩
theorem Tryd.lays318 : Go.Proofs.Lays.n318 Tryd.prog Tryd.lays318_ren := {
  mixed := by kernel_rfl
  f318 := Tryd.func133.trans (congrArg some (by kernel_rfl))
  t3 := Tryd.underlying3
  a3 := Tryd.isAgg3
  z3 := Tryd.sizeOf3
  v3 := Tryd.zeroValue3
  t4 := Tryd.underlying4
  a4 := Tryd.isAgg4
  z4 := Tryd.sizeOf4
  v4 := Tryd.zeroValue4 }
open Go.Lib in
/-- internal/strconv.bool2: "bool2 converts b to an integer: 1 for true, 0 for false." The world is as it was. (LAID: no walk: one application.) -/
theorem Tryd.internal_strconv_bool2_int (b : Bool) (w : World) :
    Calls Tryd.prog 133 #[.bool b] w fun e w' => e = .returned (.int .i64 (if b then 1 else 0)) ∧ w' = w := Any.internal_strconv_bool2_int Tryd.lays318 b w
def Tryd.lays283_ren : Go.Shelf.Ren := ⟨fun | 283 => 126 | n => n, fun | 3 => 3 | 9 => 9 | 4 => 4 | n => n, fun | n => n⟩
theorem Tryd.lays283 : Go.Proofs.Lays.n283 Tryd.prog Tryd.lays283_ren := {
  mixed := by kernel_rfl
  f283 := Tryd.func126.trans (congrArg some (by kernel_rfl))
  t3 := Tryd.underlying3
  a3 := Tryd.isAgg3
  z3 := Tryd.sizeOf3
  v3 := Tryd.zeroValue3
  t4 := Tryd.underlying4
  a4 := Tryd.isAgg4
  z4 := Tryd.sizeOf4
  v4 := Tryd.zeroValue4
  t9 := Tryd.underlying9
  a9 := Tryd.isAgg9
  z9 := Tryd.sizeOf9
  v9 := Tryd.zeroValue9 }
open Go.Lib in
/-- internal/strconv.small: "small returns the string for an i with 0 <= i < nSmalls.": i's decimal numeral. The world is as it was. (LAID: no walk: one application.) -/
theorem Tryd.internal_strconv_small (i : Nat) (h : i < 100) (w : World) :
    Calls Tryd.prog 126 #[.int .i64 i] w fun e w' => e = .returned (.string ⟨(Lib.decDigits i).toArray⟩) ∧ w' = w := Any.internal_strconv_small Tryd.lays283 i h w
def Tryd.laysM284_ren : Go.Shelf.Ren := ⟨fun | 284 => 127 | 129 => 132 | 317 => 131 | 318 => 133 | n => n, fun | 53 => 115 | 3 => 3 | 212 => 126 | 0 => 0 | 4 => 4 | 46 => 98 | 5 => 5 | 9 => 9 | n => n, fun | 17 => 0 | n => n⟩
theorem Tryd.laysM284 : Go.Proofs.LaysM.n284 Tryd.prog Tryd.laysM284_ren := {
  mixed := by kernel_rfl
  f129 := Tryd.func132.trans (congrArg some (by kernel_rfl))
  f284 := Tryd.func127.trans (congrArg some (by kernel_rfl))
  f317 := Tryd.func131.trans (congrArg some (by kernel_rfl))
  f318 := Tryd.func133.trans (congrArg some (by kernel_rfl))
  t0 := Tryd.underlying0
  a0 := Tryd.isAgg0
  z0 := Tryd.sizeOf0
  v0 := Tryd.zeroValue0
  t3 := Tryd.underlying3
  a3 := Tryd.isAgg3
  z3 := Tryd.sizeOf3
  v3 := Tryd.zeroValue3
  t4 := Tryd.underlying4
  a4 := Tryd.isAgg4
  z4 := Tryd.sizeOf4
  v4 := Tryd.zeroValue4
  t5 := Tryd.underlying5
  a5 := Tryd.isAgg5
  z5 := Tryd.sizeOf5
  v5 := Tryd.zeroValue5
  t9 := Tryd.underlying9
  a9 := Tryd.isAgg9
  z9 := Tryd.sizeOf9
  v9 := Tryd.zeroValue9
  t46 := Tryd.underlying98
  a46 := Tryd.isAgg98
  z46 := Tryd.sizeOf98
  v46 := Tryd.zeroValue98
  t53 := Tryd.underlying115
  a53 := Tryd.isAgg115
  z53 := Tryd.sizeOf115
  v53 := Tryd.zeroValue115
  t212 := Tryd.underlying126
  a212 := Tryd.isAgg126
  z212 := Tryd.sizeOf126
  v212 := Tryd.zeroValue126
  g17 := by kernel_rfl
  i0 := by kernel_rfl
  i3 := by kernel_rfl
  i4 := by kernel_rfl
  i5 := by kernel_rfl
  i9 := by kernel_rfl
  i46 := by kernel_rfl
  i53 := by kernel_rfl
  i212 := by kernel_rfl
  m17 := by kernel_rfl }
open Go.Lib in
/-- internal/strconv.numDigits, at a d that is not 0: THE NUMBER OF d's DECIMAL DIGITS. The world is as it was. (LAID: no walk: one application.) -/
theorem Tryd.internal_strconv_numDigits (u : Nat) (h1 : 1 ≤ u) (h2 : u < 18446744073709551616) (w : World) (htab : Lib.TabIs Tryd.prog w "internal/strconv.uint64pow10" .u64 Lib.pow10Tab) :
    Calls Tryd.prog 127 #[.int .u64 u] w fun e w' => e = .returned (.int .i64 (Lib.nDigits u)) ∧ w' = w := Any.internal_strconv_numDigits Tryd.laysM284 u h1 h2 w htab
def Tryd.lays285_ren : Go.Shelf.Ren := ⟨fun | 285 => 128 | n => n, fun | 37 => 70 | 53 => 115 | 3 => 3 | 4 => 4 | 51 => 112 | 9 => 9 | 5 => 5 | 0 => 0 | n => n, fun | n => n⟩
theorem Tryd.lays285 : Go.Proofs.Lays.n285 Tryd.prog Tryd.lays285_ren := {
  mixed := by kernel_rfl
  f285 := Tryd.func128.trans (congrArg some (by kernel_rfl))
  t0 := Tryd.underlying0
  a0 := Tryd.isAgg0
  z0 := Tryd.sizeOf0
  v0 := Tryd.zeroValue0
  t3 := Tryd.underlying3
  a3 := Tryd.isAgg3
  z3 := Tryd.sizeOf3
  v3 := Tryd.zeroValue3
  t4 := Tryd.underlying4
  a4 := Tryd.isAgg4
  z4 := Tryd.sizeOf4
  v4 := Tryd.zeroValue4
  t5 := Tryd.underlying5
  a5 := Tryd.isAgg5
  z5 := Tryd.sizeOf5
  v5 := Tryd.zeroValue5
  t9 := Tryd.underlying9
  a9 := Tryd.isAgg9
  z9 := Tryd.sizeOf9
  v9 := Tryd.zeroValue9
  t37 := Tryd.underlying70
  a37 := Tryd.isAgg70
  z37 := Tryd.sizeOf70
  v37 := Tryd.zeroValue70
  t51 := Tryd.underlying112
  a51 := Tryd.isAgg112
  z51 := Tryd.sizeOf112
  v51 := Tryd.zeroValue112
  t53 := Tryd.underlying115
  a53 := Tryd.isAgg115
  z53 := Tryd.sizeOf115
  v53 := Tryd.zeroValue115 }
open Go.RowKit Go.Sort Go.Lib in
/-- internal/strconv.formatBase10: "formatBase10 formats the decimal representation of u into a. The caller is responsible for ensuring that a is big enough to hold u. If a is too big, leading zeros will be filled in as needed.": THE ROW HOLDS u's DIGITS ('FmtInv .. 0 ..': every place t holds 'dg u (len - 1 - t)'); all else is as it was but for the count of draws. (LAID: no walk: one application.) -/
theorem Tryd.internal_strconv_formatBase10 (blk off cap : Nat) (u : Nat) (d : Array UInt8) (w : World) (hH : Holds (fun (b : UInt8) => Value.int .u8 (b.toNat : Int)) w blk off d) (hu : u < 10 ^ d.size) (hu64 : u < 18446744073709551616) (hsz : d.size < 4611686018427387904) :
    Calls Tryd.prog 128 #[.slice (some ⟨blk, off, none⟩) d.size cap, .int .u64 u] w fun e w' =>
      e = .returned (.tuple #[]) ∧ ∃ (n v' : Nat) (dk : Array UInt8), w' = (putRow (fun (b : UInt8) => Value.int .u8 (b.toNat : Int)) w blk off dk).drewN n ∧ FmtInv d.size u 0 v' dk := Any.internal_strconv_formatBase10 Tryd.lays285 blk off cap u d w hH hu hu64 hsz
def Tryd.laysM246_ren : Go.Shelf.Ren := ⟨fun | 246 => 121 | 283 => 126 | 284 => 127 | 285 => 128 | 286 => 129 | 129 => 132 | 317 => 131 | 318 => 133 | 319 => 134 | 320 => 135 | 337 => 136 | 338 => 137 | n => n, fun | 2 => 2 | 3 => 3 | 9 => 9 | 4 => 4 | 171 => 118 | 0 => 0 | 53 => 115 | 37 => 70 | 5 => 5 | 173 => 121 | 212 => 126 | 51 => 112 | 20 => 20 | 213 => 127 | 46 => 98 | 232 => 130 | 233 => 131 | n => n, fun | 17 => 0 | 18 => 2 | 19 => 3 | n => n⟩
theorem Tryd.laysM246 : Go.Proofs.LaysM.n246 Tryd.prog Tryd.laysM246_ren := {
  mixed := by kernel_rfl
  f129 := Tryd.func132.trans (congrArg some (by kernel_rfl))
  f246 := Tryd.func121.trans (congrArg some (by kernel_rfl))
  f283 := Tryd.func126.trans (congrArg some (by kernel_rfl))
  f284 := Tryd.func127.trans (congrArg some (by kernel_rfl))
  f285 := Tryd.func128.trans (congrArg some (by kernel_rfl))
  f286 := Tryd.func129.trans (congrArg some (by kernel_rfl))
  f317 := Tryd.func131.trans (congrArg some (by kernel_rfl))
  f318 := Tryd.func133.trans (congrArg some (by kernel_rfl))
  f319 := Tryd.func134.trans (congrArg some (by kernel_rfl))
  f320 := Tryd.func135.trans (congrArg some (by kernel_rfl))
  f337 := Tryd.func136.trans (congrArg some (by kernel_rfl))
  f338 := Tryd.func137.trans (congrArg some (by kernel_rfl))
  t0 := Tryd.underlying0
  a0 := Tryd.isAgg0
  z0 := Tryd.sizeOf0
  v0 := Tryd.zeroValue0
  t2 := Tryd.underlying2
  a2 := Tryd.isAgg2
  z2 := Tryd.sizeOf2
  v2 := Tryd.zeroValue2
  t3 := Tryd.underlying3
  a3 := Tryd.isAgg3
  z3 := Tryd.sizeOf3
  v3 := Tryd.zeroValue3
  t4 := Tryd.underlying4
  a4 := Tryd.isAgg4
  z4 := Tryd.sizeOf4
  v4 := Tryd.zeroValue4
  t5 := Tryd.underlying5
  a5 := Tryd.isAgg5
  z5 := Tryd.sizeOf5
  v5 := Tryd.zeroValue5
  t9 := Tryd.underlying9
  a9 := Tryd.isAgg9
  z9 := Tryd.sizeOf9
  v9 := Tryd.zeroValue9
  t20 := Tryd.underlying20
  a20 := Tryd.isAgg20
  z20 := Tryd.sizeOf20
  v20 := Tryd.zeroValue20
  t37 := Tryd.underlying70
  a37 := Tryd.isAgg70
  z37 := Tryd.sizeOf70
  v37 := Tryd.zeroValue70
  t46 := Tryd.underlying98
  a46 := Tryd.isAgg98
  z46 := Tryd.sizeOf98
  v46 := Tryd.zeroValue98
  t51 := Tryd.underlying112
  a51 := Tryd.isAgg112
  z51 := Tryd.sizeOf112
  v51 := Tryd.zeroValue112
  t53 := Tryd.underlying115
  a53 := Tryd.isAgg115
  z53 := Tryd.sizeOf115
  v53 := Tryd.zeroValue115
  t171 := Tryd.underlying118
  a171 := Tryd.isAgg118
  z171 := Tryd.sizeOf118
  v171 := Tryd.zeroValue118
  t173 := Tryd.underlying121
  a173 := Tryd.isAgg121
  z173 := Tryd.sizeOf121
  v173 := Tryd.zeroValue121
  t212 := Tryd.underlying126
  a212 := Tryd.isAgg126
  z212 := Tryd.sizeOf126
  v212 := Tryd.zeroValue126
  t213 := Tryd.underlying127
  a213 := Tryd.isAgg127
  z213 := Tryd.sizeOf127
  t232 := Tryd.underlying130
  a232 := Tryd.isAgg130
  z232 := Tryd.sizeOf130
  v232 := Tryd.zeroValue130
  t233 := Tryd.underlying131
  a233 := Tryd.isAgg131
  z233 := Tryd.sizeOf131
  v233 := Tryd.zeroValue131
  g17 := by kernel_rfl
  g18 := by kernel_rfl
  g19 := by kernel_rfl
  i0 := by kernel_rfl
  i2 := by kernel_rfl
  i3 := by kernel_rfl
  i4 := by kernel_rfl
  i5 := by kernel_rfl
  i9 := by kernel_rfl
  i20 := by kernel_rfl
  i37 := by kernel_rfl
  i46 := by kernel_rfl
  i51 := by kernel_rfl
  i53 := by kernel_rfl
  i171 := by kernel_rfl
  i173 := by kernel_rfl
  i212 := by kernel_rfl
  i232 := by kernel_rfl
  i233 := by kernel_rfl
  m17 := by kernel_rfl
  m18 := by kernel_rfl
  m19 := by kernel_rfl }
open Go.RowKit Go.Sort Go.Lib in
/-- internal/strconv.FormatInt: "FormatInt returns the string representation of i in the given base": AT BASE 10: i's decimal numeral, for every int64. The world behind the call: the world before it, new blocks behind the heap, draws. (LAID: no walk: one application.) -/
theorem Tryd.internal_strconv_FormatInt_10 (n : Int) (h0 : -9223372036854775808 ≤ n) (h1 : n ≤ 9223372036854775807) (w : World) (htab : Lib.TabIs Tryd.prog w "internal/strconv.uint64pow10" .u64 Lib.pow10Tab) :
    Calls Tryd.prog 121 #[.int .i64 n, .int .i64 10] w fun e w' => e = .returned (.string ⟨(Lib.itoa n).toArray⟩) ∧ ∃ k os, w' = grow (w.drewN k) os := Any.internal_strconv_FormatInt_10 Tryd.laysM246 n h0 h1 w htab
def Tryd.lays246_ren : Go.Shelf.Ren := ⟨fun | 246 => 121 | 283 => 126 | 284 => 127 | 285 => 128 | 286 => 129 | 129 => 132 | 317 => 131 | 318 => 133 | 319 => 134 | 320 => 135 | 337 => 136 | 338 => 137 | n => n, fun | 2 => 2 | 3 => 3 | 9 => 9 | 4 => 4 | 171 => 118 | 0 => 0 | 53 => 115 | 37 => 70 | 5 => 5 | 173 => 121 | 212 => 126 | 51 => 112 | 20 => 20 | 213 => 127 | 46 => 98 | 232 => 130 | 233 => 131 | n => n, fun | 17 => 0 | 18 => 2 | 19 => 3 | n => n⟩
theorem Tryd.lays246 : Go.Proofs.Lays.n246 Tryd.prog Tryd.lays246_ren := {
  mixed := by kernel_rfl
  f129 := Tryd.func132.trans (congrArg some (by kernel_rfl))
  f246 := Tryd.func121.trans (congrArg some (by kernel_rfl))
  f283 := Tryd.func126.trans (congrArg some (by kernel_rfl))
  f284 := Tryd.func127.trans (congrArg some (by kernel_rfl))
  f285 := Tryd.func128.trans (congrArg some (by kernel_rfl))
  f286 := Tryd.func129.trans (congrArg some (by kernel_rfl))
  f317 := Tryd.func131.trans (congrArg some (by kernel_rfl))
  f318 := Tryd.func133.trans (congrArg some (by kernel_rfl))
  f319 := Tryd.func134.trans (congrArg some (by kernel_rfl))
  f320 := Tryd.func135.trans (congrArg some (by kernel_rfl))
  f337 := Tryd.func136.trans (congrArg some (by kernel_rfl))
  f338 := Tryd.func137.trans (congrArg some (by kernel_rfl))
  t0 := Tryd.underlying0
  a0 := Tryd.isAgg0
  z0 := Tryd.sizeOf0
  v0 := Tryd.zeroValue0
  t2 := Tryd.underlying2
  a2 := Tryd.isAgg2
  z2 := Tryd.sizeOf2
  v2 := Tryd.zeroValue2
  t3 := Tryd.underlying3
  a3 := Tryd.isAgg3
  z3 := Tryd.sizeOf3
  v3 := Tryd.zeroValue3
  t4 := Tryd.underlying4
  a4 := Tryd.isAgg4
  z4 := Tryd.sizeOf4
  v4 := Tryd.zeroValue4
  t5 := Tryd.underlying5
  a5 := Tryd.isAgg5
  z5 := Tryd.sizeOf5
  v5 := Tryd.zeroValue5
  t9 := Tryd.underlying9
  a9 := Tryd.isAgg9
  z9 := Tryd.sizeOf9
  v9 := Tryd.zeroValue9
  t20 := Tryd.underlying20
  a20 := Tryd.isAgg20
  z20 := Tryd.sizeOf20
  v20 := Tryd.zeroValue20
  t37 := Tryd.underlying70
  a37 := Tryd.isAgg70
  z37 := Tryd.sizeOf70
  v37 := Tryd.zeroValue70
  t46 := Tryd.underlying98
  a46 := Tryd.isAgg98
  z46 := Tryd.sizeOf98
  v46 := Tryd.zeroValue98
  t51 := Tryd.underlying112
  a51 := Tryd.isAgg112
  z51 := Tryd.sizeOf112
  v51 := Tryd.zeroValue112
  t53 := Tryd.underlying115
  a53 := Tryd.isAgg115
  z53 := Tryd.sizeOf115
  v53 := Tryd.zeroValue115
  t171 := Tryd.underlying118
  a171 := Tryd.isAgg118
  z171 := Tryd.sizeOf118
  v171 := Tryd.zeroValue118
  t173 := Tryd.underlying121
  a173 := Tryd.isAgg121
  z173 := Tryd.sizeOf121
  v173 := Tryd.zeroValue121
  t212 := Tryd.underlying126
  a212 := Tryd.isAgg126
  z212 := Tryd.sizeOf126
  v212 := Tryd.zeroValue126
  t213 := Tryd.underlying127
  a213 := Tryd.isAgg127
  z213 := Tryd.sizeOf127
  t232 := Tryd.underlying130
  a232 := Tryd.isAgg130
  z232 := Tryd.sizeOf130
  v232 := Tryd.zeroValue130
  t233 := Tryd.underlying131
  a233 := Tryd.isAgg131
  z233 := Tryd.sizeOf131
  v233 := Tryd.zeroValue131
  g17 := by kernel_rfl
  g18 := by kernel_rfl
  g19 := by kernel_rfl }
open Go.RowKit Go.Sort Go.Lib in
/-- THE ROAD WITHOUT THE TABLE: 0 <= i < 100: two constants are read, nothing is laid: no premise on the world, and the world is as it was. (LAID: no walk: one application.) -/
theorem Tryd.internal_strconv_FormatInt_10_small (i : Nat) (hi : i < 100) (w : World) :
    Calls Tryd.prog 121 #[.int .i64 i, .int .i64 10] w fun e w' => e = .returned (.string ⟨(Lib.decDigits i).toArray⟩) ∧ w' = w := Any.internal_strconv_FormatInt_10_small Tryd.lays246 i hi w
def Tryd.laysM243_ren : Go.Shelf.Ren := ⟨fun | 243 => 110 | 246 => 121 | 283 => 126 | 284 => 127 | 285 => 128 | 286 => 129 | 129 => 132 | 317 => 131 | 318 => 133 | 319 => 134 | 320 => 135 | 337 => 136 | 338 => 137 | n => n, fun | 3 => 3 | 9 => 9 | 2 => 2 | 4 => 4 | 171 => 118 | 0 => 0 | 53 => 115 | 37 => 70 | 5 => 5 | 173 => 121 | 212 => 126 | 51 => 112 | 20 => 20 | 213 => 127 | 46 => 98 | 232 => 130 | 233 => 131 | n => n, fun | 17 => 0 | 18 => 2 | 19 => 3 | n => n⟩
theorem Tryd.laysM243 : Go.Proofs.LaysM.n243 Tryd.prog Tryd.laysM243_ren := {
  mixed := by kernel_rfl
  f129 := Tryd.func132.trans (congrArg some (by kernel_rfl))
  f243 := Tryd.func110.trans (congrArg some (by kernel_rfl))
  f246 := Tryd.func121.trans (congrArg some (by kernel_rfl))
  f283 := Tryd.func126.trans (congrArg some (by kernel_rfl))
  f284 := Tryd.func127.trans (congrArg some (by kernel_rfl))
  f285 := Tryd.func128.trans (congrArg some (by kernel_rfl))
  f286 := Tryd.func129.trans (congrArg some (by kernel_rfl))
  f317 := Tryd.func131.trans (congrArg some (by kernel_rfl))
  f318 := Tryd.func133.trans (congrArg some (by kernel_rfl))
  f319 := Tryd.func134.trans (congrArg some (by kernel_rfl))
  f320 := Tryd.func135.trans (congrArg some (by kernel_rfl))
  f337 := Tryd.func136.trans (congrArg some (by kernel_rfl))
  f338 := Tryd.func137.trans (congrArg some (by kernel_rfl))
  t0 := Tryd.underlying0
  a0 := Tryd.isAgg0
  z0 := Tryd.sizeOf0
  v0 := Tryd.zeroValue0
  t2 := Tryd.underlying2
  a2 := Tryd.isAgg2
  z2 := Tryd.sizeOf2
  v2 := Tryd.zeroValue2
  t3 := Tryd.underlying3
  a3 := Tryd.isAgg3
  z3 := Tryd.sizeOf3
  v3 := Tryd.zeroValue3
  t4 := Tryd.underlying4
  a4 := Tryd.isAgg4
  z4 := Tryd.sizeOf4
  v4 := Tryd.zeroValue4
  t5 := Tryd.underlying5
  a5 := Tryd.isAgg5
  z5 := Tryd.sizeOf5
  v5 := Tryd.zeroValue5
  t9 := Tryd.underlying9
  a9 := Tryd.isAgg9
  z9 := Tryd.sizeOf9
  v9 := Tryd.zeroValue9
  t20 := Tryd.underlying20
  a20 := Tryd.isAgg20
  z20 := Tryd.sizeOf20
  v20 := Tryd.zeroValue20
  t37 := Tryd.underlying70
  a37 := Tryd.isAgg70
  z37 := Tryd.sizeOf70
  v37 := Tryd.zeroValue70
  t46 := Tryd.underlying98
  a46 := Tryd.isAgg98
  z46 := Tryd.sizeOf98
  v46 := Tryd.zeroValue98
  t51 := Tryd.underlying112
  a51 := Tryd.isAgg112
  z51 := Tryd.sizeOf112
  v51 := Tryd.zeroValue112
  t53 := Tryd.underlying115
  a53 := Tryd.isAgg115
  z53 := Tryd.sizeOf115
  v53 := Tryd.zeroValue115
  t171 := Tryd.underlying118
  a171 := Tryd.isAgg118
  z171 := Tryd.sizeOf118
  v171 := Tryd.zeroValue118
  t173 := Tryd.underlying121
  a173 := Tryd.isAgg121
  z173 := Tryd.sizeOf121
  v173 := Tryd.zeroValue121
  t212 := Tryd.underlying126
  a212 := Tryd.isAgg126
  z212 := Tryd.sizeOf126
  v212 := Tryd.zeroValue126
  t213 := Tryd.underlying127
  a213 := Tryd.isAgg127
  z213 := Tryd.sizeOf127
  t232 := Tryd.underlying130
  a232 := Tryd.isAgg130
  z232 := Tryd.sizeOf130
  v232 := Tryd.zeroValue130
  t233 := Tryd.underlying131
  a233 := Tryd.isAgg131
  z233 := Tryd.sizeOf131
  v233 := Tryd.zeroValue131
  g17 := by kernel_rfl
  g18 := by kernel_rfl
  g19 := by kernel_rfl
  i0 := by kernel_rfl
  i2 := by kernel_rfl
  i3 := by kernel_rfl
  i4 := by kernel_rfl
  i5 := by kernel_rfl
  i9 := by kernel_rfl
  i20 := by kernel_rfl
  i37 := by kernel_rfl
  i46 := by kernel_rfl
  i51 := by kernel_rfl
  i53 := by kernel_rfl
  i171 := by kernel_rfl
  i173 := by kernel_rfl
  i212 := by kernel_rfl
  i232 := by kernel_rfl
  i233 := by kernel_rfl
  m17 := by kernel_rfl
  m18 := by kernel_rfl
  m19 := by kernel_rfl }
open Go.RowKit Go.Sort Go.Lib in
/-- internal/strconv.Itoa: "Itoa is equivalent to FormatInt(int64(i), 10).": i's decimal numeral, for every int. (LAID: no walk: one application.) -/
theorem Tryd.internal_strconv_Itoa (n : Int) (h0 : -9223372036854775808 ≤ n) (h1 : n ≤ 9223372036854775807) (w : World) (htab : Lib.TabIs Tryd.prog w "internal/strconv.uint64pow10" .u64 Lib.pow10Tab) :
    Calls Tryd.prog 110 #[.int .i64 n] w fun e w' => e = .returned (.string ⟨(Lib.itoa n).toArray⟩) ∧ ∃ k os, w' = grow (w.drewN k) os := Any.internal_strconv_Itoa Tryd.laysM243 n h0 h1 w htab
def Tryd.lays243_ren : Go.Shelf.Ren := ⟨fun | 243 => 110 | 246 => 121 | 283 => 126 | 284 => 127 | 285 => 128 | 286 => 129 | 129 => 132 | 317 => 131 | 318 => 133 | 319 => 134 | 320 => 135 | 337 => 136 | 338 => 137 | n => n, fun | 3 => 3 | 9 => 9 | 2 => 2 | 4 => 4 | 171 => 118 | 0 => 0 | 53 => 115 | 37 => 70 | 5 => 5 | 173 => 121 | 212 => 126 | 51 => 112 | 20 => 20 | 213 => 127 | 46 => 98 | 232 => 130 | 233 => 131 | n => n, fun | 17 => 0 | 18 => 2 | 19 => 3 | n => n⟩
theorem Tryd.lays243 : Go.Proofs.Lays.n243 Tryd.prog Tryd.lays243_ren := {
  mixed := by kernel_rfl
  f129 := Tryd.func132.trans (congrArg some (by kernel_rfl))
  f243 := Tryd.func110.trans (congrArg some (by kernel_rfl))
  f246 := Tryd.func121.trans (congrArg some (by kernel_rfl))
  f283 := Tryd.func126.trans (congrArg some (by kernel_rfl))
  f284 := Tryd.func127.trans (congrArg some (by kernel_rfl))
  f285 := Tryd.func128.trans (congrArg some (by kernel_rfl))
  f286 := Tryd.func129.trans (congrArg some (by kernel_rfl))
  f317 := Tryd.func131.trans (congrArg some (by kernel_rfl))
  f318 := Tryd.func133.trans (congrArg some (by kernel_rfl))
  f319 := Tryd.func134.trans (congrArg some (by kernel_rfl))
  f320 := Tryd.func135.trans (congrArg some (by kernel_rfl))
  f337 := Tryd.func136.trans (congrArg some (by kernel_rfl))
  f338 := Tryd.func137.trans (congrArg some (by kernel_rfl))
  t0 := Tryd.underlying0
  a0 := Tryd.isAgg0
  z0 := Tryd.sizeOf0
  v0 := Tryd.zeroValue0
  t2 := Tryd.underlying2
  a2 := Tryd.isAgg2
  z2 := Tryd.sizeOf2
  v2 := Tryd.zeroValue2
  t3 := Tryd.underlying3
  a3 := Tryd.isAgg3
  z3 := Tryd.sizeOf3
  v3 := Tryd.zeroValue3
  t4 := Tryd.underlying4
  a4 := Tryd.isAgg4
  z4 := Tryd.sizeOf4
  v4 := Tryd.zeroValue4
  t5 := Tryd.underlying5
  a5 := Tryd.isAgg5
  z5 := Tryd.sizeOf5
  v5 := Tryd.zeroValue5
  t9 := Tryd.underlying9
  a9 := Tryd.isAgg9
  z9 := Tryd.sizeOf9
  v9 := Tryd.zeroValue9
  t20 := Tryd.underlying20
  a20 := Tryd.isAgg20
  z20 := Tryd.sizeOf20
  v20 := Tryd.zeroValue20
  t37 := Tryd.underlying70
  a37 := Tryd.isAgg70
  z37 := Tryd.sizeOf70
  v37 := Tryd.zeroValue70
  t46 := Tryd.underlying98
  a46 := Tryd.isAgg98
  z46 := Tryd.sizeOf98
  v46 := Tryd.zeroValue98
  t51 := Tryd.underlying112
  a51 := Tryd.isAgg112
  z51 := Tryd.sizeOf112
  v51 := Tryd.zeroValue112
  t53 := Tryd.underlying115
  a53 := Tryd.isAgg115
  z53 := Tryd.sizeOf115
  v53 := Tryd.zeroValue115
  t171 := Tryd.underlying118
  a171 := Tryd.isAgg118
  z171 := Tryd.sizeOf118
  v171 := Tryd.zeroValue118
  t173 := Tryd.underlying121
  a173 := Tryd.isAgg121
  z173 := Tryd.sizeOf121
  v173 := Tryd.zeroValue121
  t212 := Tryd.underlying126
  a212 := Tryd.isAgg126
  z212 := Tryd.sizeOf126
  v212 := Tryd.zeroValue126
  t213 := Tryd.underlying127
  a213 := Tryd.isAgg127
  z213 := Tryd.sizeOf127
  t232 := Tryd.underlying130
  a232 := Tryd.isAgg130
  z232 := Tryd.sizeOf130
  v232 := Tryd.zeroValue130
  t233 := Tryd.underlying131
  a233 := Tryd.isAgg131
  z233 := Tryd.sizeOf131
  v233 := Tryd.zeroValue131
  g17 := by kernel_rfl
  g18 := by kernel_rfl
  g19 := by kernel_rfl }
open Go.RowKit Go.Sort Go.Lib in
/-- THE ROAD WITHOUT THE TABLE: 0 <= i < 100. (LAID: no walk: one application.) -/
theorem Tryd.internal_strconv_Itoa_small (i : Nat) (hi : i < 100) (w : World) :
    Calls Tryd.prog 110 #[.int .i64 i] w fun e w' => e = .returned (.string ⟨(Lib.decDigits i).toArray⟩) ∧ w' = w := Any.internal_strconv_Itoa_small Tryd.lays243 i hi w
def Tryd.laysM171_ren : Go.Shelf.Ren := ⟨fun | 171 => 85 | 243 => 110 | 246 => 121 | 283 => 126 | 284 => 127 | 285 => 128 | 286 => 129 | 129 => 132 | 317 => 131 | 318 => 133 | 319 => 134 | 320 => 135 | 337 => 136 | 338 => 137 | n => n, fun | 3 => 3 | 9 => 9 | 2 => 2 | 4 => 4 | 171 => 118 | 0 => 0 | 53 => 115 | 37 => 70 | 5 => 5 | 173 => 121 | 212 => 126 | 51 => 112 | 20 => 20 | 213 => 127 | 46 => 98 | 232 => 130 | 233 => 131 | n => n, fun | 17 => 0 | 18 => 2 | 19 => 3 | n => n⟩
theorem Tryd.laysM171 : Go.Proofs.LaysM.n171 Tryd.prog Tryd.laysM171_ren := {
  mixed := by kernel_rfl
  f129 := Tryd.func132.trans (congrArg some (by kernel_rfl))
  f171 := Tryd.func85.trans (congrArg some (by kernel_rfl))
  f243 := Tryd.func110.trans (congrArg some (by kernel_rfl))
  f246 := Tryd.func121.trans (congrArg some (by kernel_rfl))
  f283 := Tryd.func126.trans (congrArg some (by kernel_rfl))
  f284 := Tryd.func127.trans (congrArg some (by kernel_rfl))
  f285 := Tryd.func128.trans (congrArg some (by kernel_rfl))
  f286 := Tryd.func129.trans (congrArg some (by kernel_rfl))
  f317 := Tryd.func131.trans (congrArg some (by kernel_rfl))
  f318 := Tryd.func133.trans (congrArg some (by kernel_rfl))
  f319 := Tryd.func134.trans (congrArg some (by kernel_rfl))
  f320 := Tryd.func135.trans (congrArg some (by kernel_rfl))
  f337 := Tryd.func136.trans (congrArg some (by kernel_rfl))
  f338 := Tryd.func137.trans (congrArg some (by kernel_rfl))
  t0 := Tryd.underlying0
  a0 := Tryd.isAgg0
  z0 := Tryd.sizeOf0
  v0 := Tryd.zeroValue0
  t2 := Tryd.underlying2
  a2 := Tryd.isAgg2
  z2 := Tryd.sizeOf2
  v2 := Tryd.zeroValue2
  t3 := Tryd.underlying3
  a3 := Tryd.isAgg3
  z3 := Tryd.sizeOf3
  v3 := Tryd.zeroValue3
  t4 := Tryd.underlying4
  a4 := Tryd.isAgg4
  z4 := Tryd.sizeOf4
  v4 := Tryd.zeroValue4
  t5 := Tryd.underlying5
  a5 := Tryd.isAgg5
  z5 := Tryd.sizeOf5
  v5 := Tryd.zeroValue5
  t9 := Tryd.underlying9
  a9 := Tryd.isAgg9
  z9 := Tryd.sizeOf9
  v9 := Tryd.zeroValue9
  t20 := Tryd.underlying20
  a20 := Tryd.isAgg20
  z20 := Tryd.sizeOf20
  v20 := Tryd.zeroValue20
  t37 := Tryd.underlying70
  a37 := Tryd.isAgg70
  z37 := Tryd.sizeOf70
  v37 := Tryd.zeroValue70
  t46 := Tryd.underlying98
  a46 := Tryd.isAgg98
  z46 := Tryd.sizeOf98
  v46 := Tryd.zeroValue98
  t51 := Tryd.underlying112
  a51 := Tryd.isAgg112
  z51 := Tryd.sizeOf112
  v51 := Tryd.zeroValue112
  t53 := Tryd.underlying115
  a53 := Tryd.isAgg115
  z53 := Tryd.sizeOf115
  v53 := Tryd.zeroValue115
  t171 := Tryd.underlying118
  a171 := Tryd.isAgg118
  z171 := Tryd.sizeOf118
  v171 := Tryd.zeroValue118
  t173 := Tryd.underlying121
  a173 := Tryd.isAgg121
  z173 := Tryd.sizeOf121
  v173 := Tryd.zeroValue121
  t212 := Tryd.underlying126
  a212 := Tryd.isAgg126
  z212 := Tryd.sizeOf126
  v212 := Tryd.zeroValue126
  t213 := Tryd.underlying127
  a213 := Tryd.isAgg127
  z213 := Tryd.sizeOf127
  t232 := Tryd.underlying130
  a232 := Tryd.isAgg130
  z232 := Tryd.sizeOf130
  v232 := Tryd.zeroValue130
  t233 := Tryd.underlying131
  a233 := Tryd.isAgg131
  z233 := Tryd.sizeOf131
  v233 := Tryd.zeroValue131
  g17 := by kernel_rfl
  g18 := by kernel_rfl
  g19 := by kernel_rfl
  i0 := by kernel_rfl
  i2 := by kernel_rfl
  i3 := by kernel_rfl
  i4 := by kernel_rfl
  i5 := by kernel_rfl
  i9 := by kernel_rfl
  i20 := by kernel_rfl
  i37 := by kernel_rfl
  i46 := by kernel_rfl
  i51 := by kernel_rfl
  i53 := by kernel_rfl
  i171 := by kernel_rfl
  i173 := by kernel_rfl
  i212 := by kernel_rfl
  i232 := by kernel_rfl
  i233 := by kernel_rfl
  m17 := by kernel_rfl
  m18 := by kernel_rfl
  m19 := by kernel_rfl }
open Go.RowKit Go.Sort Go.Lib in
/-- strconv.Itoa: "Itoa is equivalent to FormatInt(int64(i), 10).": i's DECIMAL NUMERAL ('Lib.itoa': a '-' where i is negative, then the digits), FOR EVERY int. The world behind the call: the world before it, new blocks behind the heap (the library's 'var a [24]byte'), draws. (LAID: no walk: one application.) -/
theorem Tryd.strconv_Itoa (n : Int) (h0 : -9223372036854775808 ≤ n) (h1 : n ≤ 9223372036854775807) (w : World) (htab : Lib.TabIs Tryd.prog w "internal/strconv.uint64pow10" .u64 Lib.pow10Tab) :
    Calls Tryd.prog 85 #[.int .i64 n] w fun e w' => e = .returned (.string ⟨(Lib.itoa n).toArray⟩) ∧ ∃ k os, w' = grow (w.drewN k) os := Any.strconv_Itoa Tryd.laysM171 n h0 h1 w htab
def Tryd.lays171_ren : Go.Shelf.Ren := ⟨fun | 171 => 85 | 243 => 110 | 246 => 121 | 283 => 126 | 284 => 127 | 285 => 128 | 286 => 129 | 129 => 132 | 317 => 131 | 318 => 133 | 319 => 134 | 320 => 135 | 337 => 136 | 338 => 137 | n => n, fun | 3 => 3 | 9 => 9 | 2 => 2 | 4 => 4 | 171 => 118 | 0 => 0 | 53 => 115 | 37 => 70 | 5 => 5 | 173 => 121 | 212 => 126 | 51 => 112 | 20 => 20 | 213 => 127 | 46 => 98 | 232 => 130 | 233 => 131 | n => n, fun | 17 => 0 | 18 => 2 | 19 => 3 | n => n⟩
theorem Tryd.lays171 : Go.Proofs.Lays.n171 Tryd.prog Tryd.lays171_ren := {
  mixed := by kernel_rfl
  f129 := Tryd.func132.trans (congrArg some (by kernel_rfl))
  f171 := Tryd.func85.trans (congrArg some (by kernel_rfl))
  f243 := Tryd.func110.trans (congrArg some (by kernel_rfl))
  f246 := Tryd.func121.trans (congrArg some (by kernel_rfl))
  f283 := Tryd.func126.trans (congrArg some (by kernel_rfl))
  f284 := Tryd.func127.trans (congrArg some (by kernel_rfl))
  f285 := Tryd.func128.trans (congrArg some (by kernel_rfl))
  f286 := Tryd.func129.trans (congrArg some (by kernel_rfl))
  f317 := Tryd.func131.trans (congrArg some (by kernel_rfl))
  f318 := Tryd.func133.trans (congrArg some (by kernel_rfl))
  f319 := Tryd.func134.trans (congrArg some (by kernel_rfl))
  f320 := Tryd.func135.trans (congrArg some (by kernel_rfl))
  f337 := Tryd.func136.trans (congrArg some (by kernel_rfl))
  f338 := Tryd.func137.trans (congrArg some (by kernel_rfl))
  t0 := Tryd.underlying0
  a0 := Tryd.isAgg0
  z0 := Tryd.sizeOf0
  v0 := Tryd.zeroValue0
  t2 := Tryd.underlying2
  a2 := Tryd.isAgg2
  z2 := Tryd.sizeOf2
  v2 := Tryd.zeroValue2
  t3 := Tryd.underlying3
  a3 := Tryd.isAgg3
  z3 := Tryd.sizeOf3
  v3 := Tryd.zeroValue3
  t4 := Tryd.underlying4
  a4 := Tryd.isAgg4
  z4 := Tryd.sizeOf4
  v4 := Tryd.zeroValue4
  t5 := Tryd.underlying5
  a5 := Tryd.isAgg5
  z5 := Tryd.sizeOf5
  v5 := Tryd.zeroValue5
  t9 := Tryd.underlying9
  a9 := Tryd.isAgg9
  z9 := Tryd.sizeOf9
  v9 := Tryd.zeroValue9
  t20 := Tryd.underlying20
  a20 := Tryd.isAgg20
  z20 := Tryd.sizeOf20
  v20 := Tryd.zeroValue20
  t37 := Tryd.underlying70
  a37 := Tryd.isAgg70
  z37 := Tryd.sizeOf70
  v37 := Tryd.zeroValue70
  t46 := Tryd.underlying98
  a46 := Tryd.isAgg98
  z46 := Tryd.sizeOf98
  v46 := Tryd.zeroValue98
  t51 := Tryd.underlying112
  a51 := Tryd.isAgg112
  z51 := Tryd.sizeOf112
  v51 := Tryd.zeroValue112
  t53 := Tryd.underlying115
  a53 := Tryd.isAgg115
  z53 := Tryd.sizeOf115
  v53 := Tryd.zeroValue115
  t171 := Tryd.underlying118
  a171 := Tryd.isAgg118
  z171 := Tryd.sizeOf118
  v171 := Tryd.zeroValue118
  t173 := Tryd.underlying121
  a173 := Tryd.isAgg121
  z173 := Tryd.sizeOf121
  v173 := Tryd.zeroValue121
  t212 := Tryd.underlying126
  a212 := Tryd.isAgg126
  z212 := Tryd.sizeOf126
  v212 := Tryd.zeroValue126
  t213 := Tryd.underlying127
  a213 := Tryd.isAgg127
  z213 := Tryd.sizeOf127
  t232 := Tryd.underlying130
  a232 := Tryd.isAgg130
  z232 := Tryd.sizeOf130
  v232 := Tryd.zeroValue130
  t233 := Tryd.underlying131
  a233 := Tryd.isAgg131
  z233 := Tryd.sizeOf131
  v233 := Tryd.zeroValue131
  g17 := by kernel_rfl
  g18 := by kernel_rfl
  g19 := by kernel_rfl }
open Go.RowKit Go.Sort Go.Lib in
/-- THE ROAD WITHOUT THE TABLE: 0 <= i < 100: NO PREMISE ON THE WORLD, AND THE WORLD IS AS IT WAS: a row that keeps its argument in that range need list no table ('laid = []'). (LAID: no walk: one application.) -/
theorem Tryd.strconv_Itoa_small (i : Nat) (hi : i < 100) (w : World) :
    Calls Tryd.prog 85 #[.int .i64 i] w fun e w' => e = .returned (.string ⟨(Lib.decDigits i).toArray⟩) ∧ w' = w := Any.strconv_Itoa_small Tryd.lays171 i hi w
def Tryd.lays206_ren : Go.Shelf.Ren := ⟨fun | 206 => 124 | n => n, fun | 9 => 9 | 4 => 4 | 3 => 3 | n => n, fun | n => n⟩
theorem Tryd.lays206 : Go.Proofs.Lays.n206 Tryd.prog Tryd.lays206_ren := {
  mixed := by kernel_rfl
  f206 := Tryd.func124.trans (congrArg some (by kernel_rfl))
  t3 := Tryd.underlying3
  a3 := Tryd.isAgg3
  z3 := Tryd.sizeOf3
  v3 := Tryd.zeroValue3
  t4 := Tryd.underlying4
  a4 := Tryd.isAgg4
  z4 := Tryd.sizeOf4
  v4 := Tryd.zeroValue4
  t9 := Tryd.underlying9
  a9 := Tryd.isAgg9
  z9 := Tryd.sizeOf9
  v9 := Tryd.zeroValue9 }
open Go.RowKit Go.Lib in
/-- internal/stringslite.HasPrefix (what strings.HasPrefix calls). (LAID: no walk: one application.) -/
theorem Tryd.stringslite_HasPrefix (s p : ByteArray) (w : World) :
    Calls Tryd.prog 124 #[.string s, .string p] w fun e w' => e = .returned (.bool (Lib.hasPrefix s.data.toList p.data.toList)) ∧ w' = w := Any.stringslite_HasPrefix Tryd.lays206 s p w
def Tryd.lays99_ren : Go.Shelf.Ren := ⟨fun | 99 => 112 | 206 => 124 | n => n, fun | 9 => 9 | 4 => 4 | 3 => 3 | n => n, fun | n => n⟩
theorem Tryd.lays99 : Go.Proofs.Lays.n99 Tryd.prog Tryd.lays99_ren := {
  mixed := by kernel_rfl
  f99 := Tryd.func112.trans (congrArg some (by kernel_rfl))
  f206 := Tryd.func124.trans (congrArg some (by kernel_rfl))
  t3 := Tryd.underlying3
  a3 := Tryd.isAgg3
  z3 := Tryd.sizeOf3
  v3 := Tryd.zeroValue3
  t4 := Tryd.underlying4
  a4 := Tryd.isAgg4
  z4 := Tryd.sizeOf4
  v4 := Tryd.zeroValue4
  t9 := Tryd.underlying9
  a9 := Tryd.isAgg9
  z9 := Tryd.sizeOf9
  v9 := Tryd.zeroValue9 }
open Go.RowKit Go.Lib in
/-- strings.HasPrefix: "HasPrefix reports whether the string s begins with prefix.": IT RETURNS 'Lib.hasPrefix s prefix'; the world is as it was. (LAID: no walk: one application.) -/
theorem Tryd.strings_HasPrefix (s p : ByteArray) (w : World) :
    Calls Tryd.prog 112 #[.string s, .string p] w fun e w' => e = .returned (.bool (Lib.hasPrefix s.data.toList p.data.toList)) ∧ w' = w := Any.strings_HasPrefix Tryd.lays99 s p w
def Tryd.lays264_ren : Go.Shelf.Ren := ⟨fun | 264 => 123 | n => n, fun | 53 => 115 | 46 => 98 | n => n, fun | n => n⟩
theorem Tryd.lays264 : Go.Proofs.Lays.n264 Tryd.prog Tryd.lays264_ren := {
  mixed := by kernel_rfl
  f264 := Tryd.func123.trans (congrArg some (by kernel_rfl))
  t46 := Tryd.underlying98
  a46 := Tryd.isAgg98
  z46 := Tryd.sizeOf98
  v46 := Tryd.zeroValue98
  t53 := Tryd.underlying115
  a53 := Tryd.isAgg115
  z53 := Tryd.sizeOf115
  v53 := Tryd.zeroValue115 }
open Go.RowKit Go.Lib in
theorem Tryd.bits_Mul64 (x y : Nat) (hx : x < 18446744073709551616) (hy : y < 18446744073709551616) (w : World) :
    Calls Tryd.prog 123 #[.int .u64 x, .int .u64 y] w fun e w' => e = .returned (.tuple #[.int .u64 ((x * y / 18446744073709551616 : Nat) : Int), .int .u64 ((x * y % 18446744073709551616 : Nat) : Int)]) ∧ w' = w := Any.bits_Mul64 Tryd.lays264 x y hx hy w
def Tryd.lays212_ren : Go.Shelf.Ren := ⟨fun | 212 => 111 | 263 => 122 | 264 => 123 | n => n, fun | 46 => 98 | 51 => 112 | 146 => 113 | 53 => 115 | 148 => 116 | n => n, fun | n => n⟩
theorem Tryd.lays212 : Go.Proofs.Lays.n212 Tryd.prog Tryd.lays212_ren := {
  mixed := by kernel_rfl
  f212 := Tryd.func111.trans (congrArg some (by kernel_rfl))
  f263 := Tryd.func122.trans (congrArg some (by kernel_rfl))
  f264 := Tryd.func123.trans (congrArg some (by kernel_rfl))
  t46 := Tryd.underlying98
  a46 := Tryd.isAgg98
  z46 := Tryd.sizeOf98
  v46 := Tryd.zeroValue98
  t51 := Tryd.underlying112
  a51 := Tryd.isAgg112
  z51 := Tryd.sizeOf112
  v51 := Tryd.zeroValue112
  t53 := Tryd.underlying115
  a53 := Tryd.isAgg115
  z53 := Tryd.sizeOf115
  v53 := Tryd.zeroValue115
  t146 := Tryd.underlying113
  a146 := Tryd.isAgg113
  z146 := Tryd.sizeOf113
  v146 := Tryd.zeroValue113
  t148 := Tryd.underlying116
  a148 := Tryd.isAgg116
  z148 := Tryd.sizeOf116
  v148 := Tryd.zeroValue116 }
open Go.RowKit Go.Lib in
/-- math/bits.Mul: "Mul returns the full-width product of x and y": on a machine of 64 bits: Mul64's. (LAID: no walk: one application.) -/
theorem Tryd.bits_Mul (x y : Nat) (hx : x < 18446744073709551616) (hy : y < 18446744073709551616) (w : World) :
    Calls Tryd.prog 111 #[.int .u64 x, .int .u64 y] w fun e w' => e = .returned (.tuple #[.int .u64 ((x * y / 18446744073709551616 : Nat) : Int), .int .u64 ((x * y % 18446744073709551616 : Nat) : Int)]) ∧ w' = w := Any.bits_Mul Tryd.lays212 x y hx hy w
def Tryd.lays105_ren : Go.Shelf.Ren := ⟨fun | 105 => 86 | 212 => 111 | 99 => 112 | 165 => 113 | 166 => 84 | 170 => 114 | 169 => 87 | 263 => 122 | 264 => 123 | 206 => 124 | 240 => 109 | 241 => 125 | 276 => 120 | 277 => 130 | n => n, fun | 9 => 9 | 3 => 3 | 4 => 4 | 20 => 20 | 0 => 0 | 46 => 98 | 109 => 99 | 5 => 5 | 72 => 72 | 76 => 75 | 51 => 112 | 146 => 113 | 53 => 115 | 148 => 116 | 70 => 69 | 37 => 70 | 75 => 74 | 127 => 104 | 164 => 109 | 80 => 79 | n => n, fun | n => n⟩
theorem Tryd.lays105 : Go.Proofs.Lays.n105 Tryd.prog Tryd.lays105_ren := {
  mixed := by kernel_rfl
  f99 := Tryd.func112.trans (congrArg some (by kernel_rfl))
  f105 := Tryd.func86.trans (congrArg some (by kernel_rfl))
  f165 := Tryd.func113.trans (congrArg some (by kernel_rfl))
  f166 := Tryd.func84.trans (congrArg some (by kernel_rfl))
  f169 := Tryd.func87.trans (congrArg some (by kernel_rfl))
  f170 := Tryd.func114.trans (congrArg some (by kernel_rfl))
  f206 := Tryd.func124.trans (congrArg some (by kernel_rfl))
  f212 := Tryd.func111.trans (congrArg some (by kernel_rfl))
  f240 := Tryd.func109.trans (congrArg some (by kernel_rfl))
  f241 := Tryd.func125.trans (congrArg some (by kernel_rfl))
  f263 := Tryd.func122.trans (congrArg some (by kernel_rfl))
  f264 := Tryd.func123.trans (congrArg some (by kernel_rfl))
  f276 := Tryd.func120.trans (congrArg some (by kernel_rfl))
  f277 := Tryd.func130.trans (congrArg some (by kernel_rfl))
  t0 := Tryd.underlying0
  a0 := Tryd.isAgg0
  z0 := Tryd.sizeOf0
  v0 := Tryd.zeroValue0
  t3 := Tryd.underlying3
  a3 := Tryd.isAgg3
  z3 := Tryd.sizeOf3
  v3 := Tryd.zeroValue3
  t4 := Tryd.underlying4
  a4 := Tryd.isAgg4
  z4 := Tryd.sizeOf4
  v4 := Tryd.zeroValue4
  t5 := Tryd.underlying5
  a5 := Tryd.isAgg5
  z5 := Tryd.sizeOf5
  v5 := Tryd.zeroValue5
  t9 := Tryd.underlying9
  a9 := Tryd.isAgg9
  z9 := Tryd.sizeOf9
  v9 := Tryd.zeroValue9
  t20 := Tryd.underlying20
  a20 := Tryd.isAgg20
  z20 := Tryd.sizeOf20
  v20 := Tryd.zeroValue20
  t37 := Tryd.underlying70
  a37 := Tryd.isAgg70
  z37 := Tryd.sizeOf70
  v37 := Tryd.zeroValue70
  t46 := Tryd.underlying98
  a46 := Tryd.isAgg98
  z46 := Tryd.sizeOf98
  v46 := Tryd.zeroValue98
  t51 := Tryd.underlying112
  a51 := Tryd.isAgg112
  z51 := Tryd.sizeOf112
  v51 := Tryd.zeroValue112
  t53 := Tryd.underlying115
  a53 := Tryd.isAgg115
  z53 := Tryd.sizeOf115
  v53 := Tryd.zeroValue115
  t70 := Tryd.underlying69
  a70 := Tryd.isAgg69
  z70 := Tryd.sizeOf69
  v70 := Tryd.zeroValue69
  t72 := Tryd.underlying72
  a72 := Tryd.isAgg72
  z72 := Tryd.sizeOf72
  v72 := Tryd.zeroValue72
  t75 := Tryd.underlying74
  a75 := Tryd.isAgg74
  z75 := Tryd.sizeOf74
  v75 := Tryd.zeroValue74
  t76 := Tryd.underlying75
  a76 := Tryd.isAgg75
  z76 := Tryd.sizeOf75
  v76 := Tryd.zeroValue75
  t109 := Tryd.underlying99
  a109 := Tryd.isAgg99
  z109 := Tryd.sizeOf99
  v109 := Tryd.zeroValue99
  t127 := Tryd.underlying104
  a127 := Tryd.isAgg104
  z127 := Tryd.sizeOf104
  v127 := Tryd.zeroValue104
  t146 := Tryd.underlying113
  a146 := Tryd.isAgg113
  z146 := Tryd.sizeOf113
  v146 := Tryd.zeroValue113
  t148 := Tryd.underlying116
  a148 := Tryd.isAgg116
  z148 := Tryd.sizeOf116
  v148 := Tryd.zeroValue116
  t164 := Tryd.underlying109
  a164 := Tryd.isAgg109
  z164 := Tryd.sizeOf109
  v164 := Tryd.zeroValue109 }
theorem Tryd.Builder_Extra_105 : Builder.Extra Tryd.prog Tryd.lays105_ren := {
  sizeBuilder := by kernel_rfl
  liesBuilder := by kernel_rfl
  t5 := Tryd.underlying5
  a5 := Tryd.isAgg5
  z5 := Tryd.sizeOf5
  v5 := Tryd.zeroValue5
  infoByte := by kernel_rfl
  cellsByte := by kernel_rfl
  sizeByte := by kernel_rfl
  neB5 := by decide }
open Go.RowKit Go.Lib in
/-- THE MAIN CASE: at least two copies of a string that is not empty. (LAID: no walk: one application.) -/
theorem Tryd.strings_Repeat_main (s : ByteArray) (c : Nat) (w : World) (hc2 : 2 ≤ c) (hc : c ≤ 9223372036854775807) (hlen : s.size * c ≤ 140737488355328) (h0 : 0 < s.size) :
    Calls Tryd.prog 86 #[.string s, .int .i64 c] w fun e w' => e = .returned (.string ⟨(Lib.repeatL s.data.toList c).toArray⟩) ∧ Below w.heap.size w w' := Any.strings_Repeat_main Tryd.lays105 Tryd.Builder_Extra_105 s c w hc2 hc hlen h0
open Go.RowKit Go.Lib in
theorem Tryd.strings_Repeat_zero (s : ByteArray) (w : World) :
    Calls Tryd.prog 86 #[.string s, .int .i64 0] w fun e w' => e = .returned (.string ⟨#[]⟩) ∧ w' = w := Any.strings_Repeat_zero Tryd.lays105 s w
open Go.RowKit Go.Lib in
theorem Tryd.strings_Repeat_one (s : ByteArray) (w : World) :
    Calls Tryd.prog 86 #[.string s, .int .i64 1] w fun e w' => e = .returned (.string s) ∧ w' = w := Any.strings_Repeat_one Tryd.lays105 s w
open Go.RowKit Go.Lib in
/-- Copies of the empty string. (LAID: no walk: one application.) -/
theorem Tryd.strings_Repeat_empty (s : ByteArray) (c : Nat) (w : World) (hc2 : 2 ≤ c) (hc : c ≤ 9223372036854775807) (h0 : s.size = 0) :
    Calls Tryd.prog 86 #[.string s, .int .i64 c] w fun e w' => e = .returned (.string ⟨#[]⟩) ∧ w' = w := Any.strings_Repeat_empty Tryd.lays105 s c w hc2 hc h0
open Go.RowKit Go.Lib in
/-- count < 0: "It panics if count is negative". (LAID: no walk: one application.) -/
theorem Tryd.strings_Repeat_negative (s : ByteArray) (c : Int) (w : World) (hc : c < 0) :
    Calls Tryd.prog 86 #[.string s, .int .i64 c] w fun e w' => e = .panicked [{ v := repeatPanic Tryd.lays105_ren "strings: negative Repeat count", recovered := false }] ∧ w' = w := Any.strings_Repeat_negative Tryd.lays105 s c w hc
open Go.RowKit Go.Lib in
/-- len(s) * count is no int: ".. or if the result of (len(s) * count) overflows". (LAID: no walk: one application.) -/
theorem Tryd.strings_Repeat_overflow (s : ByteArray) (c : Nat) (w : World) (hc : c ≤ 9223372036854775807) (hs : s.size ≤ 9223372036854775807) (hbig : 9223372036854775807 < s.size * c) :
    Calls Tryd.prog 86 #[.string s, .int .i64 c] w fun e w' => e = .panicked [{ v := repeatPanic Tryd.lays105_ren "strings: Repeat output length overflow", recovered := false }] ∧ w' = w := Any.strings_Repeat_overflow Tryd.lays105 s c w hc hs hbig
open Go.RowKit Go.Lib in
/-- **strings.Repeat: count ≥ 0, the result within one allocation: count copies of s.** (LAID: no walk: one application.) -/
theorem Tryd.strings_Repeat (s : ByteArray) (c : Nat) (w : World) (hc : c ≤ 9223372036854775807) (hlen : s.size * c ≤ 140737488355328) :
    Calls Tryd.prog 86 #[.string s, .int .i64 c] w fun e w' => e = .returned (.string ⟨(Lib.repeatL s.data.toList c).toArray⟩) ∧ Below w.heap.size w w' := Any.strings_Repeat Tryd.lays105 Tryd.Builder_Extra_105 s c w hc hlen
end Go.Proofs
namespace Go.Proofs.YtalklhbdpmggjaaDoor.Pw
open Go.RowKit hiding wrap64
open Go Wd Px Mat
set_option linter.unusedVariables false
set_option linter.unusedSimpArgs false
def bytes (l : List UInt8) : PV := .v (.string ⟨l.toArray⟩)
theorem slice_cells {F : Nat → Prop} {W : World} {l : List Int} {v : Value} (h : RepP F W (N l) v) (hl : l ≠ []) : ∃ B o cap, v = .slice (some ⟨B, o, none⟩) l.length cap ∧ B < W.heap.size ∧ ∀ (j : Nat) (hj : j < l.length), W.cell? ⟨B, o + j, none⟩ = some (.int .i64 l[j]) := by
  obtain ⟨a, cap, rfl, hcap, hh⟩ := h.lst_inv
  rcases hh with ⟨h0, _⟩ | ⟨B, o, rfl, hB, hM, g, h1, h2, h3⟩
  · exact absurd (List.eq_nil_of_length_eq_zero (by simpa using h0)) hl
  · refine ⟨B, o, cap, rfl, hB, fun j hj => ?_⟩
    have h4 := h1 j (by simpa using hj)
    have h5 := h3 j (I l[j]) (by simp [hj])
    have h6 : g j = .int .i64 l[j] := by generalize g j = y at h5; cases h5; rfl
    rw [h4, h6]
theorem Lib.BuilderAt.below' {T e : TypeId} {B b : Nat} {p : Value} {bs : List Value} {W W' : World} (h : Lib.BuilderAt T e B b p bs W) (hb : Below W.heap.size W W') : Lib.BuilderAt T e B b p bs W' := by
  have hlt := h.lt
  obtain ⟨hB, v, hv, hown, hne⟩ := h
  exact ⟨hB, v, (hb.block b hlt).trans hv, hown.kept (row := none) ⟨hb.os, hb.tape, hb.output, hb.size, fun k hk _ => hb.block k hk⟩ (Classical.em _), hne⟩
theorem RepP.pair {M : Nat → Prop} {W : World} {a b : PV} {x y : Value} (h : RepP M W a x) (k : RepP M W b y) : RepP M W (.tup [a, b]) (.tuple #[x, y]) :=
  .tup [a, b] [x, y] rfl fun j a' v' ha hv => by
    match j with
    | 0 => cases ha; cases hv; exact h
    | 1 => cases ha; cases hv; exact k
    | j + 2 => simp at ha
theorem dig_len (d : Nat) (h : d < 100) : (Lib.decDigits d).length ≤ 2 := by
  rw [Lib.decDigits]; split
  · simp
  · rw [Lib.decDigits, dif_pos (by omega)]; simp
theorem ok_one : ∀ (d : Nat), 0 < d → d < 100 → okN [(d : Int)] = true := by
  have h : ∀ d < 100, 0 < d → okN [((d : Nat) : Int)] = true := by decide
  exact fun d h0 h1 => h d h1 h0
theorem dig3 : Lib.decDigits 3 = [51] := by rw [Lib.decDigits]; rfl
theorem dig21 : Lib.decDigits 21 = [50, 49] := by rw [Lib.decDigits]; simp; rw [Lib.decDigits]; rfl
theorem rep7 : Lib.repeatL [48] 7 = [48, 48, 48, 48, 48, 48, 48] := by rfl
set_option maxHeartbeats 4000000 in
set_option maxRecDepth 100000 in
theorem text_two : Sound Tryd.prog 30 [N [21, 3]] (.tup [bytes [51, 48, 48, 48, 48, 48, 48, 48, 50, 49], I 0]) := by
  refine ⟨Entered.of Tryd.func30 rfl rfl, fun F W vs hF hG hl hv => ?_⟩
  obtain ⟨v, rfl⟩ : ∃ v, vs = [v] := by
    match vs, hl with
    | [v], _ => exact ⟨v, rfl⟩
  have hr := hv 0 (N [21, 3]) v rfl rfl
  obtain ⟨Bk, o, cap, rfl, hB, hc⟩ := slice_cells hr (by simp)
  have k0 : W.cell? ⟨Bk, o, none⟩ = some (.int .i64 21) := hc 0 (by simp)
  have k1 : W.cell? ⟨Bk, o + 1, none⟩ = some (.int .i64 3) := hc 1 (by simp)
  have cV := (nat_Valid.c [21, 3]).2 F W [.slice (some ⟨Bk, o, none⟩) 2 cap] hF hG rfl hv
  rw [show okN [21, 3] = true by decide] at cV
  go_enter Tryd.func30, Tryd.ntmps30
  go_wp2_with (go_at_call 29; refine cV.mono ?_)
  rintro e w1 ⟨u, rfl, hu, hb1⟩
  obtain rfl : u = .bool true := by cases hu; rfl
  have a0 : w1.cell? ⟨Bk, o, none⟩ = some (.int .i64 21) := (hb1.cell (p := ⟨Bk, o, none⟩) hB).trans k0
  have a1 : w1.cell? ⟨Bk, o + 1, none⟩ = some (.int .i64 3) := (hb1.cell (p := ⟨Bk, o + 1, none⟩) hB).trans k1
  have g1 : (w1.alloc (Obj.cells #[.pointer none, .slice none 0 0] 72)).cell? ⟨Bk, o + 1, none⟩ = some (.int .i64 3) := by
    rw [Below.cell (p := ⟨Bk, o + 1, none⟩) ((hb1.alloc (by have := hb1.size; omega) _)) hB]; exact k1
  go_wp2_with (go_at_call 85; refine (Tryd.strconv_Itoa_small 3 (by decide) _).mono ?_)
  rw [dig3]
  rintro e w2 ⟨rfl, rfl⟩
  have hb2 := hb1.alloc (by have := hb1.size; omega) (Obj.cells #[.pointer none, .slice none 0 0] 72)
  generalize hw2 : w1.alloc (Obj.cells #[.pointer none, .slice none 0 0] 72) = w2 at *
  have hB2 : Lib.IsBuilder 72 5 W.heap.size w1.heap.size [] w2 := by
    refine .inl ⟨hb1.size, .slice none 0 0, ?_, ?_, by simp [Value.ownBlock]⟩
    · rw [← hw2]
      exact Array.getElem?_push_size
    · exact ⟨rfl, .inl ⟨rfl, rfl⟩⟩
  go_wp2_with (go_at_call 84; refine (Sb.writeString W.heap.size w1.heap.size [] _ _ hB2 (by decide) hb2.size).mono ?_)
  rintro e w3 ⟨rfl, hB3, hb3⟩
  have z0 : w3.cell? ⟨Bk, o, none⟩ = some (.int .i64 21) := (hb3.cell (p := ⟨Bk, o, none⟩) hB).trans ((hb2.cell (p := ⟨Bk, o, none⟩) hB).trans k0)
  go_wp2_with (refine LW.wp (LW.unroll ?_))
  go_wp2_with (go_at_call 85; refine (Tryd.strconv_Itoa_small 21 (by decide) _).mono ?_)
  rw [dig21]
  rintro e w3 ⟨rfl, rfl⟩
  go_wp2_with (go_at_call 86; refine (Tryd.strings_Repeat_main ⟨#[48]⟩ 7 _ (by decide) (by decide) (by decide) (by decide)).mono ?_)
  rw [rep7]
  rintro e w4 rfl hb4
  have hB4 := Lib.BuilderAt.below' hB3 hb4
  have hbW3 : Below W.heap.size W w3 := hb2.trans hb3
  have hbW4 : Below W.heap.size W w4 := hbW3.trans (hb4.mono hbW3.size)
  go_wp2_with (go_at_call 84; refine (Sb.writeString W.heap.size w1.heap.size _ _ _ (.inr hB4) (by decide) hbW4.size).mono ?_)
  rintro e w5 ⟨rfl, hB5, hb5⟩
  go_wp2_with (go_at_call 84; refine (Sb.writeString W.heap.size w1.heap.size _ _ _ (.inr hB5) (by decide) (Nat.le_trans hbW4.size hb5.size)).mono ?_)
  rintro e w6 ⟨rfl, hB6, hb6⟩
  have hbW6 : Below W.heap.size W w6 := (hbW4.trans hb5).trans hb6
  go_wp2_with (refine LW.unroll ?_)
  go_wp2_with (go_at_call 87; refine (Tryd.Builder_String_any W.heap.size w1.heap.size [51, 48, 48, 48, 48, 48, 48, 48, 50, 49] _ (.inr hB6) hbW6.size).mono ?_)
  rintro e w7 ⟨rfl, hb7⟩
  go_wp2
  go_ret2
  exact ⟨_, rfl, RepP.pair (RepP.v _ rfl) (RepP.v _ rfl), hbW6.trans (hb7.mono (Nat.le_refl _))⟩
set_option maxHeartbeats 4000000 in
set_option maxRecDepth 100000 in
theorem text_one (d : Nat) (h0 : 0 < d) (hd : d < 100) : Sound Tryd.prog 30 [N [(d : Int)]] (.tup [bytes (Lib.decDigits d), I 0]) := by
  refine ⟨Entered.of Tryd.func30 rfl rfl, fun F W vs hF hG hl hv => ?_⟩
  obtain ⟨v, rfl⟩ : ∃ v, vs = [v] := by
    match vs, hl with
    | [v], _ => exact ⟨v, rfl⟩
  have hr := hv 0 (N [(d : Int)]) v rfl rfl
  obtain ⟨Bk, o, cap, rfl, hB, hc⟩ := slice_cells hr (by simp)
  have k0 : W.cell? ⟨Bk, o, none⟩ = some (.int .i64 (d : Int)) := hc 0 (by simp)
  have cV := (nat_Valid.c [(d : Int)]).2 F W [.slice (some ⟨Bk, o, none⟩) 1 cap] hF hG rfl hv
  rw [show okN [(d : Int)] = true from ok_one d h0 hd] at cV
  go_enter Tryd.func30, Tryd.ntmps30
  go_wp2_with (go_at_call 29; refine cV.mono ?_)
  rintro e w1 ⟨u, rfl, hu, hb1⟩
  obtain rfl : u = .bool true := by cases hu; rfl
  have g1 : (w1.alloc (Obj.cells #[.pointer none, .slice none 0 0] 72)).cell? ⟨Bk, o, none⟩ = some (.int .i64 (d : Int)) := by
    rw [Below.cell (p := ⟨Bk, o, none⟩) ((hb1.alloc (by have := hb1.size; omega) _)) hB]; exact k0
  go_wp2_with (go_at_call 85; refine (Tryd.strconv_Itoa_small d hd _).mono ?_)
  rintro e w2 ⟨rfl, rfl⟩
  have hb2 := hb1.alloc (by have := hb1.size; omega) (Obj.cells #[.pointer none, .slice none 0 0] 72)
  generalize hw2 : w1.alloc (Obj.cells #[.pointer none, .slice none 0 0] 72) = w2 at *
  have hB2 : Lib.IsBuilder 72 5 W.heap.size w1.heap.size [] w2 := by
    refine .inl ⟨hb1.size, .slice none 0 0, ?_, ?_, by simp [Value.ownBlock]⟩
    · rw [← hw2]
      exact Array.getElem?_push_size
    · exact ⟨rfl, .inl ⟨rfl, rfl⟩⟩
  have hlen : ([] : List Value).length + (ByteArray.mk (Lib.decDigits d).toArray).size ≤ 140737488355328 := by
    have := dig_len d hd
    simp only [List.length_nil, ByteArray.size, List.size_toArray]
    omega
  go_wp2_with (go_at_call 84; refine (Sb.writeString W.heap.size w1.heap.size [] _ _ hB2 hlen hb2.size).mono ?_)
  rintro e w3 ⟨rfl, hB3, hb3⟩
  have hB3' : Lib.BuilderAt 72 5 W.heap.size w1.heap.size (.pointer (some ⟨w1.heap.size, 0, none⟩)) (Lib.byteCells (Lib.decDigits d)) w3 := by
    simpa [Lib.strCells, Lib.byteCells] using hB3
  go_wp2_with (refine LW.wp (LW.unroll ?_))
  go_wp2_with (go_at_call 87; refine (Tryd.Builder_String_any W.heap.size w1.heap.size (Lib.decDigits d) _ (.inr hB3') (hb2.trans hb3).size).mono ?_)
  rintro e w7 ⟨rfl, hb7⟩
  go_wp2
  go_ret2
  exact ⟨_, rfl, RepP.pair (RepP.v _ rfl) (RepP.v _ rfl), (hb2.trans hb3).trans hb7⟩
end Go.Proofs.YtalklhbdpmggjaaDoor.Pw
namespace Go.Proofs.YtalklhbdpmggjaaDoor.Pw
open Go Go.RowKit
set_option maxHeartbeats 4000000
/-- Less than, so that the kernel sees it at lengths that are not told. -/
def ltI : Int → Int → Bool
  | .ofNat a, .ofNat b => Nat.ble (a + 1) b
  | .negSucc _, .ofNat _ => true
  | .ofNat _, .negSucc _ => false
  | .negSucc a, .negSucc b => Nat.ble (b + 1) a
theorem ltI_eq (a b : Int) : ltI a b = decide (a < b) := by
  rw [Bool.eq_iff_iff, decide_eq_true_eq]
  cases a <;> cases b <;> simp only [ltI, Nat.ble_eq, Int.ofNat_eq_natCast, Int.negSucc_eq, Bool.false_eq_true, true_iff, false_iff] <;> omega
theorem leI_eq (a b : Int) : (!ltI b a) = decide (a ≤ b) := by rw [ltI_eq, Bool.eq_iff_iff]; simp
def binB (op : BinOp) (k : IntKind) (a b : Int) : Option (Value × Bool) :=
  match op with
  | .add => some (.int k (k.wrap (a + b)), true)
  | .sub => some (.int k (k.wrap (a - b)), true)
  | .mul => some (.int k (k.wrap (a * b)), true)
  | .quo => some (.int k (k.wrap (a.tdiv b)), decide (b ≠ 0))
  | .rem => some (.int k (a.tmod b), decide (b ≠ 0))
  | .eql => some (.bool (decide (a = b)), true)
  | .neq => some (.bool (!decide (a = b)), true)
  | .lss => some (.bool (ltI a b), true)
  | .leq => some (.bool (!ltI b a), true)
  | .gtr => some (.bool (ltI b a), true)
  | .geq => some (.bool (!ltI a b), true)
  | _ => none
theorem ba_loop (a : ByteArray) : ∀ (k i : Nat) (r : List UInt8), a.size - i = k → ByteArray.toList.loop a i r = r.reverse ++ a.data.toList.drop i
  | 0, i, r, h => by
    rw [ByteArray.toList.loop, if_neg (by omega)]
    have : a.data.toList.length ≤ i := by
      have : a.data.toList.length = a.size := rfl
      omega
    rw [List.drop_eq_nil_of_le this, List.append_nil]
  | k + 1, i, r, h => by
    have hi : i < a.data.toList.length := by
      have : a.data.toList.length = a.size := rfl
      omega
    rw [ByteArray.toList.loop, if_pos (by omega), ba_loop a k (i + 1) _ (by omega), List.drop_eq_getElem_cons hi]
    have hg : a.get! i = a.data.toList[i] := by
      cases a with | mk d =>
      simp [ByteArray.get!]
      exact getElem!_pos d i (by simpa using hi)
    rw [hg, List.reverse_cons, List.append_assoc]
    rfl
theorem ba_toList (a : ByteArray) : a.toList = a.data.toList := by
  rw [ByteArray.toList, ba_loop a _ 0 [] rfl]; rfl
def strB (op : BinOp) (a b : ByteArray) : Option (Value × Bool) :=
  match op with
  | .add => some (.string (a ++ b), decide (((a.size + b.size : Nat) : Int) ≤ 9223372036854775807))
  | .eql => some (.bool (a.data.toList == b.data.toList), true)
  | .neq => some (.bool (!(a.data.toList == b.data.toList)), true)
  | _ => none
def pure1B (x : AV) : Option (Eff × Bool) := some (⟨x, [], []⟩, true)
def sliceB (zs : Nat) (x : AV) (lo hi : Option AV) : Option (Eff × Bool) :=
  match (match hi with | none => (lenA x) | some h => (ints h).map (fun q => q.2) : Option Int) with
  | none => none
  | some h =>
    match lo, x with
    | none, .sl b o n k => if k == zs then some (⟨.sl b o h.toNat k, [], []⟩, decide (0 ≤ h ∧ h ≤ n)) else none
    | some l, .sl b o n k => if k == zs then (ints l).bind fun l => some (⟨.sl b (o + l.2.toNat * k) (h - l.2).toNat k, [], []⟩, decide (0 ≤ l.2 ∧ l.2 < h ∧ h ≤ n)) else none
    | none, .p (.lst n cs) => some (⟨.p (.lst h.toNat (cs.take (h.toNat * zs))), [], []⟩, decide (0 ≤ h ∧ h ≤ n))
    | some l, .p (.lst n cs) => (ints l).bind fun l => some (⟨.p (.lst (h - l.2).toNat ((cs.drop (l.2.toNat * zs)).take ((h - l.2).toNat * zs))), [], []⟩, decide (0 ≤ l.2 ∧ l.2 ≤ h ∧ h ≤ n))
    | _, _ => none
def popB (T : Tab) (op : Op) (ρ : Operand → AV) (σ : Store) (new : Nat) : Option (Eff × Bool) :=
  match op with
  | .move x | .assign x => pure1B (ρ x)
  | .pick c a b =>
    match ρ c with
    | .p (.v (.bool t)) =>
      match ρ a, ρ b with
      | .p (.v (.bool x)), .p (.v (.bool y)) => pure1B (.p (.v (.bool (bif t then x else y))))
      | x, y => pure1B (bif t then x else y)
    | _ => none
  | .alloc e => (T e).bind fun y => some (⟨.own new 0, [(new, some (.pc e (y.zero.map .v)))], []⟩, true)
  | .box e x => if (ρ x).solid then some (⟨.own new 0, [(new, some (.mk e (ρ x).cells))], []⟩, true) else none
  | .build t parts => (T t).bind fun y => if y.agg && y.elem.isNone && !y.fields.isEmpty then
      (fillA (fun i => y.fields[i]?) (y.zero.map fun z => .p (.v z)) (parts.toList.map fun x => (x.1, ρ x.2))).bind fun cs => pure1B (cells1 cs) else none
  | .buildSlice t n parts => (T t).bind fun y => y.elem.bind fun e => (T e).bind fun z => if Nat.ble (n * z.size) 16777216 && Nat.ble n 16777216 && !(z.size == 0) then
      (fillA (fun i => some (i * z.size, z.size)) ((rep n (z.zero.map .v)).map .p) (parts.toList.map fun x => (x.1, ρ x.2))).bind fun cs => some (⟨.sl new 0 n z.size, [(new, some (.mk e cs))], []⟩, true) else none
  | .load t a => (T t).bind fun y => if y.size == 0 then none else
    match ρ a with
    | .own b o => (σ b).bind fun k => some (⟨cellsTo y.agg y.size o k, [], [b]⟩, decide (o + y.size ≤ k.cells.length ∧ (y.agg = false → y.size = 1)))
    | .p (.pt cs o) => some (⟨cellsTo y.agg y.size o (.pc 0 cs), [], []⟩, decide (o + y.size ≤ cs.length ∧ (y.agg = false → y.size = 1)))
    | _ => none
  | .store t a x => (T t).bind fun y => if (ρ x).solid && (ρ x).cells.length == y.size then
    match ρ a with
    | .own b o => (σ b).bind fun k => some (⟨.any, [(b, some (putIn o (ρ x).cells k))], [b]⟩, decide (o + y.size ≤ k.cells.length))
    | _ => none else none
  | .nilCheck x => match ρ x with | .own b o => pure1B (.own b o) | .p (.pt cs o) => pure1B (.p (.pt cs o)) | .fn f c => pure1B (.fn f c) | _ => none
  | .binOp op t x y _ =>
    match ρ x, ρ y with
    | .p (.v (.int k a)), .p (.v (.int k' b)) => if k = k' then (binB op k a b).bind fun r => some (⟨.p (.v r.1), [], []⟩, r.2) else none
    | .p (.v (.bool a)), .p (.v (.bool b)) => (T t).bind fun z => if z.bool then match op with | .eql => pure1B (.p (.v (.bool (a == b)))) | .neq => pure1B (.p (.v (.bool (!(a == b))))) | _ => none else none
    | .p (.v (.string a)), .p (.v (.string b)) => (strB op a b).bind fun r => some (⟨.p (.v r.1), [], []⟩, r.2)
    | _, _ => none
  | .unOp op _ x =>
    match op, ρ x with
    | .neg, .p (.v (.int k n)) => pure1B (.p (.v (.int k (k.wrap (0 - n)))))
    | .not, .p (.v (.bool b)) => pure1B (.p (.v (.bool !b)))
    | _, _ => none
  | .convert src dst x => (T src).bind fun y => (T dst).bind fun z =>
    match z.int, ρ x with
    | some k, .p (.v (.int _ n)) => pure1B (.p (.v (.int k (k.wrap n))))
    | _, _ => none
  | .makeFunc (.func f) first caps => if first.size == 0 then pure1B (.fn f (caps.toList.map ρ)) else none
  | .makeSlice t l c => (T t).bind fun y => y.elem.bind fun e => (T e).bind fun z => if z.size == 0 then none else
    match ρ l, ρ c with
    | .p (.v (.int _ n)), .p (.v (.int _ m)) => some (⟨.sl new 0 n.toNat z.size, [(new, some (.pc e (rep n.toNat (z.zero.map .v))))], []⟩, decide (n = m ∧ 0 ≤ n ∧ (z.bytes : Int) * n ≤ 281474976710656 ∧ n ≤ 9223372036854775807))
    | _, _ => none
  | .slice t x lo hi none => (T t).bind fun y => y.elem.bind fun e => (T e).bind fun z => sliceB z.size (ρ x) (lo.map ρ) (hi.map ρ)
  | .fieldAddr s x f => (T s).bind fun y => (y.fields[f]?).bind fun f => if f.2 == 0 then none else
    match ρ x with
    | .own b o => pure1B (.own b (o + f.1))
    | .p (.pt cs o) => pure1B (.p (.pt cs (o + f.1)))
    | _ => none
  | .field s x f => (T s).bind fun y => (y.fields[f]?).bind fun q => (y.fagg[f]?).bind fun ag => if q.2 == 0 then none else
    match ρ x with
    | .p (.agg cs) => some (⟨cellsTo ag q.2 q.1 (.pc 0 cs), [], []⟩, decide (q.1 + q.2 ≤ cs.length ∧ (ag = false → q.2 = 1)))
    | .agg cs => some (⟨cellsTo ag q.2 q.1 (.mc 0 cs), [], []⟩, decide (q.1 + q.2 ≤ cs.length ∧ (ag = false → q.2 = 1)))
    | _ => none
  | .indexAddr t x i => (T t).bind fun y => y.elem.bind fun e => (T e).bind fun z => (ints (ρ i)).bind fun i =>
    match ρ x with
    | .p (.lst n cs) => some (⟨.p (.pt cs (i.2.toNat * z.size)), [], []⟩, decide (0 ≤ i.2 ∧ i.2 < n ∧ i.2.toNat * z.size < cs.length))
    | .sl b o n k => if k == z.size then some (⟨.own b (o + i.2.toNat * k), [], []⟩, decide (0 ≤ i.2 ∧ i.2 < n)) else none
    | _ => none
  | .index t x i => (T t).bind fun y => if y.str then (ints (ρ i)).bind fun i =>
    match ρ x with
    | .p (.v (.string s)) => some (⟨.p (.v (.int .u8 ((s.data.toList.getD i.2.toNat 0).toNat : Int))), [], []⟩, decide (0 ≤ i.2 ∧ i.2 < s.size))
    | _ => none else none
  | .extract t i =>
    match ρ t with
    | .p (.tup cs) => some (⟨.p (cs.getD i default), [], []⟩, decide (i < cs.length))
    | .tup cs => some (⟨cs.getD i .any, [], []⟩, decide (i < cs.length))
    | _ => none
  | .call { callee := .builtin .len, args, argTypes } => match args.toList, argTypes.toList with
    | [x], [t] => (T t).bind fun y => match y.elem, ρ x with
      | some _, .p (.lst n _) | some _, .sl _ _ n _ => pure1B (.p (.v (.int .i64 n)))
      | some _, .p (.v (.slice none 0 0)) => pure1B (.p (.v (.int .i64 0)))
      | none, .p (.v (.string s)) => if y.str then pure1B (.p (.v (.int .i64 s.size))) else none
      | _, _ => none
    | _, _ => none
  | .call { callee := .builtin .max, args, .. } => match args.toList with
    | [x, y] => (ints (ρ x)).bind fun a => (ints (ρ y)).bind fun b => pure1B (.p (.v (.int a.1 (if b.2 > a.2 then b.2 else a.2))))
    | _ => none
  | .call { callee := .builtin .min, args, .. } => match args.toList with
    | [x, y] => (ints (ρ x)).bind fun a => (ints (ρ y)).bind fun b => pure1B (.p (.v (.int a.1 (if b.2 < a.2 then b.2 else a.2))))
    | _ => none
  | .call { callee := .builtin .append, args, argTypes } => match args.toList, argTypes.toList with
    | [x, y], [t, t'] => if t == t' then (T t).bind fun u => u.elem.bind fun e => (T e).bind fun z => if z.size == 0 then none else
      (viewA σ (ρ y)).bind fun src =>
      match ρ x with
      | .p (.v (.slice none 0 0)) => some (⟨.sl new 0 src.1 z.size, [(new, some (joinB e (.pc e []) (sub src.2.1 (src.1 * z.size) src.2.2.1)))], src.2.2.2⟩, decide (src.2.1 + src.1 * z.size ≤ src.2.2.1.cells.length ∧ src.1 * z.bytes ≤ 140737488355328 ∧ src.1 ≤ 140737488351232))
      | .sl b 0 n k => if k == z.size && !(src.2.2.2.contains b) then (σ b).bind fun d => if d.el == e then some (⟨.sl new 0 (n + src.1) k, [(b, none), (new, some (joinB e d (sub src.2.1 (src.1 * z.size) src.2.2.1)))], b :: src.2.2.2⟩, decide (d.cells.length = n * k ∧ src.2.1 + src.1 * z.size ≤ src.2.2.1.cells.length ∧ (n + src.1) * z.bytes ≤ 140737488355328 ∧ n + src.1 ≤ 140737488351232)) else none else none
      | _ => none else none
    | _, _ => none
  | .call { callee := .builtin .copy, args, argTypes } => match args.toList, argTypes.toList with
    | [x, y], [t, _] => (T t).bind fun u => u.elem.bind fun e => (T e).bind fun z => if z.size == 0 then none else
      (viewA σ (ρ y)).bind fun src =>
      match ρ x with
      | .sl b o n k => if k == z.size && !(src.2.2.2.contains b) then (σ b).bind fun d => some (⟨.p (.v (.int .i64 (min src.1 n : Nat))), [(b, some (overB o (sub src.2.1 ((min src.1 n) * z.size) src.2.2.1) d))], b :: src.2.2.2⟩, decide (src.2.1 + src.1 * z.size ≤ src.2.2.1.cells.length ∧ o + n * k ≤ d.cells.length)) else none
      | _ => none
    | _, _ => none
  | _ => none

def okd (x : Option (Eff × Bool)) : Option (Eff × Prop) := x.map fun q => (q.1, q.2 = true)
theorem okd_bind {α : Type} (x : Option α) (f : α → Option (Eff × Bool)) : okd (x.bind f) = x.bind fun a => okd (f a) := by cases x <;> rfl
theorem okd_some (e : Eff) (b : Bool) : okd (some (e, b)) = some (e, b = true) := rfl
theorem okd_none : okd none = none := rfl
theorem okd_dec (e : Eff) (c : Prop) [d : Decidable c] : okd (some (e, decide c)) = some (e, c) := by simp [okd]
theorem okd_ite (c : Prop) [Decidable c] (a b : Option (Eff × Bool)) : okd (if c then a else b) = if c then okd a else okd b := by split <;> rfl
theorem okd_pure (x : AV) : okd (pure1B x) = pure1 x := by simp [pure1, pure1B, okd]
theorem binA_eq (op : BinOp) (k : IntKind) (a b : Int) : (binA op k a b) = (binB op k a b).map fun q => (q.1, q.2 = true) := by
  cases op <;> simp [binA, binB, leI_eq] <;> simp [ltI_eq]
theorem strA_eq (op : BinOp) (a b : ByteArray) : (strA op a b) = (strB op a b).map fun q => (q.1, q.2 = true) := by
  cases op <;> simp [strA, strB, ba_toList]
theorem okd_bin (op : BinOp) (k : IntKind) (a b : Int) : okd ((binB op k a b).bind fun r => some (⟨.p (.v r.1), [], []⟩, r.2)) = (binA op k a b).bind fun r => some (⟨.p (.v r.1), [], []⟩, r.2) := by
  rw [binA_eq, okd_bind]; cases binB op k a b <;> rfl
theorem okd_str (op : BinOp) (a b : ByteArray) : okd ((strB op a b).bind fun r => some (⟨.p (.v r.1), [], []⟩, r.2)) = (strA op a b).bind fun r => some (⟨.p (.v r.1), [], []⟩, r.2) := by
  rw [strA_eq, okd_bind]; cases strB op a b <;> rfl
theorem bind_congr' {α β : Type} {x : Option α} {f g : α → Option β} (h : ∀ a, f a = g a) : x.bind f = x.bind g := by rw [funext h]
theorem ite_congr' {α : Type} {c : Prop} [Decidable c] {a b a' b' : α} (h1 : a = a') (h2 : b = b') : (if c then a else b) = if c then a' else b' := by rw [h1, h2]
theorem sliceA_eq (zs : Nat) (x : AV) (lo hi : Option AV) : sliceA zs x lo hi = okd (sliceB zs x lo hi) := by
  have key : ∀ (h : Option Int), (match h with
    | none => none
    | some h =>
    match lo, x with
    | none, .sl b o n k => if k == zs then some ((⟨.sl b o h.toNat k, [], []⟩ : Eff), 0 ≤ h ∧ h ≤ n) else none
    | some l, .sl b o n k => if k == zs then (ints l).bind fun l => some (⟨.sl b (o + l.2.toNat * k) (h - l.2).toNat k, [], []⟩, 0 ≤ l.2 ∧ l.2 < h ∧ h ≤ n) else none
    | none, .p (.lst n cs) => some (⟨.p (.lst h.toNat (cs.take (h.toNat * zs))), [], []⟩, 0 ≤ h ∧ h ≤ n)
    | some l, .p (.lst n cs) => (ints l).bind fun l => some (⟨.p (.lst (h - l.2).toNat ((cs.drop (l.2.toNat * zs)).take ((h - l.2).toNat * zs))), [], []⟩, 0 ≤ l.2 ∧ l.2 ≤ h ∧ h ≤ n)
    | _, _ => none) = okd (match h with
    | none => none
    | some h =>
    match lo, x with
    | none, .sl b o n k => if k == zs then some (⟨.sl b o h.toNat k, [], []⟩, decide (0 ≤ h ∧ h ≤ n)) else none
    | some l, .sl b o n k => if k == zs then (ints l).bind fun l => some (⟨.sl b (o + l.2.toNat * k) (h - l.2).toNat k, [], []⟩, decide (0 ≤ l.2 ∧ l.2 < h ∧ h ≤ n)) else none
    | none, .p (.lst n cs) => some (⟨.p (.lst h.toNat (cs.take (h.toNat * zs))), [], []⟩, decide (0 ≤ h ∧ h ≤ n))
    | some l, .p (.lst n cs) => (ints l).bind fun l => some (⟨.p (.lst (h - l.2).toNat ((cs.drop (l.2.toNat * zs)).take ((h - l.2).toNat * zs))), [], []⟩, decide (0 ≤ l.2 ∧ l.2 ≤ h ∧ h ≤ n))
    | _, _ => none) := by
    intro h
    rcases h with _ | h
    · rfl
    · rcases lo with _ | l <;> rcases x with _ | x | _ | _ | _ | _ | _ <;> (try rfl) <;> (try (rcases x with _ | _ | _ | _ | _)) <;> (try rfl) <;> simp only [okd_ite, okd_bind, okd_dec, okd_none]
  exact key _
theorem pop_eq (T : Tab) (op : Op) (ρ : Operand → AV) (σ : Store) (new : Nat) : pop T op ρ σ new = okd (popB T op ρ σ new) := by
  cases op
  case move x => simp only [pop, popB, okd_pure]
  case assign x => simp only [pop, popB, okd_pure]
  case pick c a b => simp only [pop, popB]; generalize ρ c = x; generalize ρ a = y; generalize ρ b = z; (repeat' (first | rfl | (exfalso; rename_i hx; first | exact hx _ _ _ _ rfl rfl | exact hx _ _ rfl rfl | exact hx _ _ _ rfl | exact hx _ _ rfl | exact hx _ _ _ rfl rfl | exact hx _ rfl | exact hx _ _ _ _ _ rfl rfl | exact hx _ _ _ _ _ _ rfl rfl) | exact (okd_dec _ _).symm | exact (okd_pure _).symm | exact (okd_bin _ _ _ _).symm | exact (okd_str _ _ _).symm | exact okd_none.symm | (with_reducible refine Eq.trans ?_ (okd_ite _ _ _).symm) | (with_reducible refine Eq.trans ?_ (okd_bind _ _).symm) | (refine bind_congr' fun _ => ?_) | (refine ite_congr' ?_ ?_) | split)) <;> (try (exfalso; solve_by_elim [rfl])) <;> (try simp_all [okd_pure, okd_none])
  case alloc e => simp only [pop, popB]; (repeat' (first | rfl | (exfalso; rename_i hx; first | exact hx _ _ _ _ rfl rfl | exact hx _ _ rfl rfl | exact hx _ _ _ rfl | exact hx _ _ rfl | exact hx _ _ _ rfl rfl | exact hx _ rfl | exact hx _ _ _ _ _ rfl rfl | exact hx _ _ _ _ _ _ rfl rfl) | exact (okd_dec _ _).symm | exact (okd_pure _).symm | exact (okd_bin _ _ _ _).symm | exact (okd_str _ _ _).symm | exact okd_none.symm | (with_reducible refine Eq.trans ?_ (okd_ite _ _ _).symm) | (with_reducible refine Eq.trans ?_ (okd_bind _ _).symm) | (refine bind_congr' fun _ => ?_) | (refine ite_congr' ?_ ?_) | split)) <;> (try (exfalso; solve_by_elim [rfl])) <;> (try simp_all [okd_pure, okd_none])
  case box e x => simp only [pop, popB]; (repeat' (first | rfl | (exfalso; rename_i hx; first | exact hx _ _ _ _ rfl rfl | exact hx _ _ rfl rfl | exact hx _ _ _ rfl | exact hx _ _ rfl | exact hx _ _ _ rfl rfl | exact hx _ rfl | exact hx _ _ _ _ _ rfl rfl | exact hx _ _ _ _ _ _ rfl rfl) | exact (okd_dec _ _).symm | exact (okd_pure _).symm | exact (okd_bin _ _ _ _).symm | exact (okd_str _ _ _).symm | exact okd_none.symm | (with_reducible refine Eq.trans ?_ (okd_ite _ _ _).symm) | (with_reducible refine Eq.trans ?_ (okd_bind _ _).symm) | (refine bind_congr' fun _ => ?_) | (refine ite_congr' ?_ ?_) | split)) <;> (try (exfalso; solve_by_elim [rfl])) <;> (try simp_all [okd_pure, okd_none])
  case build t ps => simp only [pop, popB]; (repeat' (first | rfl | (exfalso; rename_i hx; first | exact hx _ _ _ _ rfl rfl | exact hx _ _ rfl rfl | exact hx _ _ _ rfl | exact hx _ _ rfl | exact hx _ _ _ rfl rfl | exact hx _ rfl | exact hx _ _ _ _ _ rfl rfl | exact hx _ _ _ _ _ _ rfl rfl) | exact (okd_dec _ _).symm | exact (okd_pure _).symm | exact (okd_bin _ _ _ _).symm | exact (okd_str _ _ _).symm | exact okd_none.symm | (with_reducible refine Eq.trans ?_ (okd_ite _ _ _).symm) | (with_reducible refine Eq.trans ?_ (okd_bind _ _).symm) | (refine bind_congr' fun _ => ?_) | (refine ite_congr' ?_ ?_) | split)) <;> (try (exfalso; solve_by_elim [rfl])) <;> (try simp_all [okd_pure, okd_none])
  case buildSlice t n ps => simp only [pop, popB]; (repeat' (first | rfl | (exfalso; rename_i hx; first | exact hx _ _ _ _ rfl rfl | exact hx _ _ rfl rfl | exact hx _ _ _ rfl | exact hx _ _ rfl | exact hx _ _ _ rfl rfl | exact hx _ rfl | exact hx _ _ _ _ _ rfl rfl | exact hx _ _ _ _ _ _ rfl rfl) | exact (okd_dec _ _).symm | exact (okd_pure _).symm | exact (okd_bin _ _ _ _).symm | exact (okd_str _ _ _).symm | exact okd_none.symm | (with_reducible refine Eq.trans ?_ (okd_ite _ _ _).symm) | (with_reducible refine Eq.trans ?_ (okd_bind _ _).symm) | (refine bind_congr' fun _ => ?_) | (refine ite_congr' ?_ ?_) | split)) <;> (try (exfalso; solve_by_elim [rfl])) <;> (try simp_all [okd_pure, okd_none])
  case load t a => simp only [pop, popB]; generalize ρ a = x; (repeat' (first | rfl | (exfalso; rename_i hx; first | exact hx _ _ _ _ rfl rfl | exact hx _ _ rfl rfl | exact hx _ _ _ rfl | exact hx _ _ rfl | exact hx _ _ _ rfl rfl | exact hx _ rfl | exact hx _ _ _ _ _ rfl rfl | exact hx _ _ _ _ _ _ rfl rfl) | exact (okd_dec _ _).symm | exact (okd_pure _).symm | exact (okd_bin _ _ _ _).symm | exact (okd_str _ _ _).symm | exact okd_none.symm | (with_reducible refine Eq.trans ?_ (okd_ite _ _ _).symm) | (with_reducible refine Eq.trans ?_ (okd_bind _ _).symm) | (refine bind_congr' fun _ => ?_) | (refine ite_congr' ?_ ?_) | split)) <;> (try (exfalso; solve_by_elim [rfl])) <;> (try simp_all [okd_pure, okd_none])
  case store t a v => simp only [pop, popB]; generalize ρ a = x; generalize ρ v = y; (repeat' (first | rfl | (exfalso; rename_i hx; first | exact hx _ _ _ _ rfl rfl | exact hx _ _ rfl rfl | exact hx _ _ _ rfl | exact hx _ _ rfl | exact hx _ _ _ rfl rfl | exact hx _ rfl | exact hx _ _ _ _ _ rfl rfl | exact hx _ _ _ _ _ _ rfl rfl) | exact (okd_dec _ _).symm | exact (okd_pure _).symm | exact (okd_bin _ _ _ _).symm | exact (okd_str _ _ _).symm | exact okd_none.symm | (with_reducible refine Eq.trans ?_ (okd_ite _ _ _).symm) | (with_reducible refine Eq.trans ?_ (okd_bind _ _).symm) | (refine bind_congr' fun _ => ?_) | (refine ite_congr' ?_ ?_) | split)) <;> (try (exfalso; solve_by_elim [rfl])) <;> (try simp_all [okd_pure, okd_none])
  case nilCheck x => simp only [pop, popB]; generalize ρ x = y; (repeat' (first | rfl | (exfalso; rename_i hx; first | exact hx _ _ _ _ rfl rfl | exact hx _ _ rfl rfl | exact hx _ _ _ rfl | exact hx _ _ rfl | exact hx _ _ _ rfl rfl | exact hx _ rfl | exact hx _ _ _ _ _ rfl rfl | exact hx _ _ _ _ _ _ rfl rfl) | exact (okd_dec _ _).symm | exact (okd_pure _).symm | exact (okd_bin _ _ _ _).symm | exact (okd_str _ _ _).symm | exact okd_none.symm | (with_reducible refine Eq.trans ?_ (okd_ite _ _ _).symm) | (with_reducible refine Eq.trans ?_ (okd_bind _ _).symm) | (refine bind_congr' fun _ => ?_) | (refine ite_congr' ?_ ?_) | split)) <;> (try (exfalso; solve_by_elim [rfl])) <;> (try simp_all [okd_pure, okd_none])
  case binOp op t x y t2 => simp only [pop, popB]; generalize ρ x = u; generalize ρ y = v; (repeat' (first | rfl | (exfalso; rename_i hx; first | exact hx _ _ _ _ rfl rfl | exact hx _ _ rfl rfl | exact hx _ _ _ rfl | exact hx _ _ rfl | exact hx _ _ _ rfl rfl | exact hx _ rfl | exact hx _ _ _ _ _ rfl rfl | exact hx _ _ _ _ _ _ rfl rfl) | exact (okd_dec _ _).symm | exact (okd_pure _).symm | exact (okd_bin _ _ _ _).symm | exact (okd_str _ _ _).symm | exact okd_none.symm | (with_reducible refine Eq.trans ?_ (okd_ite _ _ _).symm) | (with_reducible refine Eq.trans ?_ (okd_bind _ _).symm) | (refine bind_congr' fun _ => ?_) | (refine ite_congr' ?_ ?_) | split)) <;> (try (exfalso; solve_by_elim [rfl])) <;> (try simp_all [okd_pure, okd_none])
  case unOp op t x => simp only [pop, popB]; generalize ρ x = u; (repeat' (first | rfl | (exfalso; rename_i hx; first | exact hx _ _ _ _ rfl rfl | exact hx _ _ rfl rfl | exact hx _ _ _ rfl | exact hx _ _ rfl | exact hx _ _ _ rfl rfl | exact hx _ rfl | exact hx _ _ _ _ _ rfl rfl | exact hx _ _ _ _ _ _ rfl rfl) | exact (okd_dec _ _).symm | exact (okd_pure _).symm | exact (okd_bin _ _ _ _).symm | exact (okd_str _ _ _).symm | exact okd_none.symm | (with_reducible refine Eq.trans ?_ (okd_ite _ _ _).symm) | (with_reducible refine Eq.trans ?_ (okd_bind _ _).symm) | (refine bind_congr' fun _ => ?_) | (refine ite_congr' ?_ ?_) | split)) <;> (try (exfalso; solve_by_elim [rfl])) <;> (try simp_all [okd_pure, okd_none])
  case convert s d x => simp only [pop, popB]; generalize ρ x = u; (repeat' (first | rfl | (exfalso; rename_i hx; first | exact hx _ _ _ _ rfl rfl | exact hx _ _ rfl rfl | exact hx _ _ _ rfl | exact hx _ _ rfl | exact hx _ _ _ rfl rfl | exact hx _ rfl | exact hx _ _ _ _ _ rfl rfl | exact hx _ _ _ _ _ _ rfl rfl) | exact (okd_dec _ _).symm | exact (okd_pure _).symm | exact (okd_bin _ _ _ _).symm | exact (okd_str _ _ _).symm | exact okd_none.symm | (with_reducible refine Eq.trans ?_ (okd_ite _ _ _).symm) | (with_reducible refine Eq.trans ?_ (okd_bind _ _).symm) | (refine bind_congr' fun _ => ?_) | (refine ite_congr' ?_ ?_) | split)) <;> (try (exfalso; solve_by_elim [rfl])) <;> (try simp_all [okd_pure, okd_none])
  case makeFunc f a b => cases f <;> simp only [pop, popB] <;> (repeat' (first | rfl | (exfalso; rename_i hx; first | exact hx _ _ _ _ rfl rfl | exact hx _ _ rfl rfl | exact hx _ _ _ rfl | exact hx _ _ rfl | exact hx _ _ _ rfl rfl | exact hx _ rfl | exact hx _ _ _ _ _ rfl rfl | exact hx _ _ _ _ _ _ rfl rfl) | exact (okd_dec _ _).symm | exact (okd_pure _).symm | exact (okd_bin _ _ _ _).symm | exact (okd_str _ _ _).symm | exact okd_none.symm | (with_reducible refine Eq.trans ?_ (okd_ite _ _ _).symm) | (with_reducible refine Eq.trans ?_ (okd_bind _ _).symm) | (refine bind_congr' fun _ => ?_) | (refine ite_congr' ?_ ?_) | split)) <;> (try (exfalso; solve_by_elim [rfl])) <;> (try simp_all [okd_pure, okd_none])
  case makeSlice t l c => simp only [pop, popB]; generalize ρ l = u; generalize ρ c = v; (repeat' (first | rfl | (exfalso; rename_i hx; first | exact hx _ _ _ _ rfl rfl | exact hx _ _ rfl rfl | exact hx _ _ _ rfl | exact hx _ _ rfl | exact hx _ _ _ rfl rfl | exact hx _ rfl | exact hx _ _ _ _ _ rfl rfl | exact hx _ _ _ _ _ _ rfl rfl) | exact (okd_dec _ _).symm | exact (okd_pure _).symm | exact (okd_bin _ _ _ _).symm | exact (okd_str _ _ _).symm | exact okd_none.symm | (with_reducible refine Eq.trans ?_ (okd_ite _ _ _).symm) | (with_reducible refine Eq.trans ?_ (okd_bind _ _).symm) | (refine bind_congr' fun _ => ?_) | (refine ite_congr' ?_ ?_) | split)) <;> (try (exfalso; solve_by_elim [rfl])) <;> (try simp_all [okd_pure, okd_none])
  case slice t x lo hi mx => cases mx <;> simp only [pop, popB, sliceA_eq] <;> (repeat' (first | rfl | (exfalso; rename_i hx; first | exact hx _ _ _ _ rfl rfl | exact hx _ _ rfl rfl | exact hx _ _ _ rfl | exact hx _ _ rfl | exact hx _ _ _ rfl rfl | exact hx _ rfl | exact hx _ _ _ _ _ rfl rfl | exact hx _ _ _ _ _ _ rfl rfl) | exact (okd_dec _ _).symm | exact (okd_pure _).symm | exact (okd_bin _ _ _ _).symm | exact (okd_str _ _ _).symm | exact okd_none.symm | (with_reducible refine Eq.trans ?_ (okd_ite _ _ _).symm) | (with_reducible refine Eq.trans ?_ (okd_bind _ _).symm) | (refine bind_congr' fun _ => ?_) | (refine ite_congr' ?_ ?_) | split)) <;> (try (exfalso; solve_by_elim [rfl])) <;> (try simp_all [okd_pure, okd_none])
  case fieldAddr s x f => simp only [pop, popB]; generalize ρ x = u; (repeat' (first | rfl | (exfalso; rename_i hx; first | exact hx _ _ _ _ rfl rfl | exact hx _ _ rfl rfl | exact hx _ _ _ rfl | exact hx _ _ rfl | exact hx _ _ _ rfl rfl | exact hx _ rfl | exact hx _ _ _ _ _ rfl rfl | exact hx _ _ _ _ _ _ rfl rfl) | exact (okd_dec _ _).symm | exact (okd_pure _).symm | exact (okd_bin _ _ _ _).symm | exact (okd_str _ _ _).symm | exact okd_none.symm | (with_reducible refine Eq.trans ?_ (okd_ite _ _ _).symm) | (with_reducible refine Eq.trans ?_ (okd_bind _ _).symm) | (refine bind_congr' fun _ => ?_) | (refine ite_congr' ?_ ?_) | split)) <;> (try (exfalso; solve_by_elim [rfl])) <;> (try simp_all [okd_pure, okd_none])
  case field s x f => simp only [pop, popB]; generalize ρ x = u; (repeat' (first | rfl | (exfalso; rename_i hx; first | exact hx _ _ _ _ rfl rfl | exact hx _ _ rfl rfl | exact hx _ _ _ rfl | exact hx _ _ rfl | exact hx _ _ _ rfl rfl | exact hx _ rfl | exact hx _ _ _ _ _ rfl rfl | exact hx _ _ _ _ _ _ rfl rfl) | exact (okd_dec _ _).symm | exact (okd_pure _).symm | exact (okd_bin _ _ _ _).symm | exact (okd_str _ _ _).symm | exact okd_none.symm | (with_reducible refine Eq.trans ?_ (okd_ite _ _ _).symm) | (with_reducible refine Eq.trans ?_ (okd_bind _ _).symm) | (refine bind_congr' fun _ => ?_) | (refine ite_congr' ?_ ?_) | split)) <;> (try (exfalso; solve_by_elim [rfl])) <;> (try simp_all [okd_pure, okd_none])
  case indexAddr t x i => simp only [pop, popB]; generalize ρ x = u; generalize ρ i = v; (repeat' (first | rfl | (exfalso; rename_i hx; first | exact hx _ _ _ _ rfl rfl | exact hx _ _ rfl rfl | exact hx _ _ _ rfl | exact hx _ _ rfl | exact hx _ _ _ rfl rfl | exact hx _ rfl | exact hx _ _ _ _ _ rfl rfl | exact hx _ _ _ _ _ _ rfl rfl) | exact (okd_dec _ _).symm | exact (okd_pure _).symm | exact (okd_bin _ _ _ _).symm | exact (okd_str _ _ _).symm | exact okd_none.symm | (with_reducible refine Eq.trans ?_ (okd_ite _ _ _).symm) | (with_reducible refine Eq.trans ?_ (okd_bind _ _).symm) | (refine bind_congr' fun _ => ?_) | (refine ite_congr' ?_ ?_) | split)) <;> (try (exfalso; solve_by_elim [rfl])) <;> (try simp_all [okd_pure, okd_none])
  case index t x i => simp only [pop, popB]; generalize ρ x = u; generalize ρ i = v; (repeat' (first | rfl | (exfalso; rename_i hx; first | exact hx _ _ _ _ rfl rfl | exact hx _ _ rfl rfl | exact hx _ _ _ rfl | exact hx _ _ rfl | exact hx _ _ _ rfl rfl | exact hx _ rfl | exact hx _ _ _ _ _ rfl rfl | exact hx _ _ _ _ _ _ rfl rfl) | exact (okd_dec _ _).symm | exact (okd_pure _).symm | exact (okd_bin _ _ _ _).symm | exact (okd_str _ _ _).symm | exact okd_none.symm | (with_reducible refine Eq.trans ?_ (okd_ite _ _ _).symm) | (with_reducible refine Eq.trans ?_ (okd_bind _ _).symm) | (refine bind_congr' fun _ => ?_) | (refine ite_congr' ?_ ?_) | split)) <;> (try (exfalso; solve_by_elim [rfl])) <;> (try simp_all [okd_pure, okd_none])
  case extract t i => simp only [pop, popB]; generalize ρ t = u; (repeat' (first | rfl | (exfalso; rename_i hx; first | exact hx _ _ _ _ rfl rfl | exact hx _ _ rfl rfl | exact hx _ _ _ rfl | exact hx _ _ rfl | exact hx _ _ _ rfl rfl | exact hx _ rfl | exact hx _ _ _ _ _ rfl rfl | exact hx _ _ _ _ _ _ rfl rfl) | exact (okd_dec _ _).symm | exact (okd_pure _).symm | exact (okd_bin _ _ _ _).symm | exact (okd_str _ _ _).symm | exact okd_none.symm | (with_reducible refine Eq.trans ?_ (okd_ite _ _ _).symm) | (with_reducible refine Eq.trans ?_ (okd_bind _ _).symm) | (refine bind_congr' fun _ => ?_) | (refine ite_congr' ?_ ?_) | split)) <;> (try (exfalso; solve_by_elim [rfl])) <;> (try simp_all [okd_pure, okd_none])
  case call c =>
    obtain ⟨callee, args, ts⟩ := c
    cases callee with
    | value f => rfl
    | invoke r m => rfl
    | builtin b =>
      generalize hargs : args.toList = avs
      generalize hts : ts.toList = tl
      cases b <;> (try rfl) <;> simp only [pop, popB, hargs, hts]
      all_goals (rcases avs with _ | ⟨x, _ | ⟨y, _ | ⟨z, avs⟩⟩⟩ <;> (try rfl) <;> (try dsimp only))
      all_goals (try (rcases tl with _ | ⟨t, _ | ⟨t', _ | ⟨t'', tl⟩⟩⟩ <;> (try rfl) <;> (try dsimp only)))
      all_goals (try generalize ρ x = u)
      all_goals (try generalize viewA σ (ρ y) = vw)
      all_goals (try generalize ρ y = v)
      all_goals (repeat' (first | rfl | (exfalso; rename_i hx; first | exact hx _ _ _ _ rfl rfl | exact hx _ _ rfl rfl | exact hx _ _ _ rfl | exact hx _ _ rfl | exact hx _ _ _ rfl rfl | exact hx _ rfl | exact hx _ _ _ _ _ rfl rfl | exact hx _ _ _ _ _ _ rfl rfl) | exact (okd_dec _ _).symm | exact (okd_pure _).symm | exact okd_none.symm | (with_reducible refine Eq.trans ?_ (okd_ite _ _ _).symm) | (with_reducible refine Eq.trans ?_ (okd_bind _ _).symm) | (refine bind_congr' fun _ => ?_) | (refine ite_congr' ?_ ?_) | split)) <;> (try (exfalso; solve_by_elim [rfl])) <;> (try simp_all [okd_pure, okd_none])
  all_goals rfl
end Go.Proofs.YtalklhbdpmggjaaDoor.Pw
namespace Go.Proofs.YtalklhbdpmggjaaDoor.Pw
open Go Go.RowKit
abbrev Told := Nat × List PV × PV
def Good (P : Program) (c : Told) : Prop := Sound P c.1 c.2.1 c.2.2
abbrev CallX := Nat → List AV → Stores → Nat → List PV → Option (Eff × List PV × List Told)
def CallOK (P : Program) (D : Nat) (cx : CallX) : Prop := ∀ g args st new tp r, cx g args st new tp = some r → (∀ c ∈ r.2.2, Good P c) → SoundE P D g args (get st) new r.1
def stepX (cx : CallX) (T : Tab) (ops : List Oper) (o : Oper) (new : Nat) (env : List AV) (st : Stores) (tp : List PV) : Option (Eff × List PV × List Told) :=
  match wantA ops env o with
  | some true => match o.op with
    | .call { callee := .value f, args, argTypes := _ } => match ev env f with
      | .fn g caps => cx g (args.toList.map (ev env) ++ caps) st new tp
      | _ => none
    | op => match popB T op (ev env) (get st) new with
      | some (e, true) => some (e, tp, [])
      | _ => none
  | some false => some (⟨.p (.tup []), [], []⟩, tp, [])
  | none => none
def opsX (cx : CallX) (T : Tab) (D : Nat) (ops : List Oper) (nx : Nat) : List Oper → Nat → List AV → Stores → List Eff → List PV → List Told → Option (List AV × Stores × List Eff × List PV × List Told)
  | [], _, env, st, acc, tp, lg => some (env, st, acc, tp, lg)
  | o :: r, i, env, st, acc, tp, lg => match stepX cx T ops o (nx + D * i) env st tp with
    | some (e, tp, l1) => if e.upd.all (fun x => Nat.blt x.1 (nx + D * (i + 1))) then opsX cx T D ops nx r (i + 1) (setD env o.dst e.val) (puts st e.upd) (e :: acc) tp (lg ++ l1) else none
    | none => none
theorem stepX_sound {P : Program} {T : Tab} {D : Nat} {cx : CallX} (hcx : CallOK P D cx) {ops : List Oper} {o : Oper} {new : Nat} {env : List AV} {st : Stores} {tp : List PV} {r : Eff × List PV × List Told}
    (h : stepX cx T ops o new env st tp = some r) (hg : ∀ c ∈ r.2.2, Good P c) {K : Eff → Prop} (hK : K r.1) : stepW P T D ops o new env (get st) K := by
  unfold stepX at h
  unfold stepW
  split at h
  · rename_i hw
    rw [hw]
    dsimp only
    split at h
    · rename_i f args ts ho
      split at h
      · rename_i g caps hf
        rw [ho]
        simp only [hf]
        exact ⟨r.1, hcx _ _ _ _ _ _ h hg, hK⟩
      · cases h
    · rename_i hno
      split at h
      · rename_i e' hp
        injection h with h; subst h
        split
        · rename_i f args ts ho; exact absurd ho (hno _ _ _)
        · rw [pop_eq, hp]
          exact ⟨rfl, hK⟩
      · cases h
  · rename_i hw
    rw [hw]
    injection h with h; subst h; exact hK
  · cases h
theorem opsX_log {T : Tab} {D : Nat} {cx : CallX} {ops : List Oper} {nx : Nat} : ∀ (l : List Oper) (i : Nat) (env : List AV) (st : Stores) (acc : List Eff) (tp : List PV) (lg : List Told) (r : List AV × Stores × List Eff × List PV × List Told),
    opsX cx T D ops nx l i env st acc tp lg = some r → ∀ c ∈ lg, c ∈ r.2.2.2.2
  | [], i, env, st, acc, tp, lg, r, h => by
    simp only [opsX, Option.some.injEq] at h; subst h; exact fun _ h => h
  | o :: l, i, env, st, acc, tp, lg, r, h => by
    simp only [opsX] at h
    split at h
    · split at h
      · exact fun c hc => opsX_log l _ _ _ _ _ _ r h c (List.mem_append_left _ hc)
      · cases h
    · cases h
theorem opsX_sound {P : Program} {T : Tab} {D : Nat} {cx : CallX} (hcx : CallOK P D cx) {ops : List Oper} {nx : Nat} {K : List AV → Stores → List Eff → Prop} :
    ∀ (l : List Oper) (i : Nat) (env : List AV) (st : Stores) (acc : List Eff) (tp : List PV) (lg : List Told) (r : List AV × Stores × List Eff × List PV × List Told), opsX cx T D ops nx l i env st acc tp lg = some r → (∀ c ∈ r.2.2.2.2, Good P c) → K r.1 r.2.1 r.2.2.1 → opsW P T D ops nx l i env st acc K
  | [], i, env, st, acc, tp, lg, r, h, hg, hK => by
    simp only [opsX, Option.some.injEq] at h; subst h; exact hK
  | o :: l, i, env, st, acc, tp, lg, r, h, hg, hK => by
    simp only [opsX] at h
    split at h
    · rename_i e tp' l1 he
      split at h
      · rename_i hb
        exact stepX_sound hcx he (fun c hc => hg c (opsX_log l _ _ _ _ _ _ r h c (List.mem_append_right _ hc))) ⟨hb, opsX_sound hcx l _ _ _ _ _ _ r h hg hK⟩
      · cases h
    · cases h
structure Out where
  x : X
  env : List AV
  st : Stores
  nx : Nat
  wr : List Nat
  tp : List PV
  lg : List Told
def addW (base : Nat) (wr : List Nat) : List Eff → List Nat
  | [] => wr
  | e :: r => addW base (e.upd.foldl (fun w x => if Nat.blt x.1 base && !w.contains x.1 then x.1 :: w else w) wr) r
def exec (T : Tab) (D base : Nat) (cx : CallX) : Nat → Code → List AV → Stores → Nat → List Nat → List PV → List Told → Option Out
  | 0, _, _, _, _, _, _, _ => none
  | n + 1, c, env, st, nx, wr, tp, lg => match c with
    | .skip => some ⟨.normal, env, st, nx, wr, tp, lg⟩
    | .exit id => some ⟨.exit id, env, st, nx, wr, tp, lg⟩
    | .ret => some ⟨.ret, env, st, nx, wr, tp, lg⟩
    | .seq a b => match exec T D base cx n a env st nx wr tp lg with
      | some ⟨.normal, env, st, nx, wr, tp, lg⟩ => exec T D base cx n b env st nx wr tp lg
      | r => r
    | .cond c a b => match ev env c with
      | .p (.v (.bool t)) => match t with
        | true => exec T D base cx n a env st nx wr tp lg
        | false => exec T D base cx n b env st nx wr tp lg
      | _ => none
    | .block id c => match exec T D base cx n c env st nx wr tp lg with
      | some ⟨.exit i, env, st, nx, wr, tp, lg⟩ => if i = id then some ⟨.normal, env, st, nx, wr, tp, lg⟩ else some ⟨.exit i, env, st, nx, wr, tp, lg⟩
      | r => r
    | .loop c => match exec T D base cx n c env st nx wr tp lg with
      | some ⟨.normal, env, st, nx, wr, tp, lg⟩ => exec T D base cx n (.loop c) env st nx wr tp lg
      | r => r
    | .region _ ops draw => match opsX cx T D ops.toList nx ops.toList 0 env st [] tp lg with
      | some (env, st, acc, tp, lg) => if !draw || (lexOK ops (befs ops.toList []) && effsOK D nx (befs ops.toList []) (acc.reverse.map fun e => (e.upd.map (·.1), e.rd))) then some ⟨.normal, env, st, nx + D * ops.size, addW base wr acc, tp, lg⟩ else none
      | none => none
    | _ => none
theorem exec_log {T : Tab} {D : Nat} {cx : CallX} {B : Nat} : ∀ (n : Nat) (c : Code) (env : List AV) (st : Stores) (nx : Nat) (wr : List Nat) (tp : List PV) (lg : List Told) (o : Out), exec T D B cx n c env st nx wr tp lg = some o → ∀ c ∈ lg, c ∈ o.lg := by
  intro n
  induction n with
  | zero => intro c env st nx wr tp lg o h; simp [exec] at h
  | succ n ih =>
    intro c env st nx wr tp lg o h
    cases c with
    | skip => simp only [exec, Option.some.injEq] at h; subst h; exact fun _ h => h
    | exit id => simp only [exec, Option.some.injEq] at h; subst h; exact fun _ h => h
    | ret => simp only [exec, Option.some.injEq] at h; subst h; exact fun _ h => h
    | seq a b =>
      simp only [exec] at h
      split at h
      · rename_i h1; exact fun c hc => ih _ _ _ _ _ _ _ _ h c (ih _ _ _ _ _ _ _ _ h1 c hc)
      · exact ih _ _ _ _ _ _ _ _ h
    | cond c a b =>
      simp only [exec] at h
      split at h
      · rename_i t hc
        cases t <;> exact ih _ _ _ _ _ _ _ _ h
      · cases h
    | block id c =>
      simp only [exec] at h
      split at h
      · rename_i h1
        have := ih _ _ _ _ _ _ _ _ h1
        split at h <;> (injection h with h; subst h; exact this)
      · exact ih _ _ _ _ _ _ _ _ h
    | loop c =>
      simp only [exec] at h
      split at h
      · rename_i h1; exact fun c hc => ih _ _ _ _ _ _ _ _ h c (ih _ _ _ _ _ _ _ _ h1 c hc)
      · exact ih _ _ _ _ _ _ _ _ h
    | region id ops draw =>
      simp only [exec] at h
      split at h
      · rename_i h1
        split at h
        · injection h with h; subst h
          exact opsX_log _ _ _ _ _ _ _ _ h1
        · cases h
      · cases h
    | _ => simp [exec] at h
section
variable {P : Program} {T : Tab} {D base : Nat} {cx : CallX}
theorem exec_sound (hT : TOK P T) (hm : P.follows .mixedOrders = true) (hD : 0 < D) (hcx : CallOK P D cx) {B : Nat} :
    ∀ (n : Nat), (∀ (c : Code) (env : List AV) (st : Stores) (nx : Nat) (wr : List Nat) (tp : List PV) (lg : List Told) (o : Out) (Q : PostA), exec T D B cx n c env st nx wr tp lg = some o → (∀ c ∈ o.lg, Good P c) → Q o.x o.env o.st o.nx → WP P base c Q env st nx) ∧
      ∀ (c : Code) (env : List AV) (st : Stores) (nx : Nat) (wr : List Nat) (tp : List PV) (lg : List Told) (o : Out) (Q : PostA), exec T D B cx n (.loop c) env st nx wr tp lg = some o → (∀ c ∈ o.lg, Good P c) → Q o.x o.env o.st o.nx → WPL P base c Q env st nx := by
  intro n
  induction n with
  | zero => exact ⟨fun c env st nx wr tp lg o Q h => by simp [exec] at h, fun c env st nx wr tp lg o Q h => by simp [exec] at h⟩
  | succ n ihh =>
    obtain ⟨ih, ihL⟩ := ihh
    have loop : ∀ (c : Code) (env : List AV) (st : Stores) (nx : Nat) (wr : List Nat) (tp : List PV) (lg : List Told) (o : Out) (Q : PostA), exec T D B cx (n + 1) (.loop c) env st nx wr tp lg = some o → (∀ c ∈ o.lg, Good P c) → Q o.x o.env o.st o.nx → WPL P base c Q env st nx := by
      intro c env st nx wr tp lg o Q h hg hQ
      simp only [exec] at h
      split at h
      · rename_i env1 st1 nx1 wr1 tp1 lg1 h1
        exact WPL_unroll (ih _ _ _ _ _ _ _ _ _ h1 (fun c hc => hg c (exec_log _ _ _ _ _ _ _ _ _ h c hc)) (ihL _ _ _ _ _ _ _ _ _ h hg hQ))
      · rename_i hno
        refine WPL_unroll (ih _ _ _ _ _ _ _ _ _ h hg ?_)
        unfold loopK
        split
        · rename_i hx
          obtain ⟨x, e1, s1, n1, w1, t1, g1⟩ := o
          simp only at hx; subst hx
          exact absurd h (hno _ _ _ _ _ _)
        · exact hQ
    refine ⟨?_, loop⟩
    intro c env st nx wr tp lg o Q h hg hQ
    cases c with
    | skip => simp only [exec, Option.some.injEq] at h; subst h; exact WP_skip hQ
    | exit id => simp only [exec, Option.some.injEq] at h; subst h; exact WP_exit hQ
    | ret => simp only [exec, Option.some.injEq] at h; subst h; exact WP_ret hQ
    | seq a b =>
      simp only [exec] at h
      split at h
      · rename_i env1 st1 nx1 wr1 tp1 lg1 h1
        exact WP_seq (ih _ _ _ _ _ _ _ _ _ h1 (fun c hc => hg c (exec_log _ _ _ _ _ _ _ _ _ h c hc)) (ih _ _ _ _ _ _ _ _ _ h hg hQ))
      · rename_i hno
        refine WP_seq (ih _ _ _ _ _ _ _ _ _ h hg ?_)
        unfold seqK
        split
        · rename_i hx
          obtain ⟨x, e1, s1, n1, w1, t1, g1⟩ := o
          simp only at hx; subst hx
          exact absurd h (hno _ _ _ _ _ _)
        · exact hQ
    | cond c a b =>
      simp only [exec] at h
      split at h
      · rename_i t hc
        cases t
        · exact WP_cond hc (by simpa using ih _ _ _ _ _ _ _ _ _ h hg hQ)
        · exact WP_cond hc (by simpa using ih _ _ _ _ _ _ _ _ _ h hg hQ)
      · cases h
    | block id c =>
      simp only [exec] at h
      split at h
      · rename_i i env1 st1 nx1 wr1 tp1 lg1 h1
        refine WP_block (ih _ _ _ _ _ _ _ _ _ h1 ?_ ?_)
        · split at h <;> (injection h with h; subst h; exact hg)
        simp only [blockK]
        split at h
        · rename_i e; rw [if_pos e]; injection h with h; subst h; exact hQ
        · rename_i e; rw [if_neg e]; injection h with h; subst h; exact hQ
      · rename_i hno
        refine WP_block (ih _ _ _ _ _ _ _ _ _ h hg ?_)
        unfold blockK
        split
        · rename_i i hx
          obtain ⟨x, e1, s1, n1, w1, t1, g1⟩ := o
          simp only at hx; subst hx
          exact absurd h (hno _ _ _ _ _ _ _)
        · exact hQ
    | loop c => exact WP_loop (loop _ _ _ _ _ _ _ _ _ h hg hQ)
    | region id ops draw =>
      simp only [exec] at h
      split at h
      · rename_i env1 st1 acc tp1 lg1 h1
        split at h
        · rename_i hb
          injection h with h; subst h
          simp only [Bool.or_eq_true, Bool.not_eq_true', Bool.and_eq_true] at hb
          refine WP_region hT hm hD (fun hd => ?_) (opsX_sound hcx _ _ _ _ _ _ _ _ h1 hg ⟨fun hd => ?_, hQ⟩)
          · rcases hb with hb | hb
            · rw [hd] at hb; cases hb
            · exact hb.1
          · rcases hb with hb | hb
            · rw [hd] at hb; cases hb
            · exact hb.2
        · cases h
      · cases h
    | _ => simp [exec] at h
end
end Go.Proofs.YtalklhbdpmggjaaDoor.Pw
namespace Go.Proofs.YtalklhbdpmggjaaDoor.Pw
open Go Go.RowKit
mutual
def refs : AV → List Nat
  | .any | .p _ => []
  | .own b _ => [b]
  | .sl b _ _ _ => [b]
  | .agg cs => refsL cs
  | .tup cs => refsL cs
  | .fn _ cs => refsL cs
def refsL : List AV → List Nat
  | [] => []
  | x :: r => refs x ++ refsL r
end
def blkRefs : Blk → List Nat | .pc _ _ => [] | .mc _ cs => refsL cs
def reach : Nat → Stores → List Nat → List Nat → List Nat
  | 0, _, _, seen => seen
  | _ + 1, _, [], seen => seen
  | n + 1, st, b :: todo, seen => if seen.contains b then reach n st todo seen else match get st b with
    | some k => reach n st (blkRefs k ++ todo) (b :: seen)
    | none => reach n st todo seen
def pickS (st : Stores) : List Nat → Stores
  | [] => []
  | b :: r => match get st b with | some k => (b, k) :: pickS st r | none => pickS st r
theorem get_pickS (st : Stores) : ∀ (l : List Nat) b k, get (pickS st l) b = some k → get st b = some k ∧ b ∈ l
  | [], b, k, h => by simp [pickS, get] at h
  | a :: r, b, k, h => by
    simp only [pickS] at h
    split at h
    · rename_i k' hk
      simp only [get] at h
      by_cases e : a = b
      · subst e
        simp only [beq_self_eq_true, cond_true, Option.some.injEq] at h
        subst h; exact ⟨hk, by simp⟩
      · rw [show (a == b) = false by simpa using e] at h
        have := get_pickS st r b k h
        exact ⟨this.1, by simp [this.2]⟩
    · have := get_pickS st r b k h
      exact ⟨this.1, by simp [this.2]⟩
theorem mem_of_get : ∀ (l : Stores) b k, get l b = some k → (b, k) ∈ l
  | [], b, k, h => by simp [get] at h
  | (i, x) :: r, b, k, h => by
    simp only [get] at h
    by_cases e : i = b
    · subst e
      simp only [beq_self_eq_true, cond_true, Option.some.injEq] at h
      subst h; simp
    · rw [show (i == b) = false by simpa using e] at h
      exact List.mem_cons_of_mem _ (mem_of_get r b k h)
def ltB (n : Nat) : Blk → Bool | .pc _ _ => true | .mc _ cs => lts n cs
theorem lts_map_p (n : Nat) : ∀ cs : List PV, lts n (cs.map .p) = true
  | [] => rfl
  | x :: r => by simp [lts, AV.lt, lts_map_p n r]
theorem ltB_cells {n : Nat} {k : Blk} (h : ltB n k = true) : lts n k.cells = true := by
  cases k with
  | pc e cs => exact lts_map_p n cs
  | mc e cs => exact h
def resOneB (T : Tab) (env : List AV) (σ : Store) : ResultVar → Option AV
  | .tmp t => some (env.getD t .any)
  | .cell a t => (T t).bind fun y => if y.size == 0 then none else match env.getD a .any with
    | .own b o => (σ b).bind fun k => if Nat.ble (o + y.size) k.cells.length && (y.agg || y.size == 1) then some (cellsTo y.agg y.size o k) else none
    | _ => none
def resAllB (T : Tab) (env : List AV) (σ : Store) : List ResultVar → Option (List AV)
  | [] => some []
  | r :: rs => (resOneB T env σ r).bind fun a => (resAllB T env σ rs).map fun q => a :: q
theorem resOneB_spec {T : Tab} {env : List AV} {σ : Store} {r : ResultVar} {a : AV} (h : resOneB T env σ r = some a) : ∃ c, resOne T env σ r = some (a, c) ∧ c := by
  cases r with
  | tmp t => simp only [resOneB, Option.some.injEq] at h; subst h; exact ⟨_, rfl, trivial⟩
  | cell p t =>
    simp only [resOneB, Option.bind_eq_some_iff] at h
    obtain ⟨y, hy, h⟩ := h
    split at h
    · cases h
    · rename_i h0
      split at h
      · rename_i b o hp
        simp only [Option.bind_eq_some_iff] at h
        obtain ⟨k, hk, h⟩ := h
        split at h
        · rename_i hc
          injection h with h; subst h
          simp only [Bool.and_eq_true, Nat.ble_eq, Bool.or_eq_true, beq_iff_eq] at hc
          refine ⟨o + y.size ≤ k.cells.length ∧ (y.agg = false → y.size = 1), ?_, hc.1, fun hf => ?_⟩
          · simp only [resOne, hy, Option.bind_some, hp, hk]
            rw [if_neg h0]
          · rcases hc.2 with h1 | h1
            · rw [hf] at h1; cases h1
            · exact h1
        · cases h
      · cases h
theorem resAllB_spec {T : Tab} {env : List AV} {σ : Store} : ∀ {rs : List ResultVar} {avs : List AV}, resAllB T env σ rs = some avs → ∃ c, resAll T env σ rs = some (avs, c) ∧ c
  | [], avs, h => by simp only [resAllB, Option.some.injEq] at h; subst h; exact ⟨True, rfl, trivial⟩
  | r :: rs, avs, h => by
    simp only [resAllB, Option.bind_eq_some_iff, Option.map_eq_some_iff] at h
    obtain ⟨a, ha, q, hq, rfl⟩ := h
    obtain ⟨c1, h1, h2⟩ := resOneB_spec ha
    obtain ⟨c2, h3, h4⟩ := resAllB_spec hq
    exact ⟨c1 ∧ c2, by simp [resAll, h1, h3], h2, h4⟩
theorem opsX_inv {T : Tab} {D : Nat} {cx : CallX} {ops : List Oper} {nx : Nat} : ∀ (l : List Oper) (i : Nat) (env : List AV) (st : Stores) (acc : List Eff) (tp : List PV) (lg : List Told) (r : List AV × Stores × List Eff × List PV × List Told), opsX cx T D ops nx l i env st acc tp lg = some r →
    ∃ es, r.2.2.1 = es ++ acc ∧ ∀ b, (∀ e ∈ es, ∀ x ∈ e.upd, x.1 ≠ b) → get r.2.1 b = get st b
  | [], i, env, st, acc, tp, lg, r, h => by
    simp only [opsX, Option.some.injEq] at h; subst h; exact ⟨[], rfl, fun _ _ => rfl⟩
  | o :: l, i, env, st, acc, tp, lg, r, h => by
    simp only [opsX] at h
    split at h
    · rename_i e tp' l1 he
      split at h
      · obtain ⟨es, h1, h2⟩ := opsX_inv l _ _ _ _ _ _ r h
        refine ⟨es ++ [e], by rw [h1]; simp, fun b hb => ?_⟩
        rw [h2 b fun e' he' => hb e' (by simp [he']), get_puts]
        exact upds_other _ _ _ (hb e (by simp))
      · cases h
    · cases h
theorem foldW (B : Nat) : ∀ (u : List (Nat × Option Blk)) (w : List Nat), (∀ b, b ∈ w → b ∈ u.foldl (fun w x => if Nat.blt x.1 B && !w.contains x.1 then x.1 :: w else w) w) ∧
    ∀ x ∈ u, x.1 < B → x.1 ∈ u.foldl (fun w x => if Nat.blt x.1 B && !w.contains x.1 then x.1 :: w else w) w
  | [], w => ⟨fun _ h => h, fun x h => by cases h⟩
  | y :: u, w => by
    obtain ⟨h1, h2⟩ := foldW B u (if Nat.blt y.1 B && !w.contains y.1 then y.1 :: w else w)
    refine ⟨fun b hb => h1 b ?_, fun x hx hlt => ?_⟩
    · split
      · simp [hb]
      · exact hb
    · rcases List.mem_cons.1 hx with rfl | hx
      · refine h1 _ ?_
        split
        · simp
        · rename_i hc
          simp only [Nat.blt_eq, Bool.and_eq_true, Bool.not_eq_true', not_and, Bool.not_eq_false] at hc
          have := hc hlt
          simpa using this
      · exact h2 x hx hlt
theorem addW_spec (B : Nat) : ∀ (es : List Eff) (w : List Nat), (∀ b, b ∈ w → b ∈ addW B w es) ∧ ∀ e ∈ es, ∀ x ∈ e.upd, x.1 < B → x.1 ∈ addW B w es
  | [], w => ⟨fun _ h => h, fun x h => by cases h⟩
  | e :: es, w => by
    obtain ⟨h1, h2⟩ := addW_spec B es (e.upd.foldl (fun w x => if Nat.blt x.1 B && !w.contains x.1 then x.1 :: w else w) w)
    obtain ⟨h3, h4⟩ := foldW B e.upd w
    refine ⟨fun b hb => h1 b (h3 b hb), fun e' he' x hx hlt => ?_⟩
    rcases List.mem_cons.1 he' with rfl | he'
    · exact h1 _ (h4 x hx hlt)
    · exact h2 e' he' x hx hlt
theorem exec_inv {T : Tab} {D : Nat} {cx : CallX} {B : Nat} : ∀ (n : Nat) (c : Code) (env : List AV) (st : Stores) (nx : Nat) (wr : List Nat) (tp : List PV) (lg : List Told) (o : Out), exec T D B cx n c env st nx wr tp lg = some o →
    (∀ b, b ∈ wr → b ∈ o.wr) ∧ ∀ b, b < B → b ∉ o.wr → get o.st b = get st b := by
  intro n
  induction n with
  | zero => intro c env st nx wr tp lg o h; simp [exec] at h
  | succ n ih =>
    intro c env st nx wr tp lg o h
    have two : ∀ {c1 c2 : Code} {env1 st1 nx1 wr1 tp1 lg1 x}, exec T D B cx n c1 env st nx wr tp lg = some ⟨x, env1, st1, nx1, wr1, tp1, lg1⟩ → exec T D B cx n c2 env1 st1 nx1 wr1 tp1 lg1 = some o → (∀ b, b ∈ wr → b ∈ o.wr) ∧ ∀ b, b < B → b ∉ o.wr → get o.st b = get st b := fun h1 h2 => by
      obtain ⟨a1, a2⟩ := ih _ _ _ _ _ _ _ _ h1
      obtain ⟨b1, b2⟩ := ih _ _ _ _ _ _ _ _ h2
      exact ⟨fun b hb => b1 b (a1 b hb), fun b hb hn => (b2 b hb hn).trans (a2 b hb fun hm => hn (b1 b hm))⟩
    cases c with
    | skip => simp only [exec, Option.some.injEq] at h; subst h; exact ⟨fun _ h => h, fun _ _ _ => rfl⟩
    | exit id => simp only [exec, Option.some.injEq] at h; subst h; exact ⟨fun _ h => h, fun _ _ _ => rfl⟩
    | ret => simp only [exec, Option.some.injEq] at h; subst h; exact ⟨fun _ h => h, fun _ _ _ => rfl⟩
    | seq a b =>
      simp only [exec] at h
      split at h
      · rename_i h1; exact two h1 h
      · exact ih _ _ _ _ _ _ _ _ h
    | cond c a b =>
      simp only [exec] at h
      split at h
      · rename_i t hc
        cases t <;> exact ih _ _ _ _ _ _ _ _ h
      · cases h
    | block id c =>
      simp only [exec] at h
      split at h
      · rename_i i env1 st1 nx1 wr1 tp1 lg1 h1
        have := ih _ _ _ _ _ _ _ _ h1
        split at h <;> (injection h with h; subst h; exact this)
      · exact ih _ _ _ _ _ _ _ _ h
    | loop c =>
      simp only [exec] at h
      split at h
      · rename_i h1; exact two h1 h
      · exact ih _ _ _ _ _ _ _ _ h
    | region id ops draw =>
      simp only [exec] at h
      split at h
      · rename_i env1 st1 acc tp1 lg1 h1
        split at h
        · injection h with h; subst h
          obtain ⟨es, e1, e2⟩ := opsX_inv _ _ _ _ _ _ _ _ h1
          simp only [List.append_nil] at e1
          subst e1
          obtain ⟨w1, w2⟩ := addW_spec B acc wr
          exact ⟨w1, fun b hb hn => e2 b fun e he x hx hxb => hn (hxb ▸ w2 e he x hx (by omega))⟩
        · cases h
      · cases h
    | _ => simp [exec] at h
def Dl (l : Nat) : Nat := 2 ^ (32 * l)
theorem Dl_pos (l : Nat) : 0 < Dl l := Nat.pow_pos (by decide)
def finX (T : Tab) (fuel l : Nat) (fn : Func) (st0 : Stores) (keys : List Nat) (new : Nat) (o : Out) : Option Eff :=
  match o.x with
  | .exit _ => none
  | _ => if Nat.ble o.nx (new + Dl l) then match resAllB T o.env (get o.st) fn.results.toList with
    | some avs =>
      match (((reach fuel o.st (refsL avs ++ o.wr) []).filter (fun b => Nat.ble new b)) ++ o.wr).map fun b => (b, get o.st b) with
      | u => if u.all (fun x => ((get st0 x.1).isSome || Nat.ble new x.1) && Nat.blt x.1 (new + Dl l)) then some ⟨pack avs, u, keys⟩ else none
    | none => none
    else none
/-- Told: the functions whose answers are read off the tape. -/
def callX (P : Program) (T : Tab) (told : List Nat) (fuel : Nat) : Nat → CallX
  | 0, _, _, _, _, _ => none
  | l + 1, g, args, st, new, tp => if told.contains g then match tp with
      | r :: tp => match frzs (get st) 99 args with
        | some (ps, rd) => some (⟨.p r, if r.flat then [] else rd.map fun b => (b, none), rd⟩, tp, [(g, ps, r)])
        | none => none
      | [] => none
    else match P.funcs[g]? with
    | none => none
    | some fn => if fn.name == "runtime.NumGoroutine" then none else match fn.body with
      | none => none
      | some c => match reach fuel st (refsL args) [] with
        | keys => match pickS st keys with
          | st0 => if lts new args && st0.all (fun x => Nat.blt x.1 new && ltB new x.2) then
            match exec T (Dl l) new (callX P T told fuel l) fuel c (args0 fn.ntmps args) st0 new [] tp [] with
            | some o => match finX T fuel (l + 1) fn st0 keys new o with
              | some e => some (e, o.tp, o.lg)
              | none => none
            | none => none
            else none
theorem upds_self (σ τ : Store) : ∀ (l : List Nat) b k, upds σ (l.map fun b => (b, τ b)) b = some k → τ b = some k ∨ (b ∉ l ∧ σ b = some k)
  | [], b, k, h => .inr ⟨by simp, h⟩
  | a :: r, b, k, h => by
    have h' : upds (upd1 σ a (τ a)) (r.map fun b => (b, τ b)) b = some k := h
    rcases upds_self _ τ r b k h' with h1 | ⟨h1, h2⟩
    · exact .inl h1
    · unfold upd1 at h2
      split at h2
      · rename_i e; subst e; exact .inl h2
      · rename_i e; exact .inr ⟨by simp [e, h1], h2⟩
theorem callX_sound {P : Program} {T : Tab} (hT : TOK P T) (hm : P.follows .mixedOrders = true) (told : List Nat) (fuel : Nat) : ∀ (l : Nat), CallOK P (Dl l) (callX P T told fuel l) := by
  intro l
  induction l with
  | zero => intro g args st new tp r h; simp [callX] at h
  | succ l ih =>
    intro g args st new tp r h hg
    simp only [callX] at h
    split at h
    · split at h
      · split at h
        · rename_i x tp' _ ps rd hf
          injection h with h; subst h
          exact SoundE.of hf (hg (g, ps, x) (List.mem_singleton.2 rfl))
        · cases h
      · cases h
    split at h
    · cases h
    · rename_i fn hf
      split at h
      · cases h
      · rename_i hnm
        split at h
        · cases h
        · rename_i c hb
          split at h
          · rename_i hc
            split at h
            · rename_i o ho
              simp only [Bool.and_eq_true, List.all_eq_true, Nat.blt_eq] at hc
              obtain ⟨hargs, hc⟩ := hc
              split at h
              rotate_left
              · cases h
              rename_i e he
              injection h with h; subst h
              replace h := he
              clear he
              unfold finX at h
              have key : o.x ≠ .normal ∧ o.x ≠ .ret → False := by
                intro ⟨h1, h2⟩
                cases hx : o.x with
                | normal => exact h1 hx
                | ret => exact h2 hx
                | exit i => rw [hx] at h; cases h
              split at h
              · cases h
              · split at h
                · rename_i hnx
                  split at h
                  · rename_i avs has
                    dsimp only at h
                    split at h
                    · rename_i hu
                      injection h with h; subst h
                      simp only [List.all_eq_true, Bool.and_eq_true, Bool.or_eq_true, Nat.ble_eq, Nat.blt_eq] at hu
                      refine SoundE.of_WP hT hf hb (by simpa using hnm) (pickS st (reach fuel st (refsL args) [])) (fun b k hk => ?_) hargs (fun x hx => ?_) ?_
                      · obtain ⟨h1, h2⟩ := get_pickS _ _ _ _ hk
                        have := hc (b, k) (mem_of_get _ _ _ hk)
                        exact ⟨h1, h2, this.1, ltB_cells this.2⟩
                      · have := hu x hx
                        refine ⟨this.1.imp (fun h => ?_) id, this.2⟩
                        intro h0; rw [h0] at h; cases h
                      · refine (exec_sound hT hm (Dl_pos l) ih fuel).1 c _ _ _ _ _ _ o _ ho hg ⟨by simpa using hnx, ?_⟩
                        obtain ⟨cc, hr, hcc⟩ := resAllB_spec has
                        have res : Res T fn.results.toList o.env o.st fun a => a = pack avs ∧ ∀ b k, upds (get (pickS st (reach fuel st (refsL args) []))) ((((reach fuel o.st (refsL avs ++ o.wr) []).filter (fun b => Nat.ble new b)) ++ o.wr).map fun b => (b, get o.st b)) b = some k → get o.st b = some k := by
                          unfold Res
                          rw [hr]
                          refine ⟨hcc, rfl, fun b k hk => ?_⟩
                          rcases upds_self _ _ _ _ _ hk with h1 | ⟨h1, h2⟩
                          · exact h1
                          · have hlt := (hc (b, k) (mem_of_get _ _ _ h2)).1
                            rw [(exec_inv _ _ _ _ _ _ _ _ _ ho).2 b hlt fun hw => h1 (by simp [hw])]
                            exact h2
                        cases hx : o.x with
                        | normal => exact res
                        | ret => exact res
                        | exit i => exact (key ⟨by simp [hx], by simp [hx]⟩).elim
                    · cases h
                  · cases h
                · cases h
            · cases h
          · cases h
/-- A run of a function at certain values. -/
def runX (P : Program) (T : Tab) (told : List Nat) (fuel l f : Nat) (args : List PV) (tp : List PV) : Option (PV × List Told) :=
  match P.funcs[f]? with
  | none => none
  | some fn => if fn.name == "runtime.NumGoroutine" then none else match fn.body with
    | none => none
    | some c => match exec T (Dl l) 0 (callX P T told fuel l) fuel c (args0 fn.ntmps (args.map .p)) [] 0 [] tp [] with
      | some o => match o.x with
        | .exit _ => none
        | _ => match resAllB T o.env (get o.st) fn.results.toList with
          | some avs => match frz (get o.st) 99 (pack avs) with
            | some (p, _) => some (p, o.lg)
            | none => none
          | none => none
      | none => none
theorem runX_sound {P : Program} {T : Tab} (hT : TOK P T) (hm : P.follows .mixedOrders = true) {told : List Nat} {fuel l f : Nat} {args : List PV} {tp : List PV} {res : PV} {lg : List Told} (h : runX P T told fuel l f args tp = some (res, lg)) (hg : ∀ c ∈ lg, Good P c) : Sound P f args res := by
  unfold runX at h
  split at h
  · cases h
  · rename_i fn hf
    split at h
    · cases h
    · rename_i hnm
      split at h
      · cases h
      · rename_i c hb
        split at h
        · rename_i o ho
          have key : o.x ≠ .normal ∧ o.x ≠ .ret → False := by
            intro ⟨h1, h2⟩
            cases hx : o.x with
            | normal => exact h1 hx
            | ret => exact h2 hx
            | exit i => rw [hx] at h; cases h
          split at h
          · cases h
          · split at h
            · rename_i avs has
              split at h
              · rename_i p rd hp
                injection h with h; injection h with h1 h2; subst h1; subst h2
                refine Sound.of_WP99 hT hf hb (by simpa using hnm) ?_
                refine (exec_sound hT hm (Dl_pos l) (callX_sound hT hm told fuel l) fuel).1 c _ _ _ _ _ _ o _ ho hg ?_
                obtain ⟨cc, hr, hcc⟩ := resAllB_spec has
                have res : Res T fn.results.toList o.env o.st fun a => ∃ rd, frz (get o.st) 99 a = some (p, rd) := by
                  unfold Res
                  rw [hr]
                  exact ⟨hcc, rd, hp⟩
                cases hx : o.x with
                | normal => exact res
                | ret => exact res
                | exit i => exact (key ⟨by simp [hx], by simp [hx]⟩).elim
              · cases h
            · cases h
        · cases h
theorem runL {P : Program} {T : Tab} (hT : TOK P T) (hm : P.follows .mixedOrders = true) {f : Nat} {args : List PV} {res : PV} {lg : List Told} (told : List Nat) (fuel l : Nat) (hg : ∀ c ∈ lg, Good P c) (h : runX P T told fuel l f args (lg.map fun c => c.2.2) = some (res, lg)) : Sound P f args res :=
  runX_sound hT hm h hg
theorem Res_of {T : Tab} {rs : List ResultVar} {env : List AV} {st : Stores} {K : AV → Prop} {avs : List AV} {c : Prop} (h : resAll T env (get st) rs = some (avs, c)) (hc : c) (hk : K (pack avs)) : Res T rs env st K := by
  unfold Res; rw [h]; exact ⟨hc, hk⟩
theorem Good.nil {P : Program} : ∀ c ∈ ([] : List Told), Good P c := fun c h => by cases h
theorem Good.cons {P : Program} {g : Nat} {ps : List PV} {r : PV} {l : List Told} (h : Sound P g ps r) (k : ∀ c ∈ l, Good P c) : ∀ c ∈ (g, ps, r) :: l, Good P c := fun c hc => by
  rcases List.mem_cons.1 hc with rfl | hc
  · exact h
  · exact k c hc
end Go.Proofs.YtalklhbdpmggjaaDoor.Pw
namespace Go.Proofs.YtalklhbdpmggjaaDoor.Pw
open Go Wd Px Mat
set_option linter.unusedVariables false
set_option linter.unusedSimpArgs false
set_option maxRecDepth 100000
set_option maxHeartbeats 8000000
attribute [local irreducible] Int.tmod Int.tdiv
theorem parse_007 : Sound Tryd.prog 31 [bytes [48, 48, 55]] (.tup [N [], I 3]) :=
  runL tok mixed [] 100 3 Good.nil (by kernel_rfl)
theorem dg1 (n : Int) (h : 0 < n) (h' : n < 1000000000) : dg n = [n] := by
  rw [dg_pos h, show n / 1000000000 = 0 by omega, show n % 1000000000 = n by omega, dg_zero]
theorem dg2 (n : Int) (h : 1000000000 ≤ n) (h' : n < 1000000000000000000) : dg n = [n % 1000000000, n / 1000000000] := by
  rw [dg_pos (by omega), dg1 (n / 1000000000) (by omega) (by omega)]
theorem n_of : ofS 1000000007 = ([7, 1], 0) := by
  unfold ofS; rw [if_neg (by decide), dg2 _ (by decide) (by decide)]; rfl
theorem n_mul : mulS [7, 1] [3] = ([21, 3], 0) := by
  unfold mulS; rw [if_pos (by decide), show val [7, 1] * val [3] = 3000000021 by decide]
  unfold Px.fitS; rw [if_pos (by decide), dg2 _ (by decide) (by decide)]; rfl
theorem n_div : divS [21, 3] [4] = ([750000005], [1], 0) := by
  unfold divS; rw [if_pos (by decide), if_neg (by decide), show val [21, 3] = 3000000021 by decide, show val [4] = 4 by decide, show (3000000021 / 4 : Int) = 750000005 by decide, show (3000000021 % 4 : Int) = 1 by decide, dg1 _ (by decide) (by decide), dg1 _ (by decide) (by decide)]
theorem n_gcd : gcdS [12] [18] = ([6], 0) := by
  unfold gcdS; rw [if_pos (by decide), show val [12] = 12 by decide, show val [18] = 18 by decide, show gcdI 12 18 = 6 by decide, dg1 _ (by decide) (by decide)]
theorem awake02.c : Sound Tryd.prog 21 [] (B true) := by
  have c1 := nat_Of.c 1000000007 (by decide)
  rw [n_of] at c1
  have c2 := nat_Mul.c [7, 1] [3]
  rw [n_mul] at c2
  have c3 := nat_DivMod.c [21, 3] [4]
  rw [n_div] at c3
  have c4 := nat_Gcd.c [12] [18]
  rw [n_gcd] at c4
  have s : ∀ a, Sound Tryd.prog 24 [N a, N a] (B true) := fun a => by
    have := ref_Same.c a a
    rwa [decide_eq_true rfl] at this
  exact runL tok mixed [34, 22, 25, 27, 30, 31, 24] 200 3 (Good.cons c1 (Good.cons c2 (Good.cons c3 (Good.cons c4 (Good.cons text_two (Good.cons parse_007 (Good.cons (s [21, 3]) (Good.cons (s [750000005]) (Good.cons (s [1]) (Good.cons (s [6]) Good.nil)))))))))) (by kernel_rfl)
end Go.Proofs.YtalklhbdpmggjaaDoor.Pw
namespace Go.Proofs.YtalklhbdpmggjaaDoor.Pw
open Go Wd Px Mat
set_option linter.unusedVariables false
set_option linter.unusedSimpArgs false
set_option maxRecDepth 100000
set_option maxHeartbeats 8000000
attribute [local irreducible] Int.tmod Int.tdiv
def fewS (a b : List Int) : Bool := decide ((a.length : Int) ≤ 100) && decide ((b.length : Int) ≤ 100)
theorem few02.c (a b : List Int) : Sound Tryd.prog 20 [N a, N b] (B (fewS a b)) := by
  unfold fewS
  by_cases h1 : (a.length : Int) ≤ 100 <;> by_cases h2 : (b.length : Int) ≤ 100
  all_goals
    simp only [h1, h2, decide_true, decide_false, Bool.false_and, Bool.true_and]
    refine Sound.of_WP tok Tryd.func20 rfl rfl ?_; simp only [Tryd.f20, args0, List.map, List.length_cons, List.length_nil, Nat.reduceAdd, Nat.reduceSub, List.replicate, List.cons_append, List.nil_append]
    repeat' (first | refine WP_seq ?_ | refine WP_block ?_ | (refine WP_R 64 (by decide) fun KQ hKQ => ?_) | (refine WP_D 64 (by decide) ?_ fun KQ hKQ => ?_; (focus kernel_rfl)) | ((first | (refine opsW_op rfl rfl rfl ?_ rfl ?_; (first | exact trivial | omega | (dsimp only; omega) | (dsimp only; exact ⟨by omega, by omega, by omega⟩) | (simp only [Mid.len, Blk.cells, List.length_map, List.length_set, List.length_replicate, List.length_append, Nat.mul_one, Nat.zero_add, reduceCtorEq, List.length_cons, List.length_nil, List.length_take, List.length_drop, true_and, and_true, false_implies, implies_true]; first | done | omega) | (simp; done) | (simp; omega) | grind))); (try simp only [Mid.get, Mid.set, mx_fold, PV.flat, flats, nrm1, nrm, Bool.true_and, Bool.and_true, Bool.and_self, ev, List.replicate, Option.map_some, Option.bind_some, Nat.reduceBEq, beq_self_eq_true, setD, List.set, puts, put, del, cellsTo, cells1, allP, lay, putIn, joinB, sub, overB, rep, Blk.mk, AV.cells, List.map, List.drop, List.take, List.cons_append, List.nil_append, List.append_nil, List.getD_cons_succ, List.getD_cons_zero, if_true, if_false, Bool.false_eq_true, reduceIte, wrap_i64, getI, takeI, dropI, setI, repI, Nat.mul_one, Nat.one_mul, Nat.zero_add, Nat.add_zero, Nat.zero_mul, Int.toNat_natCast, Int.reduceNeg, Int.reduceToNat, Nat.reduceAdd, Nat.reduceMul, Nat.reduceSub, decide_true, decide_false, Bool.not_true, Bool.not_false, cond_true, cond_false, gt_iff_lt, ge_iff_le, Int.reduceLT, Int.reduceLE, Int.lt_irrefl, Int.le_refl, List.length_set, List.length_map, *])) | (refine opsW_skip rfl ?_; simp only [setD, List.set]) | (refine opsW_nil ⟨?_, hKQ _ _ _ ?_⟩; (focus kernel_rfl); clear hKQ KQ; try simp only [seqK, blockK, loopG, List.length_cons, List.length_nil, Nat.reduceAdd, Nat.reduceMul]) | (refine opsW_nil (hKQ _ _ _ ?_); clear hKQ KQ; try simp only [seqK, blockK, loopG, List.length_cons, List.length_nil, Nat.reduceAdd, Nat.reduceMul]) | (refine WP_cond (t := true) rfl ?_; simp only [if_true]) | (refine WP_cond (t := false) rfl ?_; simp only [if_false, Bool.false_eq_true]) | (refine WP_skip ?_; simp only [seqK, blockK, loopG]) | (refine WP_ret ?_; simp only [seqK, blockK, loopG, Fin]) | (refine WP_exit ?_; simp only [seqK, blockK, loopG, reduceIte, Nat.reduceEqDiff]))
    (simp only [List.take_take, Nat.min_self, List.nil_append, Int.toNat_natCast, take_set_len, get, dropI, takeI, List.drop_zero, List.take_length, Nat.mul_one, Nat.reduceBEq, cond_true, cond_false, beq_self_eq_true, Option.map_some, Option.bind_some, Res, resAll, resOne, Fin, pack, frz, frzs, nrm1, nrm, Option.bind, Option.map, List.getD_cons_succ, List.getD_cons_zero, List.map, true_and, and_self, and_true]; first | exact ⟨_, rfl⟩ | (refine ⟨_, Option.some_inj.2 (Prod.ext ?_ rfl)⟩; simp only [List.take_take, Nat.min_self, List.nil_append, List.take_length, List.length_take, List.length_set, List.length_append, List.length_replicate, List.length_cons, List.length_nil, takeI, repI, setI, PV.tup.injEq, PV.lst.injEq, List.cons.injEq, and_true, true_and, *] <;> first | done | omega | (refine ⟨?_, ?_⟩ <;> first | rfl | omega)))
theorem mul_cases (a b : List Int) : (mulS a b).2 = 0 ∨ (mulS a b).2 = 2 ∨ (mulS a b).2 = 3 := by
  unfold mulS Px.fitS; split <;> (try split) <;> simp
theorem add_cases (a b : List Int) : (addS a b).2 = 0 ∨ (addS a b).2 = 2 ∨ (addS a b).2 = 3 := by
  unfold addS Px.fitS; split <;> (try split) <;> simp
theorem sub_cases (a b : List Int) : (subS a b).2 = 0 ∨ (subS a b).2 = 1 ∨ (subS a b).2 = 3 := by
  unfold subS; split <;> (try split) <;> simp
theorem gcd_cases (a b : List Int) : (gcdS a b).2 = 0 ∨ (gcdS a b).2 = 3 := by
  unfold gcdS; split <;> simp
theorem div_cases (a b : List Int) : (divS a b).2.2 = 0 ∨ (divS a b).2.2 = 16 ∨ (divS a b).2.2 = 3 := by
  unfold divS; split <;> (try split) <;> simp
theorem cmp_cases (a b : List Int) : ncmpS a b = (-1, 0) ∨ ncmpS a b = (0, 0) ∨ ncmpS a b = (1, 0) ∨ ncmpS a b = (0, 3) := by
  unfold ncmpS cmpS; split <;> (try split) <;> (try split) <;> simp
theorem same02 (a : List Int) : Sound Tryd.prog 24 [N a, N a] (B true) := by
  have := ref_Same.c a a
  rwa [decide_eq_true rfl] at this
theorem NatProducts.c (a b : List Int) : Sound Tryd.prog 3 [N a, N b] (B true) := by
  have c0 := few02.c a b
  cases hf : fewS a b <;> rw [hf] at c0
  · exact runL tok mixed [20, 21] 100 3 (Good.cons c0 (Good.cons awake02.c Good.nil)) (by kernel_rfl)
  · have c1 := nat_Mul.c a b
    have c2 := ref_Mul.c a b
    have h := mul_cases a b
    generalize mulS a b = z at *
    obtain ⟨z, e⟩ := z
    have s := same02 z
    dsimp only at h
    rcases h with rfl | rfl | rfl
    all_goals exact runL tok mixed [20, 22, 23, 24, 21] 100 3 (Good.cons c0 (Good.cons c1 (Good.cons c2 (Good.cons s (Good.cons awake02.c Good.nil))))) (by kernel_rfl)
theorem NatQuotients.c (a b : List Int) : Sound Tryd.prog 4 [N a, N b] (B true) := by
  have c0 := few02.c a b
  cases hf : fewS a b <;> rw [hf] at c0
  · exact runL tok mixed [20, 21] 100 3 (Good.cons c0 (Good.cons awake02.c Good.nil)) (by kernel_rfl)
  · have c1 := nat_DivMod.c a b
    have c2 := ref_DivMod.c a b
    have h := div_cases a b
    generalize divS a b = z at *
    obtain ⟨q, r, e⟩ := z
    have s := same02 q
    have t := same02 r
    dsimp only at h
    rcases h with rfl | rfl | rfl
    all_goals exact runL tok mixed [20, 25, 26, 24, 21] 100 3 (Good.cons c0 (Good.cons c1 (Good.cons c2 (Good.cons s (Good.cons t (Good.cons awake02.c Good.nil)))))) (by kernel_rfl)
theorem NatCompares.c (a b : List Int) : Sound Tryd.prog 7 [N a, N b] (B true) := by
  have c0 := few02.c a b
  cases hf : fewS a b <;> rw [hf] at c0
  · exact runL tok mixed [20, 21] 100 3 (Good.cons c0 (Good.cons awake02.c Good.nil)) (by kernel_rfl)
  · have c1 := nat_Cmp.c a b
    have c2 := ref_Cmp.c a b
    rcases cmp_cases a b with h | h | h | h
    all_goals
      rw [h] at c1 c2
      exact runL tok mixed [20, 32, 33, 24, 21] 100 3 (Good.cons c0 (Good.cons c1 (Good.cons c2 (Good.cons awake02.c Good.nil)))) (by kernel_rfl)
theorem NatSums.c (a b : List Int) : Sound Tryd.prog 10 [N a, N b] (B true) := by
  have c0 := few02.c a b
  cases hf : fewS a b <;> rw [hf] at c0
  · exact runL tok mixed [20, 21] 100 3 (Good.cons c0 (Good.cons awake02.c Good.nil)) (by kernel_rfl)
  · have c1 := nat_Add.c a b
    have c2 := ref_Add.c a b
    have h := add_cases a b
    have c3 := nat_Sub.c a b
    have c4 := ref_Sub.c a b
    have h' := sub_cases a b
    generalize addS a b = z at *
    obtain ⟨z, e⟩ := z
    generalize subS a b = y at *
    obtain ⟨y, f⟩ := y
    have s := same02 z
    have t := same02 y
    dsimp only at h h'
    rcases h with rfl | rfl | rfl <;> rcases h' with rfl | rfl | rfl
    all_goals exact runL tok mixed [20, 41, 42, 43, 44, 24, 21] 100 3 (Good.cons c0 (Good.cons c1 (Good.cons c2 (Good.cons c3 (Good.cons c4 (Good.cons s (Good.cons t (Good.cons awake02.c Good.nil)))))))) (by kernel_rfl)
theorem NatDivisors.c (a b : List Int) : Sound Tryd.prog 5 [N a, N b] (B true) := by
  have c1 := nat_Gcd.c a b
  have c2 := ref_Gcd.c a b
  have h := gcd_cases a b
  generalize gcdS a b = z at *
  obtain ⟨z, e⟩ := z
  have s := same02 z
  dsimp only at h
  by_cases h1 : 12 < (a.length : Int)
  · refine Sound.of_WP tok Tryd.func5 rfl rfl ?_; simp only [Tryd.f5, args0, List.map, List.length_cons, List.length_nil, Nat.reduceAdd, Nat.reduceSub, List.replicate, List.cons_append, List.nil_append]
    repeat' (first | refine WP_seq ?_ | refine WP_block ?_ | (refine WP_R 64 (by decide) fun KQ hKQ => ?_) | (refine WP_D 64 (by decide) ?_ fun KQ hKQ => ?_; (focus kernel_rfl)) | ((first | (refine opsW_op rfl rfl rfl ?_ rfl ?_; (first | exact trivial | omega | (dsimp only; omega) | (dsimp only; exact ⟨by omega, by omega, by omega⟩) | (simp only [Mid.len, Blk.cells, List.length_map, List.length_set, List.length_replicate, List.length_append, Nat.mul_one, Nat.zero_add, reduceCtorEq, List.length_cons, List.length_nil, List.length_take, List.length_drop, true_and, and_true, false_implies, implies_true]; first | done | omega) | (simp; done) | (simp; omega) | grind)) | (refine opsW_callP (qs := ?_) (rd := ?_) (u := ?_) (awake02.c) rfl rfl rfl ?_ ?_ ?_ ?_ ?_; rotate_right 6; (focus rfl); (focus (first | rfl | (simp only [nrm1, nrm, List.map, List.drop_zero, Nat.mul_one, takeI, dropI, List.take_length]; done) | (simp only [nrm1, nrm, List.map, List.drop_zero, Nat.mul_one, takeI, dropI, List.take_length]; rfl))); rotate_left 1; (focus rfl); (focus rfl); rotate_right 0)); (try simp only [Mid.get, Mid.set, mx_fold, PV.flat, flats, nrm1, nrm, Bool.true_and, Bool.and_true, Bool.and_self, ev, List.replicate, Option.map_some, Option.bind_some, Nat.reduceBEq, beq_self_eq_true, setD, List.set, puts, put, del, cellsTo, cells1, allP, lay, putIn, joinB, sub, overB, rep, Blk.mk, AV.cells, List.map, List.drop, List.take, List.cons_append, List.nil_append, List.append_nil, List.getD_cons_succ, List.getD_cons_zero, if_true, if_false, Bool.false_eq_true, reduceIte, wrap_i64, getI, takeI, dropI, setI, repI, Nat.mul_one, Nat.one_mul, Nat.zero_add, Nat.add_zero, Nat.zero_mul, Int.toNat_natCast, Int.reduceNeg, Int.reduceToNat, Nat.reduceAdd, Nat.reduceMul, Nat.reduceSub, decide_true, decide_false, Bool.not_true, Bool.not_false, cond_true, cond_false, gt_iff_lt, ge_iff_le, Int.reduceLT, Int.reduceLE, Int.lt_irrefl, Int.le_refl, List.length_set, List.length_map, *])) | (refine opsW_skip rfl ?_; simp only [setD, List.set]) | (refine opsW_nil ⟨?_, hKQ _ _ _ ?_⟩; (focus kernel_rfl); clear hKQ KQ; try simp only [seqK, blockK, loopG, List.length_cons, List.length_nil, Nat.reduceAdd, Nat.reduceMul]) | (refine opsW_nil (hKQ _ _ _ ?_); clear hKQ KQ; try simp only [seqK, blockK, loopG, List.length_cons, List.length_nil, Nat.reduceAdd, Nat.reduceMul]) | (refine WP_cond (t := true) rfl ?_; simp only [if_true]) | (refine WP_cond (t := false) rfl ?_; simp only [if_false, Bool.false_eq_true]) | (refine WP_skip ?_; simp only [seqK, blockK, loopG]) | (refine WP_ret ?_; simp only [seqK, blockK, loopG, Fin]) | (refine WP_exit ?_; simp only [seqK, blockK, loopG, reduceIte, Nat.reduceEqDiff]))
    (simp only [List.take_take, Nat.min_self, List.nil_append, Int.toNat_natCast, take_set_len, get, dropI, takeI, List.drop_zero, List.take_length, Nat.mul_one, Nat.reduceBEq, cond_true, cond_false, beq_self_eq_true, Option.map_some, Option.bind_some, Res, resAll, resOne, Fin, pack, frz, frzs, nrm1, nrm, Option.bind, Option.map, List.getD_cons_succ, List.getD_cons_zero, List.map, true_and, and_self, and_true]; first | exact ⟨_, rfl⟩ | (refine ⟨_, Option.some_inj.2 (Prod.ext ?_ rfl)⟩; simp only [List.take_take, Nat.min_self, List.nil_append, List.take_length, List.length_take, List.length_set, List.length_append, List.length_replicate, List.length_cons, List.length_nil, takeI, repI, setI, PV.tup.injEq, PV.lst.injEq, List.cons.injEq, and_true, true_and, *] <;> first | done | omega | (refine ⟨?_, ?_⟩ <;> first | rfl | omega)))
  · by_cases h2 : 12 < (b.length : Int)
    · refine Sound.of_WP tok Tryd.func5 rfl rfl ?_; simp only [Tryd.f5, args0, List.map, List.length_cons, List.length_nil, Nat.reduceAdd, Nat.reduceSub, List.replicate, List.cons_append, List.nil_append]
      repeat' (first | refine WP_seq ?_ | refine WP_block ?_ | (refine WP_R 64 (by decide) fun KQ hKQ => ?_) | (refine WP_D 64 (by decide) ?_ fun KQ hKQ => ?_; (focus kernel_rfl)) | ((first | (refine opsW_op rfl rfl rfl ?_ rfl ?_; (first | exact trivial | omega | (dsimp only; omega) | (dsimp only; exact ⟨by omega, by omega, by omega⟩) | (simp only [Mid.len, Blk.cells, List.length_map, List.length_set, List.length_replicate, List.length_append, Nat.mul_one, Nat.zero_add, reduceCtorEq, List.length_cons, List.length_nil, List.length_take, List.length_drop, true_and, and_true, false_implies, implies_true]; first | done | omega) | (simp; done) | (simp; omega) | grind)) | (refine opsW_callP (qs := ?_) (rd := ?_) (u := ?_) (awake02.c) rfl rfl rfl ?_ ?_ ?_ ?_ ?_; rotate_right 6; (focus rfl); (focus (first | rfl | (simp only [nrm1, nrm, List.map, List.drop_zero, Nat.mul_one, takeI, dropI, List.take_length]; done) | (simp only [nrm1, nrm, List.map, List.drop_zero, Nat.mul_one, takeI, dropI, List.take_length]; rfl))); rotate_left 1; (focus rfl); (focus rfl); rotate_right 0)); (try simp only [Mid.get, Mid.set, mx_fold, PV.flat, flats, nrm1, nrm, Bool.true_and, Bool.and_true, Bool.and_self, ev, List.replicate, Option.map_some, Option.bind_some, Nat.reduceBEq, beq_self_eq_true, setD, List.set, puts, put, del, cellsTo, cells1, allP, lay, putIn, joinB, sub, overB, rep, Blk.mk, AV.cells, List.map, List.drop, List.take, List.cons_append, List.nil_append, List.append_nil, List.getD_cons_succ, List.getD_cons_zero, if_true, if_false, Bool.false_eq_true, reduceIte, wrap_i64, getI, takeI, dropI, setI, repI, Nat.mul_one, Nat.one_mul, Nat.zero_add, Nat.add_zero, Nat.zero_mul, Int.toNat_natCast, Int.reduceNeg, Int.reduceToNat, Nat.reduceAdd, Nat.reduceMul, Nat.reduceSub, decide_true, decide_false, Bool.not_true, Bool.not_false, cond_true, cond_false, gt_iff_lt, ge_iff_le, Int.reduceLT, Int.reduceLE, Int.lt_irrefl, Int.le_refl, List.length_set, List.length_map, *])) | (refine opsW_skip rfl ?_; simp only [setD, List.set]) | (refine opsW_nil ⟨?_, hKQ _ _ _ ?_⟩; (focus kernel_rfl); clear hKQ KQ; try simp only [seqK, blockK, loopG, List.length_cons, List.length_nil, Nat.reduceAdd, Nat.reduceMul]) | (refine opsW_nil (hKQ _ _ _ ?_); clear hKQ KQ; try simp only [seqK, blockK, loopG, List.length_cons, List.length_nil, Nat.reduceAdd, Nat.reduceMul]) | (refine WP_cond (t := true) rfl ?_; simp only [if_true]) | (refine WP_cond (t := false) rfl ?_; simp only [if_false, Bool.false_eq_true]) | (refine WP_skip ?_; simp only [seqK, blockK, loopG]) | (refine WP_ret ?_; simp only [seqK, blockK, loopG, Fin]) | (refine WP_exit ?_; simp only [seqK, blockK, loopG, reduceIte, Nat.reduceEqDiff]))
      (simp only [List.take_take, Nat.min_self, List.nil_append, Int.toNat_natCast, take_set_len, get, dropI, takeI, List.drop_zero, List.take_length, Nat.mul_one, Nat.reduceBEq, cond_true, cond_false, beq_self_eq_true, Option.map_some, Option.bind_some, Res, resAll, resOne, Fin, pack, frz, frzs, nrm1, nrm, Option.bind, Option.map, List.getD_cons_succ, List.getD_cons_zero, List.map, true_and, and_self, and_true]; first | exact ⟨_, rfl⟩ | (refine ⟨_, Option.some_inj.2 (Prod.ext ?_ rfl)⟩; simp only [List.take_take, Nat.min_self, List.nil_append, List.take_length, List.length_take, List.length_set, List.length_append, List.length_replicate, List.length_cons, List.length_nil, takeI, repI, setI, PV.tup.injEq, PV.lst.injEq, List.cons.injEq, and_true, true_and, *] <;> first | done | omega | (refine ⟨?_, ?_⟩ <;> first | rfl | omega)))
    · rcases h with rfl | rfl
      all_goals
        refine Sound.of_WP tok Tryd.func5 rfl rfl ?_; simp only [Tryd.f5, args0, List.map, List.length_cons, List.length_nil, Nat.reduceAdd, Nat.reduceSub, List.replicate, List.cons_append, List.nil_append]
        repeat' (first | refine WP_seq ?_ | refine WP_block ?_ | (refine WP_R 64 (by decide) fun KQ hKQ => ?_) | (refine WP_D 64 (by decide) ?_ fun KQ hKQ => ?_; (focus kernel_rfl)) | ((first | (refine opsW_op rfl rfl rfl ?_ rfl ?_; (first | exact trivial | omega | (dsimp only; omega) | (dsimp only; exact ⟨by omega, by omega, by omega⟩) | (simp only [Mid.len, Blk.cells, List.length_map, List.length_set, List.length_replicate, List.length_append, Nat.mul_one, Nat.zero_add, reduceCtorEq, List.length_cons, List.length_nil, List.length_take, List.length_drop, true_and, and_true, false_implies, implies_true]; first | done | omega) | (simp; done) | (simp; omega) | grind)) | (refine opsW_callP (qs := ?_) (rd := ?_) (u := ?_) (c1) rfl rfl rfl ?_ ?_ ?_ ?_ ?_; rotate_right 6; (focus rfl); (focus (first | rfl | (simp only [nrm1, nrm, List.map, List.drop_zero, Nat.mul_one, takeI, dropI, List.take_length]; done) | (simp only [nrm1, nrm, List.map, List.drop_zero, Nat.mul_one, takeI, dropI, List.take_length]; rfl))); rotate_left 1; (focus rfl); (focus rfl); rotate_right 0) | (refine opsW_callP (qs := ?_) (rd := ?_) (u := ?_) (c2) rfl rfl rfl ?_ ?_ ?_ ?_ ?_; rotate_right 6; (focus rfl); (focus (first | rfl | (simp only [nrm1, nrm, List.map, List.drop_zero, Nat.mul_one, takeI, dropI, List.take_length]; done) | (simp only [nrm1, nrm, List.map, List.drop_zero, Nat.mul_one, takeI, dropI, List.take_length]; rfl))); rotate_left 1; (focus rfl); (focus rfl); rotate_right 0) | (refine opsW_callP (qs := ?_) (rd := ?_) (u := ?_) (s) rfl rfl rfl ?_ ?_ ?_ ?_ ?_; rotate_right 6; (focus rfl); (focus (first | rfl | (simp only [nrm1, nrm, List.map, List.drop_zero, Nat.mul_one, takeI, dropI, List.take_length]; done) | (simp only [nrm1, nrm, List.map, List.drop_zero, Nat.mul_one, takeI, dropI, List.take_length]; rfl))); rotate_left 1; (focus rfl); (focus rfl); rotate_right 0) | (refine opsW_callP (qs := ?_) (rd := ?_) (u := ?_) (awake02.c) rfl rfl rfl ?_ ?_ ?_ ?_ ?_; rotate_right 6; (focus rfl); (focus (first | rfl | (simp only [nrm1, nrm, List.map, List.drop_zero, Nat.mul_one, takeI, dropI, List.take_length]; done) | (simp only [nrm1, nrm, List.map, List.drop_zero, Nat.mul_one, takeI, dropI, List.take_length]; rfl))); rotate_left 1; (focus rfl); (focus rfl); rotate_right 0)); (try simp only [Mid.get, Mid.set, mx_fold, PV.flat, flats, nrm1, nrm, Bool.true_and, Bool.and_true, Bool.and_self, ev, List.replicate, Option.map_some, Option.bind_some, Nat.reduceBEq, beq_self_eq_true, setD, List.set, puts, put, del, cellsTo, cells1, allP, lay, putIn, joinB, sub, overB, rep, Blk.mk, AV.cells, List.map, List.drop, List.take, List.cons_append, List.nil_append, List.append_nil, List.getD_cons_succ, List.getD_cons_zero, if_true, if_false, Bool.false_eq_true, reduceIte, wrap_i64, getI, takeI, dropI, setI, repI, Nat.mul_one, Nat.one_mul, Nat.zero_add, Nat.add_zero, Nat.zero_mul, Int.toNat_natCast, Int.reduceNeg, Int.reduceToNat, Nat.reduceAdd, Nat.reduceMul, Nat.reduceSub, decide_true, decide_false, Bool.not_true, Bool.not_false, cond_true, cond_false, gt_iff_lt, ge_iff_le, Int.reduceLT, Int.reduceLE, Int.lt_irrefl, Int.le_refl, List.length_set, List.length_map, *])) | (refine opsW_skip rfl ?_; simp only [setD, List.set]) | (refine opsW_nil ⟨?_, hKQ _ _ _ ?_⟩; (focus kernel_rfl); clear hKQ KQ; try simp only [seqK, blockK, loopG, List.length_cons, List.length_nil, Nat.reduceAdd, Nat.reduceMul]) | (refine opsW_nil (hKQ _ _ _ ?_); clear hKQ KQ; try simp only [seqK, blockK, loopG, List.length_cons, List.length_nil, Nat.reduceAdd, Nat.reduceMul]) | (refine WP_cond (t := true) rfl ?_; simp only [if_true]) | (refine WP_cond (t := false) rfl ?_; simp only [if_false, Bool.false_eq_true]) | (refine WP_skip ?_; simp only [seqK, blockK, loopG]) | (refine WP_ret ?_; simp only [seqK, blockK, loopG, Fin]) | (refine WP_exit ?_; simp only [seqK, blockK, loopG, reduceIte, Nat.reduceEqDiff]))
        (simp only [List.take_take, Nat.min_self, List.nil_append, Int.toNat_natCast, take_set_len, get, dropI, takeI, List.drop_zero, List.take_length, Nat.mul_one, Nat.reduceBEq, cond_true, cond_false, beq_self_eq_true, Option.map_some, Option.bind_some, Res, resAll, resOne, Fin, pack, frz, frzs, nrm1, nrm, Option.bind, Option.map, List.getD_cons_succ, List.getD_cons_zero, List.map, true_and, and_self, and_true]; first | exact ⟨_, rfl⟩ | (refine ⟨_, Option.some_inj.2 (Prod.ext ?_ rfl)⟩; simp only [List.take_take, Nat.min_self, List.nil_append, List.take_length, List.length_take, List.length_set, List.length_append, List.length_replicate, List.length_cons, List.length_nil, takeI, repI, setI, PV.tup.injEq, PV.lst.injEq, List.cons.injEq, and_true, true_and, *] <;> first | done | omega | (refine ⟨?_, ?_⟩ <;> first | rfl | omega)))
end Go.Proofs.YtalklhbdpmggjaaDoor.Pw
namespace Go.Proofs.YtalklhbdpmggjaaDoor.Pw
open Go Wd Px Mat
set_option linter.unusedVariables false
set_option linter.unusedSimpArgs false
set_option maxRecDepth 100000
set_option maxHeartbeats 8000000
attribute [local irreducible] Int.tmod Int.tdiv
def refInt_l0 : Nat → List Int → Int → Int → Option (Int × Int)
  | 0, _, _, _ => none
  | k + 1, a, n, i => if i ≥ 0 then (if n > 1125899 then some (0, 2) else (if 0 ≤ i then (if i < (a.length : Int) then refInt_l0 k a (wrap64 ((wrap64 (n * 1000000000)) + (rd a i))) (wrap64 (i - 1)) else none) else none)) else (if n > 1125899906842624 then some (0, 2) else some (n, 0))
def intS (a : List Int) : Int × Int := if okN a = true then (if 1125899906842624 < val a then (0, 2) else (val a, 0)) else (0, 3)
theorem ev_refInt (a : List Int) (ha : Ok a) : ∀ (d : Nat), d ≤ a.length → val (a.drop d) ≤ 1125899906842624 ∨ val (a.drop d) ≤ 1125900000000000000 → Ev (fun k => refInt_l0 k a (val (a.drop d)) ((d : Int) - 1)) (if 1125899906842624 < val a then (0, 2) else (val a, 0)) := by
  intro d
  induction d with
  | zero =>
    intro hd hb
    refine Ev.step (f := fun _ => some _) (fun k => ?_) (Ev.now _)
    simp only [refInt_l0]
    rw [if_neg (by omega), List.drop_zero]
    split <;> rfl
  | succ d ih =>
    intro hd hb
    have e1 : (((d + 1 : Nat) : Int) - 1) = d := by omega
    have hda := val_drop (l := a) (i := (d : Int)) (by omega) (by omega)
    have ed : ((d : Int)).toNat = d := by omega
    rw [ed] at hda
    have h1 := val_nonneg (ha.2.1.drop (d + 1))
    have hr := ha.2.1.rd d
    have hl := ha.1
    by_cases hn : val (a.drop (d + 1)) > 1125899
    · have hs := val_split a (d + 1) (by omega)
      have h0 := val_nonneg (ha.2.1.take (d + 1))
      have hp : (1000000000 : Int) ≤ pw (d + 1) := by have := pw_le (m := 1) (n := d + 1) (by omega); rwa [pw_one] at this
      have hm : 1000000000 * 1125900 ≤ pw (d + 1) * val (a.drop (d + 1)) := Int.mul_le_mul hp (by omega) (by omega) (by omega)
      refine Ev.step (f := fun _ => some _) (fun k => ?_) (Ev.now _)
      simp only [refInt_l0]
      rw [e1, if_pos (by omega), if_pos hn, if_pos (by omega)]
    · refine Ev.step (fun k => ?_) (ih (by omega) (.inr (by omega)))
      simp only [refInt_l0]
      rw [e1, if_pos (by omega), if_neg hn, if_pos (by omega), if_pos (by omega), w64 (x := val (a.drop (d + 1)) * 1000000000) (by omega) (by omega), w64 (by omega) (by omega), w64 (x := (d : Int) - 1) (by omega) (by omega), hda]
      congr 1; omega
theorem ref_Int.snd (k : Nat) (a : List Int) (r e : Int) (h : refInt_l0 k a 0 (wrap64 ((a.length : Int) - 1)) = some (r, e)) (hv : okN a = true) : Sound Tryd.prog 37 [N a] (.tup [I r, I e]) := by
  have c1 := ref_Valid.c a
  rw [hv] at c1
  refine Sound.of_WP tok Tryd.func37 rfl rfl ?_; simp only [Tryd.f37, args0, List.map, List.length_cons, List.length_nil, Nat.reduceAdd, Nat.reduceSub, List.replicate, List.cons_append, List.nil_append]
  repeat' (first | refine WP_seq ?_ | refine WP_block ?_ | (refine WP_R 64 (by decide) fun KQ hKQ => ?_) | (refine WP_D 64 (by decide) ?_ fun KQ hKQ => ?_; (focus kernel_rfl)) | ((first | (refine opsW_op rfl rfl rfl ?_ rfl ?_; (first | exact trivial | omega | (dsimp only; omega) | (dsimp only; exact ⟨by omega, by omega, by omega⟩) | (simp only [Mid.len, Blk.cells, List.length_map, List.length_set, List.length_replicate, List.length_append, Nat.mul_one, Nat.zero_add, reduceCtorEq, List.length_cons, List.length_nil, List.length_take, List.length_drop, true_and, and_true, false_implies, implies_true]; first | done | omega) | (simp; done) | (simp; omega) | grind)) | (refine opsW_callP (qs := ?_) (rd := ?_) (u := ?_) (c1) rfl rfl rfl ?_ ?_ ?_ ?_ ?_; rotate_right 6; (focus rfl); (focus (first | rfl | (simp only [nrm1, nrm, List.map, List.drop_zero, Nat.mul_one, takeI, dropI, List.take_length]; done) | (simp only [nrm1, nrm, List.map, List.drop_zero, Nat.mul_one, takeI, dropI, List.take_length]; rfl))); rotate_left 1; (focus rfl); (focus rfl); rotate_right 0)); (try simp only [Mid.get, Mid.set, mx_fold, PV.flat, flats, nrm1, nrm, Bool.true_and, Bool.and_true, Bool.and_self, ev, List.replicate, Option.map_some, Option.bind_some, Nat.reduceBEq, beq_self_eq_true, setD, List.set, puts, put, del, cellsTo, cells1, allP, lay, putIn, joinB, sub, overB, rep, Blk.mk, AV.cells, List.map, List.drop, List.take, List.cons_append, List.nil_append, List.append_nil, List.getD_cons_succ, List.getD_cons_zero, if_true, if_false, Bool.false_eq_true, reduceIte, wrap_i64, getI, takeI, dropI, setI, repI, Nat.mul_one, Nat.one_mul, Nat.zero_add, Nat.add_zero, Nat.zero_mul, Int.toNat_natCast, Int.reduceNeg, Int.reduceToNat, Nat.reduceAdd, Nat.reduceMul, Nat.reduceSub, decide_true, decide_false, Bool.not_true, Bool.not_false, cond_true, cond_false, gt_iff_lt, ge_iff_le, Int.reduceLT, Int.reduceLE, Int.lt_irrefl, Int.le_refl, List.length_set, List.length_map, *])) | (refine opsW_skip rfl ?_; simp only [setD, List.set]) | (refine opsW_nil ⟨?_, hKQ _ _ _ ?_⟩; (focus kernel_rfl); clear hKQ KQ; try simp only [seqK, blockK, loopG, List.length_cons, List.length_nil, Nat.reduceAdd, Nat.reduceMul]) | (refine opsW_nil (hKQ _ _ _ ?_); clear hKQ KQ; try simp only [seqK, blockK, loopG, List.length_cons, List.length_nil, Nat.reduceAdd, Nat.reduceMul]) | (refine WP_cond (t := true) rfl ?_; simp only [if_true]) | (refine WP_cond (t := false) rfl ?_; simp only [if_false, Bool.false_eq_true]) | (refine WP_skip ?_; simp only [seqK, blockK, loopG]) | (refine WP_ret ?_; simp only [seqK, blockK, loopG, Fin]) | (refine WP_exit ?_; simp only [seqK, blockK, loopG, reduceIte, Nat.reduceEqDiff]))
  refine WP_loop (WPL_weaken ?_ (WPL_rec (α := Int × Int) (fun k x => refInt_l0 k a x.1 x.2) (r, e) (fun x => (mkE 28 [(0, .p (N a)), (4, .p (I x.1)), (5, .p (I x.2))], [], 0)) ?_ k (_, _) h))
  · (refine Wk.auto _ rfl rfl ?_ ?_ <;> simp only [nilA, Bool.false_eq_true, reduceCtorEq, false_or, or_false, Nat.le_refl, fitS, fitE, Stands, ren, rens, rho, renB, findR, get, Blk.cells, mkE, List.replicate, List.foldl, List.set, List.any_nil, List.any_cons, Bool.or_false, Bool.false_or, beq_self_eq_true, Nat.reduceBEq, Nat.blt_eq, Nat.not_lt_zero, decide_false, cond_true, cond_false, if_true, if_false, reduceIte, Nat.reduceEqDiff, Nat.reduceLT, List.length_set, List.length_append, List.length_replicate, List.length_cons, List.length_nil, List.map, true_or, or_true, and_true, true_and, and_self, Nat.reduceLeDiff, *] <;> (try (first | done | (simp; done) | omega)))
  · clear h; try clear k
    intro k ⟨x1, x2⟩ K ih h
    simp only [mkE, List.replicate, List.foldl, List.set]
    cases k with
    | zero => simp [refInt_l0] at h
    | succ k =>
      simp only [refInt_l0] at h
      repeat' (first | (simp only [if_true, if_false, Bool.false_eq_true, Bool.not_true, Bool.not_false, reduceIte] at h) | (split at h) | (rw [Option.bind_eq_some_iff] at h; obtain ⟨_, hbb, h⟩ := h; try (simp only [Option.some.injEq] at hbb; subst hbb)) | (cases h; done) | (simp only [Option.some.injEq, Prod.mk.injEq] at h; subst h) | (simp only [Option.some.injEq, Prod.mk.injEq] at h; (have h1 := h.1; have h2 := h.2; clear h; subst h1; first | subst h2 | (obtain ⟨h3, h4⟩ := h2; subst h3; subst h4))))
      all_goals
        repeat' (first | refine WP_seq ?_ | refine WP_block ?_ | (refine WP_R 64 (by decide) fun KQ hKQ => ?_) | (refine WP_D 64 (by decide) ?_ fun KQ hKQ => ?_; (focus kernel_rfl)) | ((first | (refine opsW_op rfl rfl rfl ?_ rfl ?_; (first | exact trivial | omega | (dsimp only; omega) | (dsimp only; exact ⟨by omega, by omega, by omega⟩) | (simp only [Mid.len, Blk.cells, List.length_map, List.length_set, List.length_replicate, List.length_append, Nat.mul_one, Nat.zero_add, reduceCtorEq, List.length_cons, List.length_nil, List.length_take, List.length_drop, true_and, and_true, false_implies, implies_true]; first | done | omega) | (simp; done) | (simp; omega) | grind))); (try simp only [Mid.get, Mid.set, mx_fold, PV.flat, flats, nrm1, nrm, Bool.true_and, Bool.and_true, Bool.and_self, ev, List.replicate, Option.map_some, Option.bind_some, Nat.reduceBEq, beq_self_eq_true, setD, List.set, puts, put, del, cellsTo, cells1, allP, lay, putIn, joinB, sub, overB, rep, Blk.mk, AV.cells, List.map, List.drop, List.take, List.cons_append, List.nil_append, List.append_nil, List.getD_cons_succ, List.getD_cons_zero, if_true, if_false, Bool.false_eq_true, reduceIte, wrap_i64, getI, takeI, dropI, setI, repI, Nat.mul_one, Nat.one_mul, Nat.zero_add, Nat.add_zero, Nat.zero_mul, Int.toNat_natCast, Int.reduceNeg, Int.reduceToNat, Nat.reduceAdd, Nat.reduceMul, Nat.reduceSub, decide_true, decide_false, Bool.not_true, Bool.not_false, cond_true, cond_false, gt_iff_lt, ge_iff_le, Int.reduceLT, Int.reduceLE, Int.lt_irrefl, Int.le_refl, List.length_set, List.length_map, *])) | (refine opsW_skip rfl ?_; simp only [setD, List.set]) | (refine opsW_nil ⟨?_, hKQ _ _ _ ?_⟩; (focus kernel_rfl); clear hKQ KQ; try simp only [seqK, blockK, loopG, List.length_cons, List.length_nil, Nat.reduceAdd, Nat.reduceMul]) | (refine opsW_nil (hKQ _ _ _ ?_); clear hKQ KQ; try simp only [seqK, blockK, loopG, List.length_cons, List.length_nil, Nat.reduceAdd, Nat.reduceMul]) | (refine WP_cond (t := true) rfl ?_; simp only [if_true]) | (refine WP_cond (t := false) rfl ?_; simp only [if_false, Bool.false_eq_true]) | (refine WP_skip ?_; simp only [seqK, blockK, loopG]) | (refine WP_ret ?_; simp only [seqK, blockK, loopG, Fin]) | (refine WP_exit ?_; simp only [seqK, blockK, loopG, reduceIte, Nat.reduceEqDiff]))
        first
        | (simp only [List.take_take, Nat.min_self, List.nil_append, Int.toNat_natCast, take_set_len, get, dropI, takeI, List.drop_zero, List.take_length, Nat.mul_one, Nat.reduceBEq, cond_true, cond_false, beq_self_eq_true, Option.map_some, Option.bind_some, Res, resAll, resOne, Fin, pack, frz, frzs, nrm1, nrm, Option.bind, Option.map, List.getD_cons_succ, List.getD_cons_zero, List.map, true_and, and_self, and_true]; first | exact ⟨_, rfl⟩ | (refine ⟨_, Option.some_inj.2 (Prod.ext ?_ rfl)⟩; simp only [List.take_take, Nat.min_self, List.nil_append, List.take_length, List.length_take, List.length_set, List.length_append, List.length_replicate, List.length_cons, List.length_nil, takeI, repI, setI, PV.tup.injEq, PV.lst.injEq, List.cons.injEq, and_true, true_and, *] <;> first | done | omega | (refine ⟨?_, ?_⟩ <;> first | rfl | omega)))
        | (refine ih _ _ _ _ (_, _) (Nat.lt_succ_self _) h ?_; (refine Wk.auto _ rfl rfl ?_ ?_ <;> simp only [nilA, Bool.false_eq_true, reduceCtorEq, false_or, or_false, Nat.le_refl, fitS, fitE, Stands, ren, rens, rho, renB, findR, get, Blk.cells, mkE, List.replicate, List.foldl, List.set, List.any_nil, List.any_cons, Bool.or_false, Bool.false_or, beq_self_eq_true, Nat.reduceBEq, Nat.blt_eq, Nat.not_lt_zero, decide_false, cond_true, cond_false, if_true, if_false, reduceIte, Nat.reduceEqDiff, Nat.reduceLT, List.length_set, List.length_append, List.length_replicate, List.length_cons, List.length_nil, List.map, true_or, or_true, and_true, true_and, and_self, Nat.reduceLeDiff, *] <;> (try (first | done | (simp; done) | omega))))
theorem ref_Int.c (a : List Int) : Sound Tryd.prog 37 [N a] (.tup [I (intS a).1, I (intS a).2]) := by
  unfold intS
  by_cases ha : okN a = true
  · rw [if_pos ha]
    have hk := okN_iff.1 ha
    have e := ev_refInt a hk a.length (Nat.le_refl _) (.inl (by simp [val]))
    rw [List.drop_length] at e
    have hl := hk.1
    rw [show (a.length : Int) - 1 = wrap64 ((a.length : Int) - 1) from (w64 (by omega) (by omega)).symm] at e
    exact e.rounds.elim fun k h => ref_Int.snd k a _ _ h ha
  · rw [if_neg ha]
    have c1 := ref_Valid.c a
    replace ha : okN a = false := by simpa using ha
    rw [ha] at c1
    refine Sound.of_WP tok Tryd.func37 rfl rfl ?_; simp only [Tryd.f37, args0, List.map, List.length_cons, List.length_nil, Nat.reduceAdd, Nat.reduceSub, List.replicate, List.cons_append, List.nil_append]
    repeat' (first | refine WP_seq ?_ | refine WP_block ?_ | (refine WP_R 64 (by decide) fun KQ hKQ => ?_) | (refine WP_D 64 (by decide) ?_ fun KQ hKQ => ?_; (focus kernel_rfl)) | ((first | (refine opsW_op rfl rfl rfl ?_ rfl ?_; (first | exact trivial | omega | (dsimp only; omega) | (dsimp only; exact ⟨by omega, by omega, by omega⟩) | (simp only [Mid.len, Blk.cells, List.length_map, List.length_set, List.length_replicate, List.length_append, Nat.mul_one, Nat.zero_add, reduceCtorEq, List.length_cons, List.length_nil, List.length_take, List.length_drop, true_and, and_true, false_implies, implies_true]; first | done | omega) | (simp; done) | (simp; omega) | grind)) | (refine opsW_callP (qs := ?_) (rd := ?_) (u := ?_) (c1) rfl rfl rfl ?_ ?_ ?_ ?_ ?_; rotate_right 6; (focus rfl); (focus (first | rfl | (simp only [nrm1, nrm, List.map, List.drop_zero, Nat.mul_one, takeI, dropI, List.take_length]; done) | (simp only [nrm1, nrm, List.map, List.drop_zero, Nat.mul_one, takeI, dropI, List.take_length]; rfl))); rotate_left 1; (focus rfl); (focus rfl); rotate_right 0)); (try simp only [Mid.get, Mid.set, mx_fold, PV.flat, flats, nrm1, nrm, Bool.true_and, Bool.and_true, Bool.and_self, ev, List.replicate, Option.map_some, Option.bind_some, Nat.reduceBEq, beq_self_eq_true, setD, List.set, puts, put, del, cellsTo, cells1, allP, lay, putIn, joinB, sub, overB, rep, Blk.mk, AV.cells, List.map, List.drop, List.take, List.cons_append, List.nil_append, List.append_nil, List.getD_cons_succ, List.getD_cons_zero, if_true, if_false, Bool.false_eq_true, reduceIte, wrap_i64, getI, takeI, dropI, setI, repI, Nat.mul_one, Nat.one_mul, Nat.zero_add, Nat.add_zero, Nat.zero_mul, Int.toNat_natCast, Int.reduceNeg, Int.reduceToNat, Nat.reduceAdd, Nat.reduceMul, Nat.reduceSub, decide_true, decide_false, Bool.not_true, Bool.not_false, cond_true, cond_false, gt_iff_lt, ge_iff_le, Int.reduceLT, Int.reduceLE, Int.lt_irrefl, Int.le_refl, List.length_set, List.length_map, *])) | (refine opsW_skip rfl ?_; simp only [setD, List.set]) | (refine opsW_nil ⟨?_, hKQ _ _ _ ?_⟩; (focus kernel_rfl); clear hKQ KQ; try simp only [seqK, blockK, loopG, List.length_cons, List.length_nil, Nat.reduceAdd, Nat.reduceMul]) | (refine opsW_nil (hKQ _ _ _ ?_); clear hKQ KQ; try simp only [seqK, blockK, loopG, List.length_cons, List.length_nil, Nat.reduceAdd, Nat.reduceMul]) | (refine WP_cond (t := true) rfl ?_; simp only [if_true]) | (refine WP_cond (t := false) rfl ?_; simp only [if_false, Bool.false_eq_true]) | (refine WP_skip ?_; simp only [seqK, blockK, loopG]) | (refine WP_ret ?_; simp only [seqK, blockK, loopG, Fin]) | (refine WP_exit ?_; simp only [seqK, blockK, loopG, reduceIte, Nat.reduceEqDiff]))
    (simp only [List.take_take, Nat.min_self, List.nil_append, Int.toNat_natCast, take_set_len, get, dropI, takeI, List.drop_zero, List.take_length, Nat.mul_one, Nat.reduceBEq, cond_true, cond_false, beq_self_eq_true, Option.map_some, Option.bind_some, Res, resAll, resOne, Fin, pack, frz, frzs, nrm1, nrm, Option.bind, Option.map, List.getD_cons_succ, List.getD_cons_zero, List.map, true_and, and_self, and_true]; first | exact ⟨_, rfl⟩ | (refine ⟨_, Option.some_inj.2 (Prod.ext ?_ rfl)⟩; simp only [List.take_take, Nat.min_self, List.nil_append, List.take_length, List.length_take, List.length_set, List.length_append, List.length_replicate, List.length_cons, List.length_nil, takeI, repI, setI, PV.tup.injEq, PV.lst.injEq, List.cons.injEq, and_true, true_and, *] <;> first | done | omega | (refine ⟨?_, ?_⟩ <;> first | rfl | omega)))
end Go.Proofs.YtalklhbdpmggjaaDoor.Pw
namespace Go.Proofs.YtalklhbdpmggjaaDoor.Pw
open Go Wd Px Mat
set_option linter.unusedVariables false
set_option linter.unusedSimpArgs false
set_option maxRecDepth 100000
set_option maxHeartbeats 8000000
attribute [local irreducible] Int.tmod Int.tdiv
theorem nat_small.c (a : List Int) (ha : Dig a) (hl : a.length ≤ 2) : Sound Tryd.prog 83 [N a] (I (val a)) := (ev_small a ha hl).rounds.elim fun k h => nat_small.snd k a _ h
theorem nat_Int.c (a : List Int) : Sound Tryd.prog 36 [N a] (.tup [I (intS a).1, I (intS a).2]) := by
  have c1 := nat_Valid.c a
  unfold intS
  by_cases ha : okN a = true
  · rw [ha] at c1
    rw [if_pos ha]
    by_cases hl : 2 < a.length
    · have hl' : (2 : Int) < a.length := by omega
      have hb : 1125899906842624 < val a := by
        have := len_le (okN_iff.1 ha).2 (n := 2)
        rw [pw_two] at this; omega
      rw [if_pos hb]
      refine Sound.of_WP tok Tryd.func36 rfl rfl ?_; simp only [Tryd.f36, args0, List.map, List.length_cons, List.length_nil, Nat.reduceAdd, Nat.reduceSub, List.replicate, List.cons_append, List.nil_append]
      repeat' (first | refine WP_seq ?_ | refine WP_block ?_ | (refine WP_R 64 (by decide) fun KQ hKQ => ?_) | (refine WP_D 64 (by decide) ?_ fun KQ hKQ => ?_; (focus kernel_rfl)) | ((first | (refine opsW_op rfl rfl rfl ?_ rfl ?_; (first | exact trivial | omega | (dsimp only; omega) | (dsimp only; exact ⟨by omega, by omega, by omega⟩) | (simp only [Mid.len, Blk.cells, List.length_map, List.length_set, List.length_replicate, List.length_append, Nat.mul_one, Nat.zero_add, reduceCtorEq, List.length_cons, List.length_nil, List.length_take, List.length_drop, true_and, and_true, false_implies, implies_true]; first | done | omega) | (simp; done) | (simp; omega) | grind)) | (refine opsW_callP (qs := ?_) (rd := ?_) (u := ?_) (c1) rfl rfl rfl ?_ ?_ ?_ ?_ ?_; rotate_right 6; (focus rfl); (focus (first | rfl | (simp only [nrm1, nrm, List.map, List.drop_zero, Nat.mul_one, takeI, dropI, List.take_length]; done) | (simp only [nrm1, nrm, List.map, List.drop_zero, Nat.mul_one, takeI, dropI, List.take_length]; rfl))); rotate_left 1; (focus rfl); (focus rfl); rotate_right 0)); (try simp only [Mid.get, Mid.set, mx_fold, PV.flat, flats, nrm1, nrm, Bool.true_and, Bool.and_true, Bool.and_self, ev, List.replicate, Option.map_some, Option.bind_some, Nat.reduceBEq, beq_self_eq_true, setD, List.set, puts, put, del, cellsTo, cells1, allP, lay, putIn, joinB, sub, overB, rep, Blk.mk, AV.cells, List.map, List.drop, List.take, List.cons_append, List.nil_append, List.append_nil, List.getD_cons_succ, List.getD_cons_zero, if_true, if_false, Bool.false_eq_true, reduceIte, wrap_i64, getI, takeI, dropI, setI, repI, Nat.mul_one, Nat.one_mul, Nat.zero_add, Nat.add_zero, Nat.zero_mul, Int.toNat_natCast, Int.reduceNeg, Int.reduceToNat, Nat.reduceAdd, Nat.reduceMul, Nat.reduceSub, decide_true, decide_false, Bool.not_true, Bool.not_false, cond_true, cond_false, gt_iff_lt, ge_iff_le, Int.reduceLT, Int.reduceLE, Int.lt_irrefl, Int.le_refl, List.length_set, List.length_map, *])) | (refine opsW_skip rfl ?_; simp only [setD, List.set]) | (refine opsW_nil ⟨?_, hKQ _ _ _ ?_⟩; (focus kernel_rfl); clear hKQ KQ; try simp only [seqK, blockK, loopG, List.length_cons, List.length_nil, Nat.reduceAdd, Nat.reduceMul]) | (refine opsW_nil (hKQ _ _ _ ?_); clear hKQ KQ; try simp only [seqK, blockK, loopG, List.length_cons, List.length_nil, Nat.reduceAdd, Nat.reduceMul]) | (refine WP_cond (t := true) rfl ?_; simp only [if_true]) | (refine WP_cond (t := false) rfl ?_; simp only [if_false, Bool.false_eq_true]) | (refine WP_skip ?_; simp only [seqK, blockK, loopG]) | (refine WP_ret ?_; simp only [seqK, blockK, loopG, Fin]) | (refine WP_exit ?_; simp only [seqK, blockK, loopG, reduceIte, Nat.reduceEqDiff]))
      (simp only [List.take_take, Nat.min_self, List.nil_append, Int.toNat_natCast, take_set_len, get, dropI, takeI, List.drop_zero, List.take_length, Nat.mul_one, Nat.reduceBEq, cond_true, cond_false, beq_self_eq_true, Option.map_some, Option.bind_some, Res, resAll, resOne, Fin, pack, frz, frzs, nrm1, nrm, Option.bind, Option.map, List.getD_cons_succ, List.getD_cons_zero, List.map, true_and, and_self, and_true]; first | exact ⟨_, rfl⟩ | (refine ⟨_, Option.some_inj.2 (Prod.ext ?_ rfl)⟩; simp only [List.take_take, Nat.min_self, List.nil_append, List.take_length, List.length_take, List.length_set, List.length_append, List.length_replicate, List.length_cons, List.length_nil, takeI, repI, setI, PV.tup.injEq, PV.lst.injEq, List.cons.injEq, and_true, true_and, *] <;> first | done | omega | (refine ⟨?_, ?_⟩ <;> first | rfl | omega)))
    · have hl' : ¬ (2 : Int) < a.length := by omega
      have c2 := nat_small.c a (okN_iff.1 ha).2.1 (by omega)
      by_cases hv : 1125899906842624 < val a
      · rw [if_pos hv]
        refine Sound.of_WP tok Tryd.func36 rfl rfl ?_; simp only [Tryd.f36, args0, List.map, List.length_cons, List.length_nil, Nat.reduceAdd, Nat.reduceSub, List.replicate, List.cons_append, List.nil_append]
        repeat' (first | refine WP_seq ?_ | refine WP_block ?_ | (refine WP_R 64 (by decide) fun KQ hKQ => ?_) | (refine WP_D 64 (by decide) ?_ fun KQ hKQ => ?_; (focus kernel_rfl)) | ((first | (refine opsW_op rfl rfl rfl ?_ rfl ?_; (first | exact trivial | omega | (dsimp only; omega) | (dsimp only; exact ⟨by omega, by omega, by omega⟩) | (simp only [Mid.len, Blk.cells, List.length_map, List.length_set, List.length_replicate, List.length_append, Nat.mul_one, Nat.zero_add, reduceCtorEq, List.length_cons, List.length_nil, List.length_take, List.length_drop, true_and, and_true, false_implies, implies_true]; first | done | omega) | (simp; done) | (simp; omega) | grind)) | (refine opsW_callP (qs := ?_) (rd := ?_) (u := ?_) (c1) rfl rfl rfl ?_ ?_ ?_ ?_ ?_; rotate_right 6; (focus rfl); (focus (first | rfl | (simp only [nrm1, nrm, List.map, List.drop_zero, Nat.mul_one, takeI, dropI, List.take_length]; done) | (simp only [nrm1, nrm, List.map, List.drop_zero, Nat.mul_one, takeI, dropI, List.take_length]; rfl))); rotate_left 1; (focus rfl); (focus rfl); rotate_right 0) | (refine opsW_callP (qs := ?_) (rd := ?_) (u := ?_) (c2) rfl rfl rfl ?_ ?_ ?_ ?_ ?_; rotate_right 6; (focus rfl); (focus (first | rfl | (simp only [nrm1, nrm, List.map, List.drop_zero, Nat.mul_one, takeI, dropI, List.take_length]; done) | (simp only [nrm1, nrm, List.map, List.drop_zero, Nat.mul_one, takeI, dropI, List.take_length]; rfl))); rotate_left 1; (focus rfl); (focus rfl); rotate_right 0)); (try simp only [Mid.get, Mid.set, mx_fold, PV.flat, flats, nrm1, nrm, Bool.true_and, Bool.and_true, Bool.and_self, ev, List.replicate, Option.map_some, Option.bind_some, Nat.reduceBEq, beq_self_eq_true, setD, List.set, puts, put, del, cellsTo, cells1, allP, lay, putIn, joinB, sub, overB, rep, Blk.mk, AV.cells, List.map, List.drop, List.take, List.cons_append, List.nil_append, List.append_nil, List.getD_cons_succ, List.getD_cons_zero, if_true, if_false, Bool.false_eq_true, reduceIte, wrap_i64, getI, takeI, dropI, setI, repI, Nat.mul_one, Nat.one_mul, Nat.zero_add, Nat.add_zero, Nat.zero_mul, Int.toNat_natCast, Int.reduceNeg, Int.reduceToNat, Nat.reduceAdd, Nat.reduceMul, Nat.reduceSub, decide_true, decide_false, Bool.not_true, Bool.not_false, cond_true, cond_false, gt_iff_lt, ge_iff_le, Int.reduceLT, Int.reduceLE, Int.lt_irrefl, Int.le_refl, List.length_set, List.length_map, *])) | (refine opsW_skip rfl ?_; simp only [setD, List.set]) | (refine opsW_nil ⟨?_, hKQ _ _ _ ?_⟩; (focus kernel_rfl); clear hKQ KQ; try simp only [seqK, blockK, loopG, List.length_cons, List.length_nil, Nat.reduceAdd, Nat.reduceMul]) | (refine opsW_nil (hKQ _ _ _ ?_); clear hKQ KQ; try simp only [seqK, blockK, loopG, List.length_cons, List.length_nil, Nat.reduceAdd, Nat.reduceMul]) | (refine WP_cond (t := true) rfl ?_; simp only [if_true]) | (refine WP_cond (t := false) rfl ?_; simp only [if_false, Bool.false_eq_true]) | (refine WP_skip ?_; simp only [seqK, blockK, loopG]) | (refine WP_ret ?_; simp only [seqK, blockK, loopG, Fin]) | (refine WP_exit ?_; simp only [seqK, blockK, loopG, reduceIte, Nat.reduceEqDiff]))
        (simp only [List.take_take, Nat.min_self, List.nil_append, Int.toNat_natCast, take_set_len, get, dropI, takeI, List.drop_zero, List.take_length, Nat.mul_one, Nat.reduceBEq, cond_true, cond_false, beq_self_eq_true, Option.map_some, Option.bind_some, Res, resAll, resOne, Fin, pack, frz, frzs, nrm1, nrm, Option.bind, Option.map, List.getD_cons_succ, List.getD_cons_zero, List.map, true_and, and_self, and_true]; first | exact ⟨_, rfl⟩ | (refine ⟨_, Option.some_inj.2 (Prod.ext ?_ rfl)⟩; simp only [List.take_take, Nat.min_self, List.nil_append, List.take_length, List.length_take, List.length_set, List.length_append, List.length_replicate, List.length_cons, List.length_nil, takeI, repI, setI, PV.tup.injEq, PV.lst.injEq, List.cons.injEq, and_true, true_and, *] <;> first | done | omega | (refine ⟨?_, ?_⟩ <;> first | rfl | omega)))
      · rw [if_neg hv]
        refine Sound.of_WP tok Tryd.func36 rfl rfl ?_; simp only [Tryd.f36, args0, List.map, List.length_cons, List.length_nil, Nat.reduceAdd, Nat.reduceSub, List.replicate, List.cons_append, List.nil_append]
        repeat' (first | refine WP_seq ?_ | refine WP_block ?_ | (refine WP_R 64 (by decide) fun KQ hKQ => ?_) | (refine WP_D 64 (by decide) ?_ fun KQ hKQ => ?_; (focus kernel_rfl)) | ((first | (refine opsW_op rfl rfl rfl ?_ rfl ?_; (first | exact trivial | omega | (dsimp only; omega) | (dsimp only; exact ⟨by omega, by omega, by omega⟩) | (simp only [Mid.len, Blk.cells, List.length_map, List.length_set, List.length_replicate, List.length_append, Nat.mul_one, Nat.zero_add, reduceCtorEq, List.length_cons, List.length_nil, List.length_take, List.length_drop, true_and, and_true, false_implies, implies_true]; first | done | omega) | (simp; done) | (simp; omega) | grind)) | (refine opsW_callP (qs := ?_) (rd := ?_) (u := ?_) (c1) rfl rfl rfl ?_ ?_ ?_ ?_ ?_; rotate_right 6; (focus rfl); (focus (first | rfl | (simp only [nrm1, nrm, List.map, List.drop_zero, Nat.mul_one, takeI, dropI, List.take_length]; done) | (simp only [nrm1, nrm, List.map, List.drop_zero, Nat.mul_one, takeI, dropI, List.take_length]; rfl))); rotate_left 1; (focus rfl); (focus rfl); rotate_right 0) | (refine opsW_callP (qs := ?_) (rd := ?_) (u := ?_) (c2) rfl rfl rfl ?_ ?_ ?_ ?_ ?_; rotate_right 6; (focus rfl); (focus (first | rfl | (simp only [nrm1, nrm, List.map, List.drop_zero, Nat.mul_one, takeI, dropI, List.take_length]; done) | (simp only [nrm1, nrm, List.map, List.drop_zero, Nat.mul_one, takeI, dropI, List.take_length]; rfl))); rotate_left 1; (focus rfl); (focus rfl); rotate_right 0)); (try simp only [Mid.get, Mid.set, mx_fold, PV.flat, flats, nrm1, nrm, Bool.true_and, Bool.and_true, Bool.and_self, ev, List.replicate, Option.map_some, Option.bind_some, Nat.reduceBEq, beq_self_eq_true, setD, List.set, puts, put, del, cellsTo, cells1, allP, lay, putIn, joinB, sub, overB, rep, Blk.mk, AV.cells, List.map, List.drop, List.take, List.cons_append, List.nil_append, List.append_nil, List.getD_cons_succ, List.getD_cons_zero, if_true, if_false, Bool.false_eq_true, reduceIte, wrap_i64, getI, takeI, dropI, setI, repI, Nat.mul_one, Nat.one_mul, Nat.zero_add, Nat.add_zero, Nat.zero_mul, Int.toNat_natCast, Int.reduceNeg, Int.reduceToNat, Nat.reduceAdd, Nat.reduceMul, Nat.reduceSub, decide_true, decide_false, Bool.not_true, Bool.not_false, cond_true, cond_false, gt_iff_lt, ge_iff_le, Int.reduceLT, Int.reduceLE, Int.lt_irrefl, Int.le_refl, List.length_set, List.length_map, *])) | (refine opsW_skip rfl ?_; simp only [setD, List.set]) | (refine opsW_nil ⟨?_, hKQ _ _ _ ?_⟩; (focus kernel_rfl); clear hKQ KQ; try simp only [seqK, blockK, loopG, List.length_cons, List.length_nil, Nat.reduceAdd, Nat.reduceMul]) | (refine opsW_nil (hKQ _ _ _ ?_); clear hKQ KQ; try simp only [seqK, blockK, loopG, List.length_cons, List.length_nil, Nat.reduceAdd, Nat.reduceMul]) | (refine WP_cond (t := true) rfl ?_; simp only [if_true]) | (refine WP_cond (t := false) rfl ?_; simp only [if_false, Bool.false_eq_true]) | (refine WP_skip ?_; simp only [seqK, blockK, loopG]) | (refine WP_ret ?_; simp only [seqK, blockK, loopG, Fin]) | (refine WP_exit ?_; simp only [seqK, blockK, loopG, reduceIte, Nat.reduceEqDiff]))
        (simp only [List.take_take, Nat.min_self, List.nil_append, Int.toNat_natCast, take_set_len, get, dropI, takeI, List.drop_zero, List.take_length, Nat.mul_one, Nat.reduceBEq, cond_true, cond_false, beq_self_eq_true, Option.map_some, Option.bind_some, Res, resAll, resOne, Fin, pack, frz, frzs, nrm1, nrm, Option.bind, Option.map, List.getD_cons_succ, List.getD_cons_zero, List.map, true_and, and_self, and_true]; first | exact ⟨_, rfl⟩ | (refine ⟨_, Option.some_inj.2 (Prod.ext ?_ rfl)⟩; simp only [List.take_take, Nat.min_self, List.nil_append, List.take_length, List.length_take, List.length_set, List.length_append, List.length_replicate, List.length_cons, List.length_nil, takeI, repI, setI, PV.tup.injEq, PV.lst.injEq, List.cons.injEq, and_true, true_and, *] <;> first | done | omega | (refine ⟨?_, ?_⟩ <;> first | rfl | omega)))
  · rw [if_neg ha]
    replace ha : okN a = false := by simpa using ha
    rw [ha] at c1
    refine Sound.of_WP tok Tryd.func36 rfl rfl ?_; simp only [Tryd.f36, args0, List.map, List.length_cons, List.length_nil, Nat.reduceAdd, Nat.reduceSub, List.replicate, List.cons_append, List.nil_append]
    repeat' (first | refine WP_seq ?_ | refine WP_block ?_ | (refine WP_R 64 (by decide) fun KQ hKQ => ?_) | (refine WP_D 64 (by decide) ?_ fun KQ hKQ => ?_; (focus kernel_rfl)) | ((first | (refine opsW_op rfl rfl rfl ?_ rfl ?_; (first | exact trivial | omega | (dsimp only; omega) | (dsimp only; exact ⟨by omega, by omega, by omega⟩) | (simp only [Mid.len, Blk.cells, List.length_map, List.length_set, List.length_replicate, List.length_append, Nat.mul_one, Nat.zero_add, reduceCtorEq, List.length_cons, List.length_nil, List.length_take, List.length_drop, true_and, and_true, false_implies, implies_true]; first | done | omega) | (simp; done) | (simp; omega) | grind)) | (refine opsW_callP (qs := ?_) (rd := ?_) (u := ?_) (c1) rfl rfl rfl ?_ ?_ ?_ ?_ ?_; rotate_right 6; (focus rfl); (focus (first | rfl | (simp only [nrm1, nrm, List.map, List.drop_zero, Nat.mul_one, takeI, dropI, List.take_length]; done) | (simp only [nrm1, nrm, List.map, List.drop_zero, Nat.mul_one, takeI, dropI, List.take_length]; rfl))); rotate_left 1; (focus rfl); (focus rfl); rotate_right 0)); (try simp only [Mid.get, Mid.set, mx_fold, PV.flat, flats, nrm1, nrm, Bool.true_and, Bool.and_true, Bool.and_self, ev, List.replicate, Option.map_some, Option.bind_some, Nat.reduceBEq, beq_self_eq_true, setD, List.set, puts, put, del, cellsTo, cells1, allP, lay, putIn, joinB, sub, overB, rep, Blk.mk, AV.cells, List.map, List.drop, List.take, List.cons_append, List.nil_append, List.append_nil, List.getD_cons_succ, List.getD_cons_zero, if_true, if_false, Bool.false_eq_true, reduceIte, wrap_i64, getI, takeI, dropI, setI, repI, Nat.mul_one, Nat.one_mul, Nat.zero_add, Nat.add_zero, Nat.zero_mul, Int.toNat_natCast, Int.reduceNeg, Int.reduceToNat, Nat.reduceAdd, Nat.reduceMul, Nat.reduceSub, decide_true, decide_false, Bool.not_true, Bool.not_false, cond_true, cond_false, gt_iff_lt, ge_iff_le, Int.reduceLT, Int.reduceLE, Int.lt_irrefl, Int.le_refl, List.length_set, List.length_map, *])) | (refine opsW_skip rfl ?_; simp only [setD, List.set]) | (refine opsW_nil ⟨?_, hKQ _ _ _ ?_⟩; (focus kernel_rfl); clear hKQ KQ; try simp only [seqK, blockK, loopG, List.length_cons, List.length_nil, Nat.reduceAdd, Nat.reduceMul]) | (refine opsW_nil (hKQ _ _ _ ?_); clear hKQ KQ; try simp only [seqK, blockK, loopG, List.length_cons, List.length_nil, Nat.reduceAdd, Nat.reduceMul]) | (refine WP_cond (t := true) rfl ?_; simp only [if_true]) | (refine WP_cond (t := false) rfl ?_; simp only [if_false, Bool.false_eq_true]) | (refine WP_skip ?_; simp only [seqK, blockK, loopG]) | (refine WP_ret ?_; simp only [seqK, blockK, loopG, Fin]) | (refine WP_exit ?_; simp only [seqK, blockK, loopG, reduceIte, Nat.reduceEqDiff]))
    (simp only [List.take_take, Nat.min_self, List.nil_append, Int.toNat_natCast, take_set_len, get, dropI, takeI, List.drop_zero, List.take_length, Nat.mul_one, Nat.reduceBEq, cond_true, cond_false, beq_self_eq_true, Option.map_some, Option.bind_some, Res, resAll, resOne, Fin, pack, frz, frzs, nrm1, nrm, Option.bind, Option.map, List.getD_cons_succ, List.getD_cons_zero, List.map, true_and, and_self, and_true]; first | exact ⟨_, rfl⟩ | (refine ⟨_, Option.some_inj.2 (Prod.ext ?_ rfl)⟩; simp only [List.take_take, Nat.min_self, List.nil_append, List.take_length, List.length_take, List.length_set, List.length_append, List.length_replicate, List.length_cons, List.length_nil, takeI, repI, setI, PV.tup.injEq, PV.lst.injEq, List.cons.injEq, and_true, true_and, *] <;> first | done | omega | (refine ⟨?_, ?_⟩ <;> first | rfl | omega)))
end Go.Proofs.YtalklhbdpmggjaaDoor.Pw
namespace Go.Proofs.YtalklhbdpmggjaaDoor.Pw
open Go Go.RowKit
/-- What a run leans on: a call's contract, or a condition's truth (the n-th condition behind what was told before). -/
inductive Ob where
  | call (g : Nat) (ps : List PV) (r : PV)
  | br (n : Nat) (t v : Bool)
  | enter
  | own (g : Nat) (ps : List PV) (e : Nat → Eff)
  | val (n : Nat) (t z : Int)
inductive Tk where
  | r (x : PV)
  | b (k n : Nat) (v : Bool)
  | e
  | f (e : Nat → Eff)
  | z (k n : Nat) (z : Int)
def Ob.holds (P : Program) : Ob → Prop
  | .call g ps r => Sound P g ps r
  | .br _ t v => t = v
  | .enter => True
  | .val _ t z => t = z
  | .own g ps e => ∀ (σ : Store) (new : Nat), SoundE P 64 g (ps.map .p) σ new (e new)
def Ob.tk : Ob → Tk
  | .call _ _ r => .r r
  | .br n _ v => .b n n v
  | .enter => .e
  | .own _ _ e => .f e
  | .val n _ z => .z n n z
abbrev CallY := Nat → List AV → Stores → Nat → List Tk → Option (Eff × List Tk × List Ob)
def CallYK (P : Program) (D : Nat) (cx : CallY) : Prop := ∀ g args st new tp r, cx g args st new tp = some r → (∀ c ∈ r.2.2, c.holds P) → SoundE P D g args (get st) new r.1
def isBin : Op → Bool
  | .binOp .. => true
  | _ => false
/-- A comparison's truth may be told. -/
def asks (op : Op) (e : Eff) (tp : List Tk) : Eff × List Tk × List Ob :=
  match isBin op, e.val, tp with
  | true, .p (.v (.bool t)), .b 0 n v :: tp => (⟨.p (.v (.bool v)), e.upd, e.rd⟩, tp, [.br n t v])
  | true, .p (.v (.bool _)), .b (k + 1) n v :: tp => (e, .b k n v :: tp, [])
  | true, .p (.v (.int kd t)), .z 0 n z :: tp => (⟨.p (.v (.int kd z)), e.upd, e.rd⟩, tp, [.val n t z])
  | true, .p (.v (.int _ _)), .z (k + 1) n z :: tp => (e, .z k n z :: tp, [])
  | _, _, tp => (e, tp, [])
theorem asks_same {P : Program} {op : Op} {e : Eff} {tp : List Tk} (h : ∀ c ∈ (asks op e tp).2.2, c.holds P) : (asks op e tp).1 = e := by
  unfold asks at *
  split
  · rename_i t n v tp' hb hv
    rw [hb] at h
    simp only [hv] at h
    have e1 : t = v := h (.br n t v) (by simp)
    subst e1
    cases e; simp only at hv; subst hv; rfl
  · rfl
  · rename_i kd t n z tp' hb hv
    rw [hb] at h
    simp only [hv] at h
    have e1 : t = z := h (.val n t z) (by simp)
    subst e1
    cases e; simp only at hv; subst hv; rfl
  · rfl
  · rfl
def stepY (cx : CallY) (T : Tab) (ops : List Oper) (o : Oper) (new : Nat) (env : List AV) (st : Stores) (tp : List Tk) : Option (Eff × List Tk × List Ob) :=
  match wantA ops env o with
  | some true => match o.op with
    | .call { callee := .value f, args, argTypes := _ } => match ev env f with
      | .fn g caps => cx g (args.toList.map (ev env) ++ caps) st new tp
      | _ => none
    | op => match popB T op (ev env) (get st) new with
      | some (e, true) => some (asks op e tp)
      | _ => none
  | some false => some (⟨.p (.tup []), [], []⟩, tp, [])
  | none => none
def opsY (cx : CallY) (T : Tab) (D : Nat) (ops : List Oper) (nx : Nat) : List Oper → Nat → List AV → Stores → List Eff → List Tk → List Ob → Option (List AV × Stores × List Eff × List Tk × List Ob)
  | [], _, env, st, acc, tp, lg => some (env, st, acc, tp, lg)
  | o :: r, i, env, st, acc, tp, lg => match stepY cx T ops o (nx + D * i) env st tp with
    | some (e, tp, l1) => if e.upd.all (fun x => Nat.blt x.1 (nx + D * (i + 1))) then opsY cx T D ops nx r (i + 1) (setD env o.dst e.val) (puts st e.upd) (e :: acc) tp (lg ++ l1) else none
    | none => none
theorem stepY_sound {P : Program} {T : Tab} {D : Nat} {cx : CallY} (hcx : CallYK P D cx) {ops : List Oper} {o : Oper} {new : Nat} {env : List AV} {st : Stores} {tp : List Tk} {r : Eff × List Tk × List Ob}
    (h : stepY cx T ops o new env st tp = some r) (hg : ∀ c ∈ r.2.2, c.holds P) {K : Eff → Prop} (hK : K r.1) : stepW P T D ops o new env (get st) K := by
  unfold stepY at h
  unfold stepW
  split at h
  · rename_i hw
    rw [hw]
    dsimp only
    split at h
    · rename_i f args ts ho
      split at h
      · rename_i g caps hf
        rw [ho]
        simp only [hf]
        exact ⟨r.1, hcx _ _ _ _ _ _ h hg, hK⟩
      · cases h
    · rename_i hno
      split at h
      · rename_i e' hp
        injection h with h; subst h
        rw [asks_same hg] at hK
        split
        · rename_i f args ts ho; exact absurd ho (hno _ _ _)
        · rw [pop_eq, hp]
          exact ⟨rfl, hK⟩
      · cases h
  · rename_i hw
    rw [hw]
    injection h with h; subst h; exact hK
  · cases h
theorem opsY_log {T : Tab} {D : Nat} {cx : CallY} {ops : List Oper} {nx : Nat} : ∀ (l : List Oper) (i : Nat) (env : List AV) (st : Stores) (acc : List Eff) (tp : List Tk) (lg : List Ob) (r : List AV × Stores × List Eff × List Tk × List Ob),
    opsY cx T D ops nx l i env st acc tp lg = some r → ∀ c ∈ lg, c ∈ r.2.2.2.2
  | [], i, env, st, acc, tp, lg, r, h => by
    simp only [opsY, Option.some.injEq] at h; subst h; exact fun _ h => h
  | o :: l, i, env, st, acc, tp, lg, r, h => by
    simp only [opsY] at h
    split at h
    · split at h
      · exact fun c hc => opsY_log l _ _ _ _ _ _ r h c (List.mem_append_left _ hc)
      · cases h
    · cases h
theorem opsY_sound {P : Program} {T : Tab} {D : Nat} {cx : CallY} (hcx : CallYK P D cx) {ops : List Oper} {nx : Nat} {K : List AV → Stores → List Eff → Prop} :
    ∀ (l : List Oper) (i : Nat) (env : List AV) (st : Stores) (acc : List Eff) (tp : List Tk) (lg : List Ob) (r : List AV × Stores × List Eff × List Tk × List Ob), opsY cx T D ops nx l i env st acc tp lg = some r → (∀ c ∈ r.2.2.2.2, c.holds P) → K r.1 r.2.1 r.2.2.1 → opsW P T D ops nx l i env st acc K
  | [], i, env, st, acc, tp, lg, r, h, hg, hK => by
    simp only [opsY, Option.some.injEq] at h; subst h; exact hK
  | o :: l, i, env, st, acc, tp, lg, r, h, hg, hK => by
    simp only [opsY] at h
    split at h
    · rename_i e tp' l1 he
      split at h
      · rename_i hb
        exact stepY_sound hcx he (fun c hc => hg c (opsY_log l _ _ _ _ _ _ r h c (List.mem_append_right _ hc))) ⟨hb, opsY_sound hcx l _ _ _ _ _ _ r h hg hK⟩
      · cases h
    · cases h
structure OutY where
  x : X
  env : List AV
  st : Stores
  nx : Nat
  wr : List Nat
  tp : List Tk
  lg : List Ob
def execY (T : Tab) (D base : Nat) (cx : CallY) : Nat → Code → List AV → Stores → Nat → List Nat → List Tk → List Ob → Option OutY
  | 0, _, _, _, _, _, _, _ => none
  | n + 1, c, env, st, nx, wr, tp, lg => match c with
    | .skip => some ⟨.normal, env, st, nx, wr, tp, lg⟩
    | .exit id => some ⟨.exit id, env, st, nx, wr, tp, lg⟩
    | .ret => some ⟨.ret, env, st, nx, wr, tp, lg⟩
    | .seq a b => match execY T D base cx n a env st nx wr tp lg with
      | some ⟨.normal, env, st, nx, wr, tp, lg⟩ => execY T D base cx n b env st nx wr tp lg
      | r => r
    | .cond c a b => match ev env c with
      | .p (.v (.bool t)) => match t with
        | true => execY T D base cx n a env st nx wr tp lg
        | false => execY T D base cx n b env st nx wr tp lg
      | _ => none
    | .block id c => match execY T D base cx n c env st nx wr tp lg with
      | some ⟨.exit i, env, st, nx, wr, tp, lg⟩ => if i = id then some ⟨.normal, env, st, nx, wr, tp, lg⟩ else some ⟨.exit i, env, st, nx, wr, tp, lg⟩
      | r => r
    | .loop c => match execY T D base cx n c env st nx wr tp lg with
      | some ⟨.normal, env, st, nx, wr, tp, lg⟩ => execY T D base cx n (.loop c) env st nx wr tp lg
      | r => r
    | .region _ ops draw => match opsY cx T D ops.toList nx ops.toList 0 env st [] tp lg with
      | some (env, st, acc, tp, lg) => if !draw || (lexOK ops (befs ops.toList []) && effsOK D nx (befs ops.toList []) (acc.reverse.map fun e => (e.upd.map (·.1), e.rd))) then some ⟨.normal, env, st, nx + D * ops.size, addW base wr acc, tp, lg⟩ else none
      | none => none
    | _ => none
theorem execY_log {T : Tab} {D : Nat} {cx : CallY} {B : Nat} : ∀ (n : Nat) (c : Code) (env : List AV) (st : Stores) (nx : Nat) (wr : List Nat) (tp : List Tk) (lg : List Ob) (o : OutY), execY T D B cx n c env st nx wr tp lg = some o → ∀ c ∈ lg, c ∈ o.lg := by
  intro n
  induction n with
  | zero => intro c env st nx wr tp lg o h; simp [execY] at h
  | succ n ih =>
    intro c env st nx wr tp lg o h
    cases c with
    | skip => simp only [execY, Option.some.injEq] at h; subst h; exact fun _ h => h
    | exit id => simp only [execY, Option.some.injEq] at h; subst h; exact fun _ h => h
    | ret => simp only [execY, Option.some.injEq] at h; subst h; exact fun _ h => h
    | seq a b =>
      simp only [execY] at h
      split at h
      · rename_i h1; exact fun c hc => ih _ _ _ _ _ _ _ _ h c (ih _ _ _ _ _ _ _ _ h1 c hc)
      · exact ih _ _ _ _ _ _ _ _ h
    | cond c a b =>
      simp only [execY] at h
      split at h
      · rename_i t hc
        cases t <;> exact ih _ _ _ _ _ _ _ _ h
      · cases h
    | block id c =>
      simp only [execY] at h
      split at h
      · rename_i h1
        have := ih _ _ _ _ _ _ _ _ h1
        split at h <;> (injection h with h; subst h; exact this)
      · exact ih _ _ _ _ _ _ _ _ h
    | loop c =>
      simp only [execY] at h
      split at h
      · rename_i h1; exact fun c hc => ih _ _ _ _ _ _ _ _ h c (ih _ _ _ _ _ _ _ _ h1 c hc)
      · exact ih _ _ _ _ _ _ _ _ h
    | region id ops draw =>
      simp only [execY] at h
      split at h
      · rename_i h1
        split at h
        · injection h with h; subst h
          exact opsY_log _ _ _ _ _ _ _ _ h1
        · cases h
      · cases h
    | _ => simp [execY] at h
section
variable {P : Program} {T : Tab} {D base : Nat} {cx : CallY}
theorem execY_sound (hT : TOK P T) (hm : P.follows .mixedOrders = true) (hD : 0 < D) (hcx : CallYK P D cx) {B : Nat} :
    ∀ (n : Nat), (∀ (c : Code) (env : List AV) (st : Stores) (nx : Nat) (wr : List Nat) (tp : List Tk) (lg : List Ob) (o : OutY) (Q : PostA), execY T D B cx n c env st nx wr tp lg = some o → (∀ c ∈ o.lg, c.holds P) → Q o.x o.env o.st o.nx → WP P base c Q env st nx) ∧
      ∀ (c : Code) (env : List AV) (st : Stores) (nx : Nat) (wr : List Nat) (tp : List Tk) (lg : List Ob) (o : OutY) (Q : PostA), execY T D B cx n (.loop c) env st nx wr tp lg = some o → (∀ c ∈ o.lg, c.holds P) → Q o.x o.env o.st o.nx → WPL P base c Q env st nx := by
  intro n
  induction n with
  | zero => exact ⟨fun c env st nx wr tp lg o Q h => by simp [execY] at h, fun c env st nx wr tp lg o Q h => by simp [execY] at h⟩
  | succ n ihh =>
    obtain ⟨ih, ihL⟩ := ihh
    have loop : ∀ (c : Code) (env : List AV) (st : Stores) (nx : Nat) (wr : List Nat) (tp : List Tk) (lg : List Ob) (o : OutY) (Q : PostA), execY T D B cx (n + 1) (.loop c) env st nx wr tp lg = some o → (∀ c ∈ o.lg, c.holds P) → Q o.x o.env o.st o.nx → WPL P base c Q env st nx := by
      intro c env st nx wr tp lg o Q h hg hQ
      simp only [execY] at h
      split at h
      · rename_i env1 st1 nx1 wr1 tp1 lg1 h1
        exact WPL_unroll (ih _ _ _ _ _ _ _ _ _ h1 (fun c hc => hg c (execY_log _ _ _ _ _ _ _ _ _ h c hc)) (ihL _ _ _ _ _ _ _ _ _ h hg hQ))
      · rename_i hno
        refine WPL_unroll (ih _ _ _ _ _ _ _ _ _ h hg ?_)
        unfold loopK
        split
        · rename_i hx
          obtain ⟨x, e1, s1, n1, w1, t1, g1⟩ := o
          simp only at hx; subst hx
          exact absurd h (hno _ _ _ _ _ _)
        · exact hQ
    refine ⟨?_, loop⟩
    intro c env st nx wr tp lg o Q h hg hQ
    cases c with
    | skip => simp only [execY, Option.some.injEq] at h; subst h; exact WP_skip hQ
    | exit id => simp only [execY, Option.some.injEq] at h; subst h; exact WP_exit hQ
    | ret => simp only [execY, Option.some.injEq] at h; subst h; exact WP_ret hQ
    | seq a b =>
      simp only [execY] at h
      split at h
      · rename_i env1 st1 nx1 wr1 tp1 lg1 h1
        exact WP_seq (ih _ _ _ _ _ _ _ _ _ h1 (fun c hc => hg c (execY_log _ _ _ _ _ _ _ _ _ h c hc)) (ih _ _ _ _ _ _ _ _ _ h hg hQ))
      · rename_i hno
        refine WP_seq (ih _ _ _ _ _ _ _ _ _ h hg ?_)
        unfold seqK
        split
        · rename_i hx
          obtain ⟨x, e1, s1, n1, w1, t1, g1⟩ := o
          simp only at hx; subst hx
          exact absurd h (hno _ _ _ _ _ _)
        · exact hQ
    | cond c a b =>
      simp only [execY] at h
      split at h
      · rename_i t hc
        cases t
        · exact WP_cond hc (by simpa using ih _ _ _ _ _ _ _ _ _ h hg hQ)
        · exact WP_cond hc (by simpa using ih _ _ _ _ _ _ _ _ _ h hg hQ)
      · cases h
    | block id c =>
      simp only [execY] at h
      split at h
      · rename_i i env1 st1 nx1 wr1 tp1 lg1 h1
        refine WP_block (ih _ _ _ _ _ _ _ _ _ h1 ?_ ?_)
        · split at h <;> (injection h with h; subst h; exact hg)
        simp only [blockK]
        split at h
        · rename_i e; rw [if_pos e]; injection h with h; subst h; exact hQ
        · rename_i e; rw [if_neg e]; injection h with h; subst h; exact hQ
      · rename_i hno
        refine WP_block (ih _ _ _ _ _ _ _ _ _ h hg ?_)
        unfold blockK
        split
        · rename_i i hx
          obtain ⟨x, e1, s1, n1, w1, t1, g1⟩ := o
          simp only at hx; subst hx
          exact absurd h (hno _ _ _ _ _ _ _)
        · exact hQ
    | loop c => exact WP_loop (loop _ _ _ _ _ _ _ _ _ h hg hQ)
    | region id ops draw =>
      simp only [execY] at h
      split at h
      · rename_i env1 st1 acc tp1 lg1 h1
        split at h
        · rename_i hb
          injection h with h; subst h
          simp only [Bool.or_eq_true, Bool.not_eq_true', Bool.and_eq_true] at hb
          refine WP_region hT hm hD (fun hd => ?_) (opsY_sound hcx _ _ _ _ _ _ _ _ h1 hg ⟨fun hd => ?_, hQ⟩)
          · rcases hb with hb | hb
            · rw [hd] at hb; cases hb
            · exact hb.1
          · rcases hb with hb | hb
            · rw [hd] at hb; cases hb
            · exact hb.2
        · cases h
      · cases h
    | _ => simp [execY] at h
end
end Go.Proofs.YtalklhbdpmggjaaDoor.Pw
