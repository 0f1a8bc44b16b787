/- The functions of the program as functions of values, part 9: a proof's lemmas, with no condition of their own. -/
import Derived.Test.YtiondkijgpjgcaaSah
set_option linter.unusedVariables false
set_option linter.unusedSimpArgs false
namespace Go.Proofs.Ytiondkijgpjgcaa.Px
open Mat Wd
set_option linter.unusedVariables false
theorem mul_fits {a b : List Int} (ha : okN a = true) (hb : okN b = true) (h : a.length + b.length ≤ 48) : (mulS a b).2 = 0 := by
  have xa := (len_le (okN_iff.1 ha).2).1 (Nat.le_refl _)
  have xb := (len_le (okN_iff.1 hb).2).1 (Nat.le_refl _)
  have na := val_nonneg (okN_iff.1 ha).2.1
  have nb := val_nonneg (okN_iff.1 hb).2.1
  have t := mul_pw na xa nb xb
  have hp := pw_le h
  rw [mulS_ok ha hb, fit_lt (by omega)]
theorem cmp_self {x : Rt} (hv : rvB x = true) (h : x.p.length + x.q.length ≤ 48) : cmpR x x = (0, 0) := by
  obtain ⟨a, b, _⟩ := rvB_iff.1 hv
  have m := mul_fits a b h
  unfold cmpR
  rw [if_pos ⟨hv, hv⟩, if_pos ⟨m, m⟩]
  have c0 : ∀ t : Int, cmpS t t = 0 := fun t => by unfold cmpS; rw [if_neg (by omega), if_neg (by omega)]
  rw [c0]
  unfold scmp
  cases x.neg <;> simp
theorem cmp_eq {x y : Rt} (h : cmpR x y = (0, 0)) : x = y := by
  obtain ⟨hx, hy, e⟩ := cmp_val h
  refine canon hx hy ?_
  unfold cmpS at e
  split at e
  · omega
  · split at e <;> omega
theorem numR_valid {n : Int} (h : inR n = true) : rvB (numR n) = true := by
  obtain ⟨_, hz, _⟩ := makeS_ok (p := n) (q := 1) h (by decide) (by decide) (z := (makeS n 1).1) (e := (makeS n 1).2) rfl
  exact hz
theorem dotG_valid (l : List Int) (x : List Rt) : ∀ (d i : Nat) (s : Rt), rvB s = true → (dotG l x d i s).2 = 0 → rvB (dotG l x d i s).1 = true
  | 0, _, s, hs, _ => hs
  | d + 1, i, s, hs, h => by
    simp only [dotG] at h ⊢
    by_cases h1 : (mulR (numR (rdI l i)) (rdR x i)).2 = 0
    · rw [if_pos h1] at h ⊢
      by_cases h2 : (addR s (mulR (numR (rdI l i)) (rdR x i)).1).2 = 0
      · rw [if_pos h2] at h ⊢
        refine dotG_valid l x d (i + 1) _ ?_ h
        exact (add_facts (Prod.ext rfl h2)).2.2.1
      · rw [if_neg h2] at h; exact absurd h h2
    · rw [if_neg h1] at h; exact absurd h h1
theorem dotS_valid (l : List Int) (x : List Rt) (h : (dotS l x).2 = 0) : rvB (dotS l x).1 = true := dotG_valid l x _ _ _ (numR_valid (by decide)) h
/-- A sum of products is a number: how the program says it. -/
def sideS (l : List Int) (x : List Rt) (v : Rt) : Bool := decide ((dotS l x).2 = 0) && (decide ((cmpR (dotS l x).1 v).2 = 0) && decide ((cmpR (dotS l x).1 v).1 = 0))
theorem side_iff {l : List Int} {x : List Rt} {v : Rt} (hv : v.p.length + v.q.length ≤ 48) : sideS l x v = true ↔ (dotS l x).2 = 0 ∧ (dotS l x).1 = v := by
  unfold sideS
  simp only [Bool.and_eq_true, decide_eq_true_eq]
  constructor
  · rintro ⟨a, b, c⟩; exact ⟨a, cmp_eq (Prod.ext c b)⟩
  · rintro ⟨a, rfl⟩
    have := cmp_self (dotS_valid l x a) hv
    rw [this]; exact ⟨a, rfl, rfl⟩
/-- What the program and the reference ask at last is the same. -/
theorem sides {l m : List Int} {x y : List Rt} {v : Rt} (hv : v.p.length + v.q.length ≤ 48) :
    (sideS l x v && sideS m y v) = (decide ((dotS l x).2 = 0) && (decide ((dotS m y).2 = 0) && (Pw.sameS (dotS l x).1 (dotS m y).1 && Pw.sameS (dotS l x).1 v))) := by
  rw [Bool.eq_iff_iff]
  simp only [Bool.and_eq_true, side_iff hv, Pw.sameS_iff, decide_eq_true_eq]
  constructor
  · rintro ⟨⟨a, b⟩, c, d⟩; exact ⟨a, c, b.trans d.symm, b⟩
  · rintro ⟨a, c, d, b⟩; exact ⟨⟨a, b⟩, c, d.symm.trans b⟩
/-- A loop that ends at the first index without p, and remembers whether all had q. -/
def allE_l0 (p q : Int → Bool) (n : Nat) : Nat → Bool → Int → Option (Option Bool)
  | 0, _, _ => none
  | k + 1, s, i => if i < (n : Int) then (if 0 ≤ i then (if p i = true then allE_l0 p q n k (s && q i) (wrap64 (i + 1)) else some none) else none) else some (some s)
theorem ev_allE (p q : Int → Bool) (n : Nat) (hn : n ≤ 9223372036854775807) : ∀ (d i : Nat) (s : Bool), i + d = n → Ev (fun k => allE_l0 p q n k s (i : Int)) (if allI p d i = true then some (s && allI q d i) else none) := by
  intro d
  induction d with
  | zero =>
    intro i s hi
    refine Ev.step (f := fun _ => some _) (fun k => ?_) (Ev.now _)
    simp only [allE_l0, allI]
    rw [if_neg (by omega), if_pos trivial, Bool.and_true]
  | succ d ih =>
    intro i s hi
    by_cases h : p (i : Int) = true
    · have e : (if allI p (d + 1) i = true then some (s && allI q (d + 1) i) else none) = if allI p d (i + 1) = true then some ((s && q (i : Int)) && allI q d (i + 1)) else none := by
        simp only [allI, h, Bool.true_and, Bool.and_assoc]
      rw [e]
      refine Ev.step (fun k => ?_) (ih (i + 1) _ (by omega))
      simp only [allE_l0]
      rw [if_pos (by omega), if_pos (by omega), if_pos h, w64 (by omega) (by omega)]; rfl
    · have e : (if allI p (d + 1) i = true then some (s && allI q (d + 1) i) else none) = none := by
        rw [if_neg]; simp only [allI, Bool.and_eq_true, not_and]; exact fun h' => absurd h' h
      rw [e]
      refine Ev.step (f := fun _ => some _) (fun k => ?_) (Ev.now _)
      simp only [allE_l0]
      rw [if_pos (by omega), if_pos (by omega), if_neg h]
end Go.Proofs.Ytiondkijgpjgcaa.Px
namespace Go.Proofs.Ytiondkijgpjgcaa.Px
open Mat Wd
set_option linter.unusedVariables false
/-- All indices have p, then next; else bad. -/
def chI {β : Type} (p : Int → Bool) (n : Nat) (bad : β) (next : Nat → Option β) : Nat → Int → Option β
  | 0, _ => none
  | k + 1, i => if i < (n : Int) then (if 0 ≤ i then (if p i = true then chI p n bad next k (wrap64 (i + 1)) else some bad) else none) else next k
theorem ev_chI {β : Type} (p : Int → Bool) (n : Nat) (hn : n ≤ 9223372036854775807) (bad r : β) (next : Nat → Option β) (hx : Ev next r) : ∀ (d i : Nat), i + d = n → Ev (fun k => chI p n bad next k (i : Int)) (if allI p d i = true then r else bad) := by
  intro d
  induction d with
  | zero =>
    intro i hi
    simp only [allI, if_true]
    refine Ev.step (f := next) (fun k => ?_) hx
    simp only [chI]
    rw [if_neg (by omega)]
  | succ d ih =>
    intro i hi
    by_cases h : p (i : Int) = true
    · have e : allI p (d + 1) i = allI p d (i + 1) := by simp only [allI, h, Bool.true_and]
      rw [e]
      refine Ev.step (fun k => ?_) (ih (i + 1) (by omega))
      simp only [chI]
      rw [if_pos (by omega), if_pos (by omega), if_pos h, w64 (by omega) (by omega)]; rfl
    · have e : allI p (d + 1) i = false := by simp only [allI, Bool.and_eq_false_iff]; exact .inl (by simpa using h)
      rw [e]
      simp only [Bool.false_eq_true, if_false]
      refine Ev.step (f := fun _ => some _) (fun k => ?_) (Ev.now _)
      simp only [chI]
      rw [if_pos (by omega), if_pos (by omega), if_neg h]
/-- The same, with what is remembered. -/
def chE {β : Type} (p q : Int → Bool) (n : Nat) (bad : β) (fin : Nat → Bool → Option β) : Nat → Bool → Int → Option β
  | 0, _, _ => none
  | k + 1, s, i => if i < (n : Int) then (if 0 ≤ i then (if p i = true then chE p q n bad fin k (s && q i) (wrap64 (i + 1)) else some bad) else none) else fin k s
theorem ev_chE {β : Type} (p q : Int → Bool) (n : Nat) (hn : n ≤ 9223372036854775807) (bad : β) (r : Bool → β) (fin : Nat → Bool → Option β) (hx : ∀ s, Ev (fun k => fin k s) (r s)) : ∀ (d i : Nat) (s : Bool), i + d = n → Ev (fun k => chE p q n bad fin k s (i : Int)) (if allI p d i = true then r (s && allI q d i) else bad) := by
  intro d
  induction d with
  | zero =>
    intro i s hi
    simp only [allI, if_true, Bool.and_true]
    refine Ev.step (f := fun k => fin k s) (fun k => ?_) (hx s)
    simp only [chE]
    rw [if_neg (by omega)]
  | succ d ih =>
    intro i s hi
    by_cases h : p (i : Int) = true
    · have e : (if allI p (d + 1) i = true then r (s && allI q (d + 1) i) else bad) = if allI p d (i + 1) = true then r ((s && q (i : Int)) && allI q d (i + 1)) else bad := by
        simp only [allI, h, Bool.true_and, Bool.and_assoc]
      rw [e]
      refine Ev.step (fun k => ?_) (ih (i + 1) _ (by omega))
      simp only [chE]
      rw [if_pos (by omega), if_pos (by omega), if_pos h, w64 (by omega) (by omega)]; rfl
    · have e : allI p (d + 1) i = false := by simp only [allI, Bool.and_eq_false_iff]; exact .inl (by simpa using h)
      rw [e]
      simp only [Bool.false_eq_true, if_false]
      refine Ev.step (f := fun _ => some _) (fun k => ?_) (Ev.now _)
      simp only [chE]
      rw [if_pos (by omega), if_pos (by omega), if_neg h]
theorem allI_congr {p q : Int → Bool} : ∀ (d i : Nat), (∀ j, i ≤ j → j < i + d → p (j : Int) = q (j : Int)) → allI p d i = allI q d i
  | 0, i, _ => rfl
  | d + 1, i, h => by simp only [allI]; rw [h i (Nat.le_refl _) (by omega), allI_congr d (i + 1) fun j h1 h2 => h j (by omega) (by omega)]
/-- What Check leaves. -/
structure Chk (p : LP) : Prop where
  c0 : p.c.length ≠ 0
  c1 : p.c.length ≤ 1100
  r1 : p.rows.length ≤ 8
  n1 : p.need.length = p.rows.length
  sz : ∀ i : Nat, i < p.rows.length → (rdL p.rows i).length = p.c.length
  ec : ∀ i : Nat, i < p.c.length → entB (rdI p.c i) = true
  en : ∀ i : Nat, i < p.need.length → entB (rdI p.need i) = true
  er : ∀ i : Nat, i < p.rows.length → ∀ j : Nat, j < (rdL p.rows i).length → entB (rdI (rdL p.rows i) j) = true
theorem chk_of {p : LP} (h : chkS p = 0) : Chk p := by
  unfold chkS at h
  by_cases h1 : p.c.length = 0
  · rw [if_pos h1] at h; omega
  rw [if_neg h1] at h
  by_cases h2 : 1100 < p.c.length ∨ 8 < p.rows.length
  · rw [if_pos h2] at h; omega
  rw [if_neg h2] at h
  by_cases h3 : p.need.length ≠ p.rows.length
  · rw [if_pos h3] at h; omega
  rw [if_neg h3] at h
  by_cases h4 : sizeS p = true
  · rw [if_pos h4] at h
    have h5 : ((entS p.c && entS p.need) && allI (fun i => entS (rdL p.rows i)) p.rows.length 0) = true := by
      cases hb : ((entS p.c && entS p.need) && allI (fun i => entS (rdL p.rows i)) p.rows.length 0)
      · rw [hb] at h; simp at h
      · rfl
    simp only [Bool.and_eq_true] at h5
    refine ⟨h1, by omega, by omega, by simpa using h3, fun i hi => ?_, fun i hi => ?_, fun i hi => ?_, fun i hi j hj => ?_⟩
    · have := allI_at _ _ _ h4 i (Nat.zero_le _) (by omega); simpa using this
    · exact allI_at _ _ _ h5.1.1 i (Nat.zero_le _) (by omega)
    · exact allI_at _ _ _ h5.1.2 i (Nat.zero_le _) (by omega)
    · exact allI_at _ _ _ (allI_at _ _ _ h5.2 i (Nat.zero_le _) (by omega)) j (Nat.zero_le _) (by omega)
  · rw [if_neg h4] at h; omega
theorem rdI_out {l : List Int} {i : Int} (h : ¬ (0 ≤ i ∧ i < l.length)) (h0 : 0 ≤ i) : rdI l i = 0 := by
  unfold rdI; rw [List.getD_eq_getElem?_getD, List.getElem?_eq_none (by omega)]; rfl
theorem inR_ent {n : Int} (h : entB n = true) : inR n = true := by
  simp only [entB, inR, Bool.and_eq_true, Bool.not_eq_true', decide_eq_false_iff_not, decide_eq_true_eq] at h ⊢
  omega
theorem rng_ent {n : Int} (h : entB n = true) : -65536 ≤ n ∧ n ≤ 65536 := by
  simp only [entB, Bool.and_eq_true, Bool.not_eq_true', decide_eq_false_iff_not] at h
  omega
end Go.Proofs.Ytiondkijgpjgcaa.Px
namespace Go.Proofs.Ytiondkijgpjgcaa.Px
open Mat Wd
set_option linter.unusedVariables false
theorem lit_bd {x : Rt} (hv : rvB x = true) (h1 : x.p.length ≤ 1) (h2 : x.q.length ≤ 1) : bd x 1 1 := by
  obtain ⟨a, b, _⟩ := rvB_iff.1 hv
  have t := pw_le h1
  have u := pw_le h2
  have xa := (len_le (okN_iff.1 a).2).1 (Nat.le_refl _)
  have xb := (len_le (okN_iff.1 b).2).1 (Nat.le_refl _)
  exact ⟨hv, by omega, by unfold dd; omega⟩
def one1 (x : Rt) : Bool := rvB x && (Nat.ble x.p.length 1 && Nat.ble x.q.length 1)
theorem one_bd {x : Rt} (h : one1 x = true) : bd x 1 1 := by
  simp only [one1, Bool.and_eq_true, Nat.ble_eq] at h
  exact lit_bd h.1 h.2.1 h.2.2
theorem mul_lit {x y z : Rt} (hx : one1 x = true) (hy : one1 y = true) (hz : rvB z = true) (h : nn z * (dd x * dd y) = nn x * nn y * dd z) : mulR x y = (z, 0) := by
  obtain ⟨w, hw, bw⟩ := mul_bd (one_bd hx) (one_bd hy) (by decide) (by decide)
  obtain ⟨vx, vy, vw, e⟩ := mul_facts hw
  rw [hw, canon vw hz]
  have p := Int.mul_pos (rv_facts vx).1 (rv_facts vy).1
  refine Int.eq_of_mul_eq_mul_right (show dd x * dd y ≠ 0 by omega) ?_
  rw [Int.mul_right_comm, e, Int.mul_right_comm, ← h, Int.mul_right_comm]
theorem add_lit {x y z : Rt} (hx : one1 x = true) (hy : one1 y = true) (hz : rvB z = true) (h : nn z * (dd x * dd y) = (nn x * dd y + nn y * dd x) * dd z) : addR x y = (z, 0) := by
  obtain ⟨w, hw, bw⟩ := add_bd 3 (one_bd hx) (one_bd hy) (by decide) (by decide) (by decide) (by decide)
  obtain ⟨vx, vy, vw, e⟩ := add_facts hw
  rw [hw, canon vw hz]
  have p := Int.mul_pos (rv_facts vx).1 (rv_facts vy).1
  refine Int.eq_of_mul_eq_mul_right (show dd x * dd y ≠ 0 by omega) ?_
  rw [Int.mul_right_comm, e, Int.mul_right_comm, ← h, Int.mul_right_comm]
theorem sub_lit {x y z : Rt} (hx : one1 x = true) (hy : one1 y = true) (hz : rvB z = true) (h : nn z * (dd x * dd y) = (nn x * dd y - nn y * dd x) * dd z) : subR x y = (z, 0) := by
  obtain ⟨w, hw, bw⟩ := sub_bd 3 (one_bd hx) (one_bd hy) (by decide) (by decide) (by decide) (by decide)
  obtain ⟨vx, vy, vw, e⟩ := sub_facts hw
  rw [hw, canon vw hz]
  have p := Int.mul_pos (rv_facts vx).1 (rv_facts vy).1
  refine Int.eq_of_mul_eq_mul_right (show dd x * dd y ≠ 0 by omega) ?_
  rw [Int.mul_right_comm, e, Int.mul_right_comm, ← h, Int.mul_right_comm]
theorem make_lit {p q : Int} {z : Rt} (hp : inR p = true) (hq : inR q = true) (h0 : 0 < q) (hz : rvB z = true) (h : nn z * q = p * dd z) : makeS p q = (z, 0) := by
  obtain ⟨y, e, hm⟩ : ∃ y e, makeS p q = (y, e) := ⟨_, _, rfl⟩
  rw [hm]
  obtain ⟨h1, h2, h3⟩ := makeS_ok hp hq h0 hm
  subst h1
  have hd := (rv_facts hz).1
  rw [canon h2 hz (Int.eq_of_mul_eq_mul_right (show q ≠ 0 by omega) (by rw [Int.mul_assoc, Int.mul_comm (dd z) q, ← Int.mul_assoc, h3, Int.mul_assoc, Int.mul_comm (dd y) (dd z), ← Int.mul_assoc, ← h, Int.mul_assoc, Int.mul_comm q, ← Int.mul_assoc]))]
theorem div_lit {x y z : Rt} (hx : one1 x = true) (hy : one1 y = true) (h0 : Nat.ble y.p.length 0 = false) (hf : one1 (flipR y) = true) (hz : rvB z = true) (h : nn z * (dd x * dd (flipR y)) = nn x * nn (flipR y) * dd z) : divR x y = (z, 0) := by
  have hv : ∀ {x}, one1 x = true → rvB x = true := fun h => (one_bd h).1
  unfold divR
  rw [if_pos ⟨hv hx, hv hy⟩, if_neg (by intro e; rw [e] at h0; cases h0)]
  exact mul_lit hx hf hz h
theorem cmp_lit {x y : Rt} {m : Int} (hx : one1 x = true) (hy : one1 y = true) (h : scmp x.neg y.neg (cmpS (val x.p * val y.q) (val y.p * val x.q)) = m) : cmpR x y = (m, 0) := by
  simp only [one1, Bool.and_eq_true, Nat.ble_eq] at hx hy
  obtain ⟨a, b, _⟩ := rvB_iff.1 hx.1
  obtain ⟨c, d, _⟩ := rvB_iff.1 hy.1
  unfold cmpR
  rw [if_pos ⟨hx.1, hy.1⟩, if_pos ⟨mul_fits a d (by omega), mul_fits c b (by omega)⟩, h]
theorem cmpR_range (x y : Rt) : -1 ≤ (cmpR x y).1 ∧ (cmpR x y).1 ≤ 1 := by
  unfold cmpR
  split
  · split
    · dsimp only
      rcases cmpS_cases (val x.p * val y.q) (val y.p * val x.q) with h | h | h <;> rw [h] <;> unfold scmp <;> split <;> (try split) <;> (try split) <;> omega
    · simp
  · simp
end Go.Proofs.Ytiondkijgpjgcaa.Px
namespace Go.Proofs.Ytiondkijgpjgcaa.Pw
open Go Wd Px Mat
set_option linter.unusedVariables false
set_option linter.unusedSimpArgs false
set_option maxRecDepth 100000
set_option maxHeartbeats 8000000
attribute [local irreducible] Int.tmod Int.tdiv
/-- Lists of lists of integers. -/
def RR (l : List (List Int)) : PV := .lst l.length (l.map N)
/-- A linear program. -/
def LPv (p : LP) : PV := .agg [N p.c, RR p.rows, N p.need]
theorem getRR {l : List (List Int)} {i : Int} (h0 : 0 ≤ i) (h1 : i < l.length) : (l.map N).getD i.toNat default = N (rdL l i) := by
  have : i.toNat < l.length := by omega
  simp [rdL, List.getD_eq_getElem?_getD, List.getElem?_map, List.getElem?_eq_getElem this]
theorem rdI_rd (l : List Int) (i : Int) : rd l i = rdI l i := rfl
theorem sx_entries.snd (k : Nat) (l : List Int) (r : Bool) (h : chI (fun i => entB (rdI l i)) l.length false (fun _ => some true) k 0 = some r) : Sound Try.prog 28 [N l] (B r) := by
  have hrd := rdI_rd l
  refine Sound.of_WP tok Try.func28 rfl rfl ?_; simp only [Try.f28, args0, List.map, List.length_cons, List.length_nil, Nat.reduceAdd, Nat.reduceSub, List.replicate, List.cons_append, List.nil_append]
  repeat' (first | refine WP_seq ?_ | refine WP_block ?_ | refine regA 64 fun KQ hKQ => ?_ | refine regD 64 fun KQ hKQ => ?_ | refine opsA rfl rfl rfl rfl (nrmA ?_) | refine opsW_skip rfl (nrmA ?_) | (refine opsW_nil ⟨by kernel_rfl, hKQ _ _ _ (nrmB ?_)⟩; clear hKQ KQ) | (refine opsW_nil (hKQ _ _ _ (nrmB ?_)); clear hKQ KQ) | refine condT rfl ?_ | refine condF rfl ?_ | refine WP_skip (nrmB ?_) | refine WP_ret (nrmC ?_) | refine WP_exit (nrmC ?_))
  refine WP_loop (WPL_weaken ?_ (WPL_rec (α := Int) (fun k x => chI (fun i => entB (rdI l i)) l.length false (fun _ => some true) k x) r (fun x => (mkE 18 [(5, .p (N l)), (6, .p (I (l.length : Int))), (7, .p (I x))], [], 0)) ?_ k _ h))
  · exact wkA
  · clear h; try clear k
    intro k x K ih h
    simp only [mkE, List.replicate, List.foldl, List.set]
    cases k with
    | zero => simp [chI] at h
    | succ k =>
      simp only [chI] at h
      by_cases h1 : rdI l x < -65536
      · have hE : entB (rdI l x) = false := by simp [entB, h1]
        simp only [hE, Bool.false_eq_true, if_false, if_true, reduceIte] at h
        repeat' (first | (simp only [if_true, if_false, Bool.false_eq_true, Bool.not_true, Bool.not_false, reduceIte] at h) | (split at h) | (rw [Option.bind_eq_some_iff] at h; obtain ⟨_, hbb, h⟩ := h; try (simp only [Option.some.injEq] at hbb; subst hbb)) | (cases h; done) | (simp only [Option.some.injEq, Prod.mk.injEq] at h; subst h) | (simp only [Option.some.injEq, Prod.mk.injEq] at h; (have h1 := h.1; have h2 := h.2; clear h; subst h1; first | subst h2 | (obtain ⟨h3, h4⟩ := h2; subst h3; subst h4))))
        all_goals
          repeat' (first | refine WP_seq ?_ | refine WP_block ?_ | refine regA 64 fun KQ hKQ => ?_ | refine regD 64 fun KQ hKQ => ?_ | refine opsA rfl rfl rfl rfl (nrmA ?_) | refine opsW_skip rfl (nrmA ?_) | (refine opsW_nil ⟨by kernel_rfl, hKQ _ _ _ (nrmB ?_)⟩; clear hKQ KQ) | (refine opsW_nil (hKQ _ _ _ (nrmB ?_)); clear hKQ KQ) | refine condT rfl ?_ | refine condF rfl ?_ | refine WP_skip (nrmB ?_) | refine WP_ret (nrmC ?_) | refine WP_exit (nrmC ?_))
          first
          | exact endA
      · by_cases h2 : 65536 < rdI l x
        · have hE : entB (rdI l x) = false := by simp [entB, h2]
          simp only [hE, Bool.false_eq_true, if_false, if_true, reduceIte] at h
          repeat' (first | (simp only [if_true, if_false, Bool.false_eq_true, Bool.not_true, Bool.not_false, reduceIte] at h) | (split at h) | (rw [Option.bind_eq_some_iff] at h; obtain ⟨_, hbb, h⟩ := h; try (simp only [Option.some.injEq] at hbb; subst hbb)) | (cases h; done) | (simp only [Option.some.injEq, Prod.mk.injEq] at h; subst h) | (simp only [Option.some.injEq, Prod.mk.injEq] at h; (have h1 := h.1; have h2 := h.2; clear h; subst h1; first | subst h2 | (obtain ⟨h3, h4⟩ := h2; subst h3; subst h4))))
          all_goals
            repeat' (first | refine WP_seq ?_ | refine WP_block ?_ | refine regA 64 fun KQ hKQ => ?_ | refine regD 64 fun KQ hKQ => ?_ | refine opsA rfl rfl rfl rfl (nrmA ?_) | refine opsW_skip rfl (nrmA ?_) | (refine opsW_nil ⟨by kernel_rfl, hKQ _ _ _ (nrmB ?_)⟩; clear hKQ KQ) | (refine opsW_nil (hKQ _ _ _ (nrmB ?_)); clear hKQ KQ) | refine condT rfl ?_ | refine condF rfl ?_ | refine WP_skip (nrmB ?_) | refine WP_ret (nrmC ?_) | refine WP_exit (nrmC ?_))
            first
            | exact endA
        · have hE : entB (rdI l x) = true := by simp [entB, h1, h2]
          simp only [hE, Bool.false_eq_true, if_false, if_true, reduceIte] at h
          repeat' (first | (simp only [if_true, if_false, Bool.false_eq_true, Bool.not_true, Bool.not_false, reduceIte] at h) | (split at h) | (rw [Option.bind_eq_some_iff] at h; obtain ⟨_, hbb, h⟩ := h; try (simp only [Option.some.injEq] at hbb; subst hbb)) | (cases h; done) | (simp only [Option.some.injEq, Prod.mk.injEq] at h; subst h) | (simp only [Option.some.injEq, Prod.mk.injEq] at h; (have h1 := h.1; have h2 := h.2; clear h; subst h1; first | subst h2 | (obtain ⟨h3, h4⟩ := h2; subst h3; subst h4))))
          all_goals
            repeat' (first | refine WP_seq ?_ | refine WP_block ?_ | refine regA 64 fun KQ hKQ => ?_ | refine regD 64 fun KQ hKQ => ?_ | refine opsA rfl rfl rfl rfl (nrmA ?_) | refine opsW_skip rfl (nrmA ?_) | (refine opsW_nil ⟨by kernel_rfl, hKQ _ _ _ (nrmB ?_)⟩; clear hKQ KQ) | (refine opsW_nil (hKQ _ _ _ (nrmB ?_)); clear hKQ KQ) | refine condT rfl ?_ | refine condF rfl ?_ | refine WP_skip (nrmB ?_) | refine WP_ret (nrmC ?_) | refine WP_exit (nrmC ?_))
            first
            | exact endA
            | (refine ih _ _ _ _ _ (Nat.lt_succ_self _) h ?_; exact wkA)
theorem sx_entries.c (l : List Int) : Sound Try.prog 28 [N l] (B (entS l)) :=
  Sound.len (Entered.of Try.func28 rfl rfl) 0 l.length _ rfl fun hl => by
    have e : entS l = if allI (fun i => entB (rdI l i)) l.length 0 = true then true else false := by unfold entS; simp
    rw [e]
    exact (ev_chI _ _ hl false true (fun _ => some true) (Ev.now _) l.length 0 (by omega)).rounds.elim fun k h => sx_entries.snd k l _ h
theorem sx_value.c (x : Rt) (e : Int) : Sound Try.prog 44 [R x, I e] (R x) := runO tok mixed [] 300 6 Obs.nil (by kernel_rfl)
theorem sx_number.c (n : Int) : Sound Try.prog 46 [I n] (R (numR n)) := by
  have c1 := rat_Of.c n
  have c2 := sx_value.c (makeS n 1).1 (makeS n 1).2
  exact runO tok mixed [74, 44] 300 6 (Obs.cons c1 (Obs.cons c2 Obs.nil)) (by kernel_rfl)
end Go.Proofs.Ytiondkijgpjgcaa.Pw
namespace Go.Proofs.Ytiondkijgpjgcaa.Pw
open Go Wd Px Mat
set_option linter.unusedVariables false
set_option linter.unusedSimpArgs false
set_option maxRecDepth 100000
set_option maxHeartbeats 8000000
attribute [local irreducible] Int.tmod Int.tdiv
theorem sx_dot.snd (k : Nat) (l : List Int) (xs : List Rt) (r : Rt) (e : Int) (hle : l.length ≤ xs.length) (h : dot_l0 l xs k (numR 0) 0 = some (r, e)) : Sound Try.prog 36 [N l, RL xs] (.tup [R r, I e]) := by
  have hrd := rdI_rd l
  have hg := fun i : Int => getR (l := xs) (i := i)
  have hlen := RC_len xs
  refine Sound.of_WP tok Try.func36 rfl rfl ?_; simp only [Try.f36, args0, List.map, List.length_cons, List.length_nil, Nat.reduceAdd, Nat.reduceSub, List.replicate, List.cons_append, List.nil_append]
  repeat' (first | refine WP_seq ?_ | refine WP_block ?_ | refine regA 64 fun KQ hKQ => ?_ | refine regD 64 fun KQ hKQ => ?_ | refine opsA rfl rfl rfl rfl (nrmA ?_) | refine callA rfl rfl rfl (nrmA ?_) (hs := sx_number.c 0) | refine opsW_skip rfl (nrmA ?_) | (refine opsW_nil ⟨by kernel_rfl, hKQ _ _ _ (nrmB ?_)⟩; clear hKQ KQ) | (refine opsW_nil (hKQ _ _ _ (nrmB ?_)); clear hKQ KQ) | refine condT rfl ?_ | refine condF rfl ?_ | refine WP_skip (nrmB ?_) | refine WP_ret (nrmC ?_) | refine WP_exit (nrmC ?_))
  refine WP_loop (WPL_weaken ?_ (WPL_rec (α := Rt × Int) (fun k x => dot_l0 l xs k x.1 x.2) (r, e) (fun x => (mkE 45 [(1, .p (RL xs)), (4, .own 0 0), (6, .own 1 0), (12, .p (N l)), (13, .p (I (l.length : Int))), (14, .p (I x.2))], [(1, .pc 36 [B x.1.neg, N x.1.p, N x.1.q]), (0, .pc 36 [B false, .v (.slice none 0 0), .v (.slice none 0 0)])], 2)) ?_ k (numR 0, 0) h))
  · exact wkA
  · clear h; try clear k
    intro k ⟨s, x⟩ K ih h
    simp only [mkE, List.replicate, List.foldl, List.set]
    cases k with
    | zero => simp [dot_l0] at h
    | succ k =>
      simp only [dot_l0] at h
      repeat' (first | (simp only [if_true, if_false, Bool.false_eq_true, Bool.not_true, Bool.not_false, reduceIte] at h) | (split at h) | (rw [Option.bind_eq_some_iff] at h; obtain ⟨_, hbb, h⟩ := h; try (simp only [Option.some.injEq] at hbb; subst hbb)) | (cases h; done) | (simp only [Option.some.injEq, Prod.mk.injEq] at h; subst h) | (simp only [Option.some.injEq, Prod.mk.injEq] at h; (have h1 := h.1; have h2 := h.2; clear h; subst h1; first | subst h2 | (obtain ⟨h3, h4⟩ := h2; subst h3; subst h4))))
      all_goals
        try (have hx2 : x < (xs.length : Int) := by omega)
        repeat' (first | refine WP_seq ?_ | refine WP_block ?_ | refine regA 64 fun KQ hKQ => ?_ | refine regD 64 fun KQ hKQ => ?_ | refine opsA rfl rfl rfl rfl (nrmA ?_) | refine callA rfl rfl rfl (nrmA ?_) (hs := sx_number.c (rdI l x)) | refine callA rfl rfl rfl (nrmA ?_) (hs := rat_Mul.c (numR (rdI l x)) (rdR xs x)) | refine callA rfl rfl rfl (nrmA ?_) (hs := rat_Add.c s (mulR (numR (rdI l x)) (rdR xs x)).1) | refine opsW_skip rfl (nrmA ?_) | (refine opsW_nil ⟨by kernel_rfl, hKQ _ _ _ (nrmB ?_)⟩; clear hKQ KQ) | (refine opsW_nil (hKQ _ _ _ (nrmB ?_)); clear hKQ KQ) | refine condT rfl ?_ | refine condF rfl ?_ | refine WP_skip (nrmB ?_) | refine WP_ret (nrmC ?_) | refine WP_exit (nrmC ?_))
        first
        | (refine Res_of rfl ?_ ?_; (focus (first | (refine ⟨⟨?_, ?_⟩, trivial⟩ <;> first | exact Nat.le_of_ble_eq_true rfl | (refine Nat.le_of_ble_eq_true ?_; kernel_rfl) | (intro hh; cases hh)) | (refine ⟨⟨?_, ?_⟩, trivial, trivial⟩ <;> first | (refine Nat.le_of_ble_eq_true ?_; kernel_rfl) | (intro hh; cases hh)) | (refine ⟨⟨?_, ?_⟩, trivial⟩ <;> decide) | (refine ⟨⟨?_, ?_⟩, ⟨trivial, trivial⟩⟩ <;> decide) | decide | (simp [Blk.cells]; done))); exact ⟨_, rfl⟩)
        | (refine ih _ _ _ _ ((addR s (mulR (numR (rdI l x)) (rdR xs x)).1).1, wrap64 (x + 1)) (Nat.lt_succ_self _) h ?_; exact wkA)
theorem sx_dot.c (l : List Int) (xs : List Rt) (hle : l.length ≤ xs.length) : Sound Try.prog 36 [N l, RL xs] (.tup [R (dotS l xs).1, I (dotS l xs).2]) :=
  Sound.len (Entered.of Try.func36 rfl rfl) 0 l.length _ rfl fun hl =>
    (ev_dot l xs hl l.length 0 (numR 0) (by omega)).rounds.elim fun k h => sx_dot.snd k l xs _ _ hle h
/-- What the checks of numbers compute, loop behind loop. -/
def lst3 (xs : List Rt) (k : Nat) : Option Int := chI (fun i => !(rdR xs i).neg) xs.length 1 (fun _ => some 0) k 0
def lst2 (xs : List Rt) (k : Nat) : Option Int := chI (fun i => shortB (rdR xs i)) xs.length 32 (lst3 xs) k 0
def lst1 (xs : List Rt) (k : Nat) : Option Int := chI (fun i => rvB (rdR xs i)) xs.length 3 (lst2 xs) k 0
theorem ev_lst (xs : List Rt) (hl : xs.length ≤ 9223372036854775807) : Ev (lst1 xs) (lstS xs xs.length) := by
  unfold lstS
  rw [if_pos rfl]
  have a3 : Ev (lst3 xs) _ := ev_chI (fun i => !(rdR xs i).neg) xs.length hl 1 0 (fun _ => some 0) (Ev.now _) xs.length 0 (by omega)
  have a2 : Ev (lst2 xs) _ := ev_chI (fun i => shortB (rdR xs i)) xs.length hl 32 _ (lst3 xs) (by exact a3) xs.length 0 (by omega)
  exact ev_chI (fun i => rvB (rdR xs i)) xs.length hl 3 _ (lst2 xs) (by exact a2) xs.length 0 (by omega)
theorem sx_list.snd (k : Nat) (xs : List Rt) (n r : Int) (hn : (xs.length : Int) = n) (h : lst1 xs k = some r) : Sound Try.prog 30 [RL xs, I n] (I r) := by
  have hg := fun i : Int => getR (l := xs) (i := i)
  have hlen := RC_len xs
  unfold lst1 at h
  subst hn
  refine Sound.of_WP tok Try.func30 rfl rfl ?_; simp only [Try.f30, args0, List.map, List.length_cons, List.length_nil, Nat.reduceAdd, Nat.reduceSub, List.replicate, List.cons_append, List.nil_append]
  repeat' (first | refine WP_seq ?_ | refine WP_block ?_ | refine regA 64 fun KQ hKQ => ?_ | refine regD 64 fun KQ hKQ => ?_ | refine opsA rfl rfl rfl rfl (nrmA ?_) | refine opsW_skip rfl (nrmA ?_) | (refine opsW_nil ⟨by kernel_rfl, hKQ _ _ _ (nrmB ?_)⟩; clear hKQ KQ) | (refine opsW_nil (hKQ _ _ _ (nrmB ?_)); clear hKQ KQ) | refine condT rfl ?_ | refine condF rfl ?_ | refine WP_skip (nrmB ?_) | refine WP_ret (nrmC ?_) | refine WP_exit (nrmC ?_))
  refine WP_loop (WPL_weaken ?_ (WPL_rec (α := Int) (fun k x => chI (fun i => rvB (rdR xs i)) xs.length 3 (lst2 xs) k x) r (fun x => (mkE 51 [(0, .p (RL xs)), (15, .p (RL xs)), (16, .p (I (xs.length : Int))), (17, .p (I x))], [], 0)) ?_ k _ h))
  · exact wkA
  · clear h; try clear k
    intro k x K ih h
    simp only [mkE, List.replicate, List.foldl, List.set]
    cases k with
    | zero => simp [chI] at h
    | succ k =>
      simp only [chI] at h
      split at h
      · repeat' (first | (simp only [if_true, if_false, Bool.false_eq_true, Bool.not_true, Bool.not_false, reduceIte] at h) | (split at h) | (rw [Option.bind_eq_some_iff] at h; obtain ⟨_, hbb, h⟩ := h; try (simp only [Option.some.injEq] at hbb; subst hbb)) | (cases h; done) | (simp only [Option.some.injEq, Prod.mk.injEq] at h; subst h) | (simp only [Option.some.injEq, Prod.mk.injEq] at h; (have h1 := h.1; have h2 := h.2; clear h; subst h1; first | subst h2 | (obtain ⟨h3, h4⟩ := h2; subst h3; subst h4))))
        all_goals
          repeat' (first | refine WP_seq ?_ | refine WP_block ?_ | refine regA 64 fun KQ hKQ => ?_ | refine regD 64 fun KQ hKQ => ?_ | refine opsA rfl rfl rfl rfl (nrmA ?_) | refine callA rfl rfl rfl (nrmA ?_) (hs := rat_Valid.c (rdR xs x)) | refine opsW_skip rfl (nrmA ?_) | (refine opsW_nil ⟨by kernel_rfl, hKQ _ _ _ (nrmB ?_)⟩; clear hKQ KQ) | (refine opsW_nil (hKQ _ _ _ (nrmB ?_)); clear hKQ KQ) | refine condT rfl ?_ | refine condF rfl ?_ | refine WP_skip (nrmB ?_) | refine WP_ret (nrmC ?_) | refine WP_exit (nrmC ?_))
          first
          | exact endA
          | (refine ih _ _ _ _ _ (Nat.lt_succ_self _) h ?_; exact wkA)
      · clear ih
        unfold lst2 at h
        repeat' (first | refine WP_seq ?_ | refine WP_block ?_ | refine regA 64 fun KQ hKQ => ?_ | refine regD 64 fun KQ hKQ => ?_ | refine opsA rfl rfl rfl rfl (nrmA ?_) | refine opsW_skip rfl (nrmA ?_) | (refine opsW_nil ⟨by kernel_rfl, hKQ _ _ _ (nrmB ?_)⟩; clear hKQ KQ) | (refine opsW_nil (hKQ _ _ _ (nrmB ?_)); clear hKQ KQ) | refine condT rfl ?_ | refine condF rfl ?_ | refine WP_skip (nrmB ?_) | refine WP_ret (nrmC ?_) | refine WP_exit (nrmC ?_))
        refine WP_loop (WPL_weaken ?_ (WPL_rec (α := Int) (fun k x => chI (fun i => shortB (rdR xs i)) xs.length 32 (lst3 xs) k x) r (fun x => (mkE 51 [(0, .p (RL xs)), (25, .p (RL xs)), (26, .p (I (xs.length : Int))), (27, .p (I x))], [], 0)) ?_ k _ h))
        · exact wkA
        · clear h; try clear k
          intro k y K ih h
          simp only [mkE, List.replicate, List.foldl, List.set]
          cases k with
          | zero => simp [chI] at h
          | succ k =>
            simp only [chI] at h
            split at h
            · by_cases h1 : (16 : Int) < ((rdR xs y).p.length : Int)
              · have hE : shortB (rdR xs y) = false := by simp [shortB]; omega
                simp only [hE, Bool.false_eq_true, if_false, if_true, reduceIte] at h
                repeat' (first | (simp only [if_true, if_false, Bool.false_eq_true, Bool.not_true, Bool.not_false, reduceIte] at h) | (split at h) | (rw [Option.bind_eq_some_iff] at h; obtain ⟨_, hbb, h⟩ := h; try (simp only [Option.some.injEq] at hbb; subst hbb)) | (cases h; done) | (simp only [Option.some.injEq, Prod.mk.injEq] at h; subst h) | (simp only [Option.some.injEq, Prod.mk.injEq] at h; (have h1 := h.1; have h2 := h.2; clear h; subst h1; first | subst h2 | (obtain ⟨h3, h4⟩ := h2; subst h3; subst h4))))
                all_goals
                  repeat' (first | refine WP_seq ?_ | refine WP_block ?_ | refine regA 64 fun KQ hKQ => ?_ | refine regD 64 fun KQ hKQ => ?_ | refine opsA rfl rfl rfl rfl (nrmA ?_) | refine opsW_skip rfl (nrmA ?_) | (refine opsW_nil ⟨by kernel_rfl, hKQ _ _ _ (nrmB ?_)⟩; clear hKQ KQ) | (refine opsW_nil (hKQ _ _ _ (nrmB ?_)); clear hKQ KQ) | refine condT rfl ?_ | refine condF rfl ?_ | refine WP_skip (nrmB ?_) | refine WP_ret (nrmC ?_) | refine WP_exit (nrmC ?_))
                  first
                  | exact endA
              · by_cases h2 : (16 : Int) < ((rdR xs y).q.length : Int)
                · have hE : shortB (rdR xs y) = false := by simp [shortB]; omega
                  simp only [hE, Bool.false_eq_true, if_false, if_true, reduceIte] at h
                  repeat' (first | (simp only [if_true, if_false, Bool.false_eq_true, Bool.not_true, Bool.not_false, reduceIte] at h) | (split at h) | (rw [Option.bind_eq_some_iff] at h; obtain ⟨_, hbb, h⟩ := h; try (simp only [Option.some.injEq] at hbb; subst hbb)) | (cases h; done) | (simp only [Option.some.injEq, Prod.mk.injEq] at h; subst h) | (simp only [Option.some.injEq, Prod.mk.injEq] at h; (have h1 := h.1; have h2 := h.2; clear h; subst h1; first | subst h2 | (obtain ⟨h3, h4⟩ := h2; subst h3; subst h4))))
                  all_goals
                    repeat' (first | refine WP_seq ?_ | refine WP_block ?_ | refine regA 64 fun KQ hKQ => ?_ | refine regD 64 fun KQ hKQ => ?_ | refine opsA rfl rfl rfl rfl (nrmA ?_) | refine opsW_skip rfl (nrmA ?_) | (refine opsW_nil ⟨by kernel_rfl, hKQ _ _ _ (nrmB ?_)⟩; clear hKQ KQ) | (refine opsW_nil (hKQ _ _ _ (nrmB ?_)); clear hKQ KQ) | refine condT rfl ?_ | refine condF rfl ?_ | refine WP_skip (nrmB ?_) | refine WP_ret (nrmC ?_) | refine WP_exit (nrmC ?_))
                    first
                    | exact endA
                · have hE : shortB (rdR xs y) = true := by simp [shortB]; omega
                  simp only [hE, Bool.false_eq_true, if_false, if_true, reduceIte] at h
                  repeat' (first | (simp only [if_true, if_false, Bool.false_eq_true, Bool.not_true, Bool.not_false, reduceIte] at h) | (split at h) | (rw [Option.bind_eq_some_iff] at h; obtain ⟨_, hbb, h⟩ := h; try (simp only [Option.some.injEq] at hbb; subst hbb)) | (cases h; done) | (simp only [Option.some.injEq, Prod.mk.injEq] at h; subst h) | (simp only [Option.some.injEq, Prod.mk.injEq] at h; (have h1 := h.1; have h2 := h.2; clear h; subst h1; first | subst h2 | (obtain ⟨h3, h4⟩ := h2; subst h3; subst h4))))
                  all_goals
                    repeat' (first | refine WP_seq ?_ | refine WP_block ?_ | refine regA 64 fun KQ hKQ => ?_ | refine regD 64 fun KQ hKQ => ?_ | refine opsA rfl rfl rfl rfl (nrmA ?_) | refine opsW_skip rfl (nrmA ?_) | (refine opsW_nil ⟨by kernel_rfl, hKQ _ _ _ (nrmB ?_)⟩; clear hKQ KQ) | (refine opsW_nil (hKQ _ _ _ (nrmB ?_)); clear hKQ KQ) | refine condT rfl ?_ | refine condF rfl ?_ | refine WP_skip (nrmB ?_) | refine WP_ret (nrmC ?_) | refine WP_exit (nrmC ?_))
                    first
                    | (refine ih _ _ _ _ _ (Nat.lt_succ_self _) h ?_; exact wkA)
            · clear ih
              unfold lst3 at h
              repeat' (first | refine WP_seq ?_ | refine WP_block ?_ | refine regA 64 fun KQ hKQ => ?_ | refine regD 64 fun KQ hKQ => ?_ | refine opsA rfl rfl rfl rfl (nrmA ?_) | refine opsW_skip rfl (nrmA ?_) | (refine opsW_nil ⟨by kernel_rfl, hKQ _ _ _ (nrmB ?_)⟩; clear hKQ KQ) | (refine opsW_nil (hKQ _ _ _ (nrmB ?_)); clear hKQ KQ) | refine condT rfl ?_ | refine condF rfl ?_ | refine WP_skip (nrmB ?_) | refine WP_ret (nrmC ?_) | refine WP_exit (nrmC ?_))
              refine WP_loop (WPL_weaken ?_ (WPL_rec (α := Int) (fun k x => chI (fun i => !(rdR xs i).neg) xs.length 1 (fun _ => some 0) k x) r (fun x => (mkE 51 [(42, .p (RL xs)), (43, .p (I (xs.length : Int))), (44, .p (I x))], [], 0)) ?_ k _ h))
              · exact wkA
              · clear h; try clear k
                intro k z K ih h
                simp only [mkE, List.replicate, List.foldl, List.set]
                cases k with
                | zero => simp [chI] at h
                | succ k =>
                  simp only [chI, Bool.not_eq_true', Bool.not_eq_eq_eq_not, Bool.not_true] at h
                  cases hN : (rdR xs z).neg <;> simp only [hN, reduceCtorEq, Bool.true_eq_false, if_false, if_true, reduceIte] at h <;> repeat' (first | (simp only [if_true, if_false, Bool.false_eq_true, Bool.not_true, Bool.not_false, reduceIte] at h) | (split at h) | (rw [Option.bind_eq_some_iff] at h; obtain ⟨_, hbb, h⟩ := h; try (simp only [Option.some.injEq] at hbb; subst hbb)) | (cases h; done) | (simp only [Option.some.injEq, Prod.mk.injEq] at h; subst h) | (simp only [Option.some.injEq, Prod.mk.injEq] at h; (have h1 := h.1; have h2 := h.2; clear h; subst h1; first | subst h2 | (obtain ⟨h3, h4⟩ := h2; subst h3; subst h4))))
                  all_goals
                    repeat' (first | refine WP_seq ?_ | refine WP_block ?_ | refine regA 64 fun KQ hKQ => ?_ | refine regD 64 fun KQ hKQ => ?_ | refine opsA rfl rfl rfl rfl (nrmA ?_) | refine opsW_skip rfl (nrmA ?_) | (refine opsW_nil ⟨by kernel_rfl, hKQ _ _ _ (nrmB ?_)⟩; clear hKQ KQ) | (refine opsW_nil (hKQ _ _ _ (nrmB ?_)); clear hKQ KQ) | refine condT rfl ?_ | refine condF rfl ?_ | refine WP_skip (nrmB ?_) | refine WP_ret (nrmC ?_) | refine WP_exit (nrmC ?_))
                    first
                    | exact endA
                    | (refine ih _ _ _ _ _ (Nat.lt_succ_self _) h ?_; exact wkA)
theorem sx_list.c (xs : List Rt) (n : Int) : Sound Try.prog 30 [RL xs, I n] (I (lstS xs n)) :=
  Sound.len (Entered.of Try.func30 rfl rfl) 0 xs.length _ rfl fun hl => by
    by_cases hn : (xs.length : Int) = n
    · have := (ev_lst xs hl).rounds
      rw [hn] at this
      exact this.elim fun k h => sx_list.snd k xs n _ hn h
    · rw [show lstS xs n = 3 by unfold lstS; rw [if_neg hn]]
      exact runO tok mixed [] 300 6 (Obs.br 0 (neT hn) Obs.nil) (by kernel_rfl)
end Go.Proofs.Ytiondkijgpjgcaa.Pw
namespace Go.Proofs.Ytiondkijgpjgcaa.Pw
open Go Wd Px Mat
set_option linter.unusedVariables false
set_option linter.unusedSimpArgs false
set_option maxRecDepth 100000
set_option maxHeartbeats 8000000
attribute [local irreducible] Int.tmod Int.tdiv
def szB (p : LP) (i : Int) : Bool := decide (((rdL p.rows i).length : Int) = (p.c.length : Int))
def chk2 (p : LP) (k : Nat) : Option Int := chE (fun _ => true) (fun i => entS (rdL p.rows i)) p.rows.length (0 : Int) (fun _ s => some (if s = true then 0 else 1)) k (entS p.c && entS p.need) 0
def chk1 (p : LP) (k : Nat) : Option Int := chI (szB p) p.rows.length 3 (chk2 p) k 0
theorem all_true : ∀ (d i : Nat), allI (fun _ => true) d i = true
  | 0, i => rfl
  | d + 1, i => by simp only [allI, Bool.true_and]; exact all_true d (i + 1)
theorem szB_eq (p : LP) : allI (szB p) p.rows.length 0 = sizeS p := by
  unfold sizeS
  refine allI_congr _ _ fun j _ _ => ?_
  unfold szB
  rw [decide_eq_decide]
  omega
theorem ev_chk (p : LP) (hl : p.rows.length ≤ 9223372036854775807) : Ev (chk1 p) (if sizeS p = true then (if (entS p.c && entS p.need) && allI (fun i => entS (rdL p.rows i)) p.rows.length 0 then 0 else 1) else 3) := by
  have a2 : Ev (chk2 p) _ := ev_chE (fun _ => true) (fun i => entS (rdL p.rows i)) p.rows.length hl (0 : Int) (fun s => if s = true then 0 else 1) (fun _ s => some (if s = true then 0 else 1)) (fun s => Ev.now _) p.rows.length 0 _ (by omega)
  rw [if_pos (all_true _ _)] at a2
  have a1 := ev_chI (szB p) p.rows.length hl 3 _ (chk2 p) a2 p.rows.length 0 (by omega)
  rw [szB_eq] at a1
  exact a1
theorem sx_Check.snd (k : Nat) (p : LP) (r : Int) (h0 : ¬ ((p.c.length : Int) = 0)) (h1 : ¬ (1100 : Int) < (p.c.length : Int)) (h2 : ¬ (8 : Int) < (p.rows.length : Int)) (h3 : (p.need.length : Int) = (p.rows.length : Int)) (h : chk1 p k = some r) : Sound Try.prog 12 [.agg [N p.c, RR p.rows, N p.need]] (I r) := by
  have hg := fun i : Int => getRR (l := p.rows) (i := i)
  have hlen : (p.rows.map N).length = p.rows.length := List.length_map ..
  unfold chk1 at h
  unfold RR
  refine Sound.of_WP tok Try.func12 rfl rfl ?_; simp only [Try.f12, args0, List.map, List.length_cons, List.length_nil, Nat.reduceAdd, Nat.reduceSub, List.replicate, List.cons_append, List.nil_append]
  repeat' (first | refine WP_seq ?_ | refine WP_block ?_ | refine regA 64 fun KQ hKQ => ?_ | refine regD 64 fun KQ hKQ => ?_ | refine opsA rfl rfl rfl rfl (nrmA ?_) | refine opsW_skip rfl (nrmA ?_) | (refine opsW_nil ⟨by kernel_rfl, hKQ _ _ _ (nrmB ?_)⟩; clear hKQ KQ) | (refine opsW_nil (hKQ _ _ _ (nrmB ?_)); clear hKQ KQ) | refine condT rfl ?_ | refine condF rfl ?_ | refine WP_skip (nrmB ?_) | refine WP_ret (nrmC ?_) | refine WP_exit (nrmC ?_))
  refine WP_loop (WPL_weaken ?_ (WPL_rec (α := Int) (fun k x => chI (szB p) p.rows.length 3 (chk2 p) k x) r (fun x => (mkE 66 [(1, .own 0 0), (30, .p (.lst p.rows.length (p.rows.map N))), (31, .p (I (p.rows.length : Int))), (32, .p (I x))], [(0, .pc 25 [N p.c, .lst p.rows.length (p.rows.map N), N p.need])], 1)) ?_ k _ h))
  · exact wkA
  · clear h; try clear k
    intro k x K ih h
    simp only [mkE, List.replicate, List.foldl, List.set]
    cases k with
    | zero => simp [chI] at h
    | succ k =>
      simp only [chI, szB, decide_eq_true_eq] at h
      split at h
      · repeat' (first | (simp only [if_true, if_false, Bool.false_eq_true, Bool.not_true, Bool.not_false, reduceIte] at h) | (split at h) | (rw [Option.bind_eq_some_iff] at h; obtain ⟨_, hbb, h⟩ := h; try (simp only [Option.some.injEq] at hbb; subst hbb)) | (cases h; done) | (simp only [Option.some.injEq, Prod.mk.injEq] at h; subst h) | (simp only [Option.some.injEq, Prod.mk.injEq] at h; (have h1 := h.1; have h2 := h.2; clear h; subst h1; first | subst h2 | (obtain ⟨h3, h4⟩ := h2; subst h3; subst h4))))
        all_goals
          repeat' (first | refine WP_seq ?_ | refine WP_block ?_ | refine regA 64 fun KQ hKQ => ?_ | refine regD 64 fun KQ hKQ => ?_ | refine opsA rfl rfl rfl rfl (nrmA ?_) | refine opsW_skip rfl (nrmA ?_) | (refine opsW_nil ⟨by kernel_rfl, hKQ _ _ _ (nrmB ?_)⟩; clear hKQ KQ) | (refine opsW_nil (hKQ _ _ _ (nrmB ?_)); clear hKQ KQ) | refine condT rfl ?_ | refine condF rfl ?_ | refine WP_skip (nrmB ?_) | refine WP_ret (nrmC ?_) | refine WP_exit (nrmC ?_))
          first
          | exact endA
          | (refine ih _ _ _ _ _ (Nat.lt_succ_self _) h ?_; exact wkA)
      · clear ih
        unfold chk2 at h
        cases hc : entS p.c
        · simp only [hc, Bool.false_and] at h
          have c1 := sx_entries.c p.c
          rw [hc] at c1
          repeat' (first | refine WP_seq ?_ | refine WP_block ?_ | refine regA 64 fun KQ hKQ => ?_ | refine regD 64 fun KQ hKQ => ?_ | refine opsA rfl rfl rfl rfl (nrmA ?_) | refine callA rfl rfl rfl (nrmA ?_) (hs := c1) | refine opsW_skip rfl (nrmA ?_) | (refine opsW_nil ⟨by kernel_rfl, hKQ _ _ _ (nrmB ?_)⟩; clear hKQ KQ) | (refine opsW_nil (hKQ _ _ _ (nrmB ?_)); clear hKQ KQ) | refine condT rfl ?_ | refine condF rfl ?_ | refine WP_skip (nrmB ?_) | refine WP_ret (nrmC ?_) | refine WP_exit (nrmC ?_))
          refine WP_loop (WPL_weaken ?_ (WPL_rec (α := Bool × Int) (fun k x => chE (fun _ => true) (fun i => entS (rdL p.rows i)) p.rows.length (0 : Int) (fun _ s => some (if s = true then 0 else 1)) k x.1 x.2) r (fun x => (mkE 66 [(5, .p (B x.1)), (52, .p (.lst p.rows.length (p.rows.map N))), (53, .p (I (p.rows.length : Int))), (54, .p (I x.2))], [], 0)) ?_ k (false, 0) h))
          · exact wkA
          · clear h; try clear k
            intro k ⟨s, y⟩ K ih h
            simp only [mkE, List.replicate, List.foldl, List.set]
            cases k with
            | zero => simp [chE] at h
            | succ k =>
              simp only [chE, if_true] at h
              cases s
              all_goals
                simp only [Bool.false_and, Bool.true_and, Bool.false_eq_true, if_false, if_true] at h
                repeat' (first | (simp only [if_true, if_false, Bool.false_eq_true, Bool.not_true, Bool.not_false, reduceIte] at h) | (split at h) | (rw [Option.bind_eq_some_iff] at h; obtain ⟨_, hbb, h⟩ := h; try (simp only [Option.some.injEq] at hbb; subst hbb)) | (cases h; done) | (simp only [Option.some.injEq, Prod.mk.injEq] at h; subst h) | (simp only [Option.some.injEq, Prod.mk.injEq] at h; (have h1 := h.1; have h2 := h.2; clear h; subst h1; first | subst h2 | (obtain ⟨h3, h4⟩ := h2; subst h3; subst h4))))
                all_goals
                  repeat' (first | refine WP_seq ?_ | refine WP_block ?_ | refine regA 64 fun KQ hKQ => ?_ | refine regD 64 fun KQ hKQ => ?_ | refine opsA rfl rfl rfl rfl (nrmA ?_) | refine callA rfl rfl rfl (nrmA ?_) (hs := sx_entries.c (rdL p.rows y)) | refine opsW_skip rfl (nrmA ?_) | (refine opsW_nil ⟨by kernel_rfl, hKQ _ _ _ (nrmB ?_)⟩; clear hKQ KQ) | (refine opsW_nil (hKQ _ _ _ (nrmB ?_)); clear hKQ KQ) | refine condT rfl ?_ | refine condF rfl ?_ | refine WP_skip (nrmB ?_) | refine WP_ret (nrmC ?_) | refine WP_exit (nrmC ?_))
                  first
                  | exact endA
                  | (refine ih _ _ _ _ (false, wrap64 (y + 1)) (Nat.lt_succ_self _) h ?_; exact wkA)
                  | (refine ih _ _ _ _ (entS (rdL p.rows y), wrap64 (y + 1)) (Nat.lt_succ_self _) h ?_; exact wkA)
        · simp only [hc, Bool.true_and] at h
          have c1 := sx_entries.c p.c
          rw [hc] at c1
          repeat' (first | refine WP_seq ?_ | refine WP_block ?_ | refine regA 64 fun KQ hKQ => ?_ | refine regD 64 fun KQ hKQ => ?_ | refine opsA rfl rfl rfl rfl (nrmA ?_) | refine callA rfl rfl rfl (nrmA ?_) (hs := c1) | refine callA rfl rfl rfl (nrmA ?_) (hs := sx_entries.c p.need) | refine opsW_skip rfl (nrmA ?_) | (refine opsW_nil ⟨by kernel_rfl, hKQ _ _ _ (nrmB ?_)⟩; clear hKQ KQ) | (refine opsW_nil (hKQ _ _ _ (nrmB ?_)); clear hKQ KQ) | refine condT rfl ?_ | refine condF rfl ?_ | refine WP_skip (nrmB ?_) | refine WP_ret (nrmC ?_) | refine WP_exit (nrmC ?_))
          refine WP_loop (WPL_weaken ?_ (WPL_rec (α := Bool × Int) (fun k x => chE (fun _ => true) (fun i => entS (rdL p.rows i)) p.rows.length (0 : Int) (fun _ s => some (if s = true then 0 else 1)) k x.1 x.2) r (fun x => (mkE 66 [(5, .p (B x.1)), (52, .p (.lst p.rows.length (p.rows.map N))), (53, .p (I (p.rows.length : Int))), (54, .p (I x.2))], [], 0)) ?_ k (entS p.need, 0) h))
          · exact wkA
          · clear h; try clear k
            intro k ⟨s, y⟩ K ih h
            simp only [mkE, List.replicate, List.foldl, List.set]
            cases k with
            | zero => simp [chE] at h
            | succ k =>
              simp only [chE, if_true] at h
              cases s
              all_goals
                simp only [Bool.false_and, Bool.true_and, Bool.false_eq_true, if_false, if_true] at h
                repeat' (first | (simp only [if_true, if_false, Bool.false_eq_true, Bool.not_true, Bool.not_false, reduceIte] at h) | (split at h) | (rw [Option.bind_eq_some_iff] at h; obtain ⟨_, hbb, h⟩ := h; try (simp only [Option.some.injEq] at hbb; subst hbb)) | (cases h; done) | (simp only [Option.some.injEq, Prod.mk.injEq] at h; subst h) | (simp only [Option.some.injEq, Prod.mk.injEq] at h; (have h1 := h.1; have h2 := h.2; clear h; subst h1; first | subst h2 | (obtain ⟨h3, h4⟩ := h2; subst h3; subst h4))))
                all_goals
                  repeat' (first | refine WP_seq ?_ | refine WP_block ?_ | refine regA 64 fun KQ hKQ => ?_ | refine regD 64 fun KQ hKQ => ?_ | refine opsA rfl rfl rfl rfl (nrmA ?_) | refine callA rfl rfl rfl (nrmA ?_) (hs := sx_entries.c (rdL p.rows y)) | refine opsW_skip rfl (nrmA ?_) | (refine opsW_nil ⟨by kernel_rfl, hKQ _ _ _ (nrmB ?_)⟩; clear hKQ KQ) | (refine opsW_nil (hKQ _ _ _ (nrmB ?_)); clear hKQ KQ) | refine condT rfl ?_ | refine condF rfl ?_ | refine WP_skip (nrmB ?_) | refine WP_ret (nrmC ?_) | refine WP_exit (nrmC ?_))
                  first
                  | exact endA
                  | (refine ih _ _ _ _ (false, wrap64 (y + 1)) (Nat.lt_succ_self _) h ?_; exact wkA)
                  | (refine ih _ _ _ _ (entS (rdL p.rows y), wrap64 (y + 1)) (Nat.lt_succ_self _) h ?_; exact wkA)
theorem sx_Check.c (p : LP) : Sound Try.prog 12 [LPv p] (I (chkS p)) := by
  unfold LPv chkS
  by_cases h0 : p.c.length = 0
  · have h0' : (p.c.length : Int) = 0 := by omega
    rw [if_pos h0]
    exact runO tok mixed [] 300 6 (Obs.br 0 (eqT h0') Obs.nil) (by kernel_rfl)
  have h0' : ¬ ((p.c.length : Int) = 0) := by omega
  rw [if_neg h0]
  by_cases h1 : (1100 : Int) < (p.c.length : Int)
  · rw [if_pos (by omega)]
    exact runO tok mixed [] 300 6 (Obs.br 0 (eqF h0') (Obs.br 0 (ltT h1) Obs.nil)) (by kernel_rfl)
  by_cases h2 : (8 : Int) < (p.rows.length : Int)
  · rw [if_pos (by omega)]
    exact runO tok mixed [] 300 6 (Obs.br 0 (eqF h0') (Obs.br 0 (ltF h1) (Obs.br 0 (ltT h2) Obs.nil))) (by kernel_rfl)
  rw [if_neg (by omega)]
  by_cases h3 : (p.need.length : Int) = (p.rows.length : Int)
  · rw [if_neg (by omega)]
    exact (ev_chk p (by omega)).rounds.elim fun k h => sx_Check.snd k p _ h0' h1 h2 h3 h
  · rw [if_pos (by omega)]
    exact runO tok mixed [] 300 6 (Obs.br 0 (eqF h0') (Obs.br 0 (ltF h1) (Obs.br 0 (ltF h2) (Obs.br 0 (neT h3) Obs.nil)))) (by kernel_rfl)
theorem sx_bounded.c (l : List Int) (xs : List Rt) (b sg : Int) (hle : l.length ≤ xs.length) (hs : sg = 1 ∨ sg = -1) : Sound Try.prog 31 [N l, RL xs, I b, I sg] (B (bndS l xs b sg)) := by
  have c1 := sx_dot.c l xs hle
  have c2 := sx_number.c b
  have c3 := rat_Cmp.c (dotS l xs).1 (numR b)
  have hr := cmpR_range (dotS l xs).1 (numR b)
  unfold bndS
  generalize (dotS l xs).1 = s at *
  generalize (dotS l xs).2 = e at *
  generalize numR b = n at *
  generalize (cmpR s n).2 = f at *
  generalize (cmpR s n).1 = c at *
  by_cases h1 : e = 0
  · rw [decide_eq_true h1, Bool.true_and]
    by_cases h2 : f = 0
    · rw [decide_eq_true h2, Bool.true_and]
      have hw : IntKind.i64.wrap (c * sg) = c * sg := by rcases hs with rfl | rfl <;> exact wI (by omega) (by omega)
      by_cases h3 : c * sg < 0
      · rw [decide_eq_true h3]
        have h4 : ¬ (0 : Int) ≤ c * sg := by omega
        exact runO tok mixed [36, 46, 37] 300 6 (Obs.cons c1 (Obs.br 0 (neF h1) (Obs.cons c2 (Obs.cons c3 (Obs.br 0 (eqT h2) (Obs.val 0 hw (Obs.br 0 (leF h4) Obs.nil))))))) (by kernel_rfl)
      · rw [decide_eq_false h3]
        have h4 : (0 : Int) ≤ c * sg := by omega
        exact runO tok mixed [36, 46, 37] 300 6 (Obs.cons c1 (Obs.br 0 (neF h1) (Obs.cons c2 (Obs.cons c3 (Obs.br 0 (eqT h2) (Obs.val 0 hw (Obs.br 0 (leT h4) Obs.nil))))))) (by kernel_rfl)
    · rw [decide_eq_false h2, Bool.false_and]
      exact runO tok mixed [36, 46, 37] 300 6 (Obs.cons c1 (Obs.br 0 (neF h1) (Obs.cons c2 (Obs.cons c3 (Obs.br 0 (eqF h2) Obs.nil))))) (by kernel_rfl)
  · rw [decide_eq_false h1, Bool.false_and]
    exact runO tok mixed [36, 46, 37] 300 6 (Obs.cons c1 (Obs.br 0 (neT h1) Obs.nil)) (by kernel_rfl)
end Go.Proofs.Ytiondkijgpjgcaa.Pw
namespace Go.Proofs.Ytiondkijgpjgcaa.Pw
open Go Wd Px Mat
set_option linter.unusedVariables false
set_option linter.unusedSimpArgs false
set_option maxRecDepth 100000
set_option maxHeartbeats 8000000
attribute [local irreducible] Int.tmod Int.tdiv
theorem chk_szI {p : LP} (h : Chk p) {i : Int} (h0 : 0 ≤ i) (h1 : i < (p.rows.length : Int)) : (rdL p.rows i).length = p.c.length := by
  obtain ⟨n, rfl⟩ : ∃ n : Nat, i = n := ⟨i.toNat, by omega⟩
  exact h.sz n (by omega)
theorem lst_len {xs : List Rt} {n : Int} (h : lstS xs n ≠ 3) : (xs.length : Int) = n := by
  unfold lstS at h
  by_cases e : (xs.length : Int) = n
  · exact e
  · rw [if_neg e] at h; exact absurd rfl h
theorem sx_Feasible.snd (k : Nat) (p : LP) (xs : List Rt) (r : Bool) (hC : Chk p) (hx : (xs.length : Int) = (p.c.length : Int)) (h0 : chkS p = 0) (hl : lstS xs p.c.length = 0)
    (h : chI (fun i => bndS (rdL p.rows i) xs (rdI p.need i) 1) p.rows.length false (fun _ => some true) k 0 = some r) : Sound Try.prog 15 [.agg [N p.c, RR p.rows, N p.need], RL xs] (B r) := by
  have hrd := rdI_rd p.need
  have hg := fun i : Int => getRR (l := p.rows) (i := i)
  have hlen : (p.rows.map N).length = p.rows.length := List.length_map ..
  have c1 := sx_Check.c p
  rw [h0] at c1
  have c2 := sx_list.c xs p.c.length
  rw [hl] at c2
  have hn : (p.need.length : Int) = (p.rows.length : Int) := by have := hC.n1; omega
  refine Sound.of_WP tok Try.func15 rfl rfl ?_; simp only [Try.f15, args0, List.map, List.length_cons, List.length_nil, Nat.reduceAdd, Nat.reduceSub, List.replicate, List.cons_append, List.nil_append]
  repeat' (first | refine WP_seq ?_ | refine WP_block ?_ | refine regA 64 fun KQ hKQ => ?_ | refine regD 64 fun KQ hKQ => ?_ | refine opsA rfl rfl rfl rfl (nrmA ?_) | refine callA rfl rfl rfl (nrmA ?_) (hs := c1) | refine callA rfl rfl rfl (nrmA ?_) (hs := c2) | refine opsW_skip rfl (nrmA ?_) | (refine opsW_nil ⟨by kernel_rfl, hKQ _ _ _ (nrmB ?_)⟩; clear hKQ KQ) | (refine opsW_nil (hKQ _ _ _ (nrmB ?_)); clear hKQ KQ) | refine condT rfl ?_ | refine condF rfl ?_ | refine WP_skip (nrmB ?_) | refine WP_ret (nrmC ?_) | refine WP_exit (nrmC ?_))
  refine WP_loop (WPL_weaken ?_ (WPL_rec (α := Int) (fun k x => chI (fun i => bndS (rdL p.rows i) xs (rdI p.need i) 1) p.rows.length false (fun _ => some true) k x) r (fun x => (mkE 36 [(1, .p (RL xs)), (2, .own 0 0), (19, .p (.lst p.rows.length (p.rows.map N))), (20, .p (I (p.rows.length : Int))), (21, .p (I x))], [(0, .pc 25 [N p.c, .lst p.rows.length (p.rows.map N), N p.need])], 1)) ?_ k _ h))
  · unfold RR
    exact wkA
  · clear h; try clear k
    intro k x K ih h
    simp only [mkE, List.replicate, List.foldl, List.set]
    cases k with
    | zero => simp [chI] at h
    | succ k =>
      simp only [chI] at h
      cases hb : bndS (rdL p.rows x) xs (rdI p.need x) 1 <;> simp only [hb, Bool.false_eq_true, if_false, if_true] at h <;> repeat' (first | (simp only [if_true, if_false, Bool.false_eq_true, Bool.not_true, Bool.not_false, reduceIte] at h) | (split at h) | (rw [Option.bind_eq_some_iff] at h; obtain ⟨_, hbb, h⟩ := h; try (simp only [Option.some.injEq] at hbb; subst hbb)) | (cases h; done) | (simp only [Option.some.injEq, Prod.mk.injEq] at h; subst h) | (simp only [Option.some.injEq, Prod.mk.injEq] at h; (have h1 := h.1; have h2 := h.2; clear h; subst h1; first | subst h2 | (obtain ⟨h3, h4⟩ := h2; subst h3; subst h4))))
      all_goals
        try (have hle : (rdL p.rows x).length ≤ xs.length := by have := chk_szI hC (i := x) (by omega) (by omega); omega)
        try (have c3 := sx_bounded.c (rdL p.rows x) xs (rdI p.need x) 1 hle (.inl rfl); rw [hb] at c3)
        try (have hx3 : x < (p.need.length : Int) := by omega)
        repeat' (first | refine WP_seq ?_ | refine WP_block ?_ | refine regA 64 fun KQ hKQ => ?_ | refine regD 64 fun KQ hKQ => ?_ | refine opsA rfl rfl rfl rfl (nrmA ?_) | refine callA rfl rfl rfl (nrmA ?_) (hs := c3) | refine opsW_skip rfl (nrmA ?_) | (refine opsW_nil ⟨by kernel_rfl, hKQ _ _ _ (nrmB ?_)⟩; clear hKQ KQ) | (refine opsW_nil (hKQ _ _ _ (nrmB ?_)); clear hKQ KQ) | refine condT rfl ?_ | refine condF rfl ?_ | refine WP_skip (nrmB ?_) | refine WP_ret (nrmC ?_) | refine WP_exit (nrmC ?_))
        first
        | exact endA
        | (refine ih _ _ _ _ _ (Nat.lt_succ_self _) h ?_; exact wkA)
theorem sx_Feasible.c (p : LP) (xs : List Rt) : Sound Try.prog 15 [LPv p, RL xs] (B (feasS p xs)) := by
  have c1 := sx_Check.c p
  have c2 := sx_list.c xs p.c.length
  unfold feasS
  rw [← lst_fine]
  by_cases h0 : chkS p = 0
  · rw [decide_eq_true h0, Bool.true_and]
    rw [h0] at c1
    have ee : (0 : Int) = 0 := rfl
    by_cases hl : lstS xs p.c.length = 0
    · rw [decide_eq_true hl, Bool.true_and]
      have hC := chk_of h0
      have hx := lst_len (xs := xs) (n := p.c.length) (by omega)
      have hr := hC.r1
      have e : allI (fun i => bndS (rdL p.rows i) xs (rdI p.need i) 1) p.rows.length 0 = if allI (fun i => bndS (rdL p.rows i) xs (rdI p.need i) 1) p.rows.length 0 = true then true else false := by simp
      rw [e]
      exact (ev_chI _ _ (by omega) false true (fun _ => some true) (Ev.now _) p.rows.length 0 (by omega)).rounds.elim fun k h => sx_Feasible.snd k p xs _ hC hx h0 hl h
    · rw [decide_eq_false hl, Bool.false_and]
      exact runO tok mixed [12, 30] 300 6 (Obs.cons c1 (Obs.br 0 (neF ee) (Obs.cons c2 (Obs.br 0 (neT hl) Obs.nil)))) (by kernel_rfl)
  · rw [decide_eq_false h0, Bool.false_and]
    exact runO tok mixed [12, 30] 300 6 (Obs.cons c1 (Obs.br 0 (neT h0) Obs.nil)) (by kernel_rfl)
theorem sx_Value.c (p : LP) (xs : List Rt) : Sound Try.prog 24 [LPv p, RL xs] (.tup [R (valueS p xs).1, I (valueS p xs).2]) := by
  have c1 := sx_Check.c p
  have c2 := sx_list.c xs p.c.length
  unfold valueS
  by_cases h0 : chkS p = 0
  · rw [if_pos h0]
    rw [h0] at c1
    have ee : (0 : Int) = 0 := rfl
    by_cases h1 : lstS xs p.c.length = 3
    · rw [if_pos (.inl h1)]
      rw [h1] at c2 ⊢
      have e3 : (3 : Int) = 3 := rfl
      exact runO tok mixed [12, 30] 300 6 (Obs.cons c1 (Obs.br 0 (neF ee) (Obs.cons c2 (Obs.br 0 (eqT e3) Obs.nil)))) (by kernel_rfl)
    · by_cases h2 : lstS xs p.c.length = 32
      · rw [if_pos (.inr h2)]
        rw [h2] at c2 ⊢
        have e3 : (32 : Int) ≠ 3 := by decide
        have e4 : (32 : Int) = 32 := rfl
        exact runO tok mixed [12, 30] 300 6 (Obs.cons c1 (Obs.br 0 (neF ee) (Obs.cons c2 (Obs.br 0 (eqF e3) (Obs.br 0 (eqT e4) Obs.nil))))) (by kernel_rfl)
      · rw [if_neg (by omega)]
        have hx := lst_len h1
        have c3 := sx_dot.c p.c xs (by omega)
        exact runO tok mixed [12, 30, 36] 300 6 (Obs.cons c1 (Obs.br 0 (neF ee) (Obs.cons c2 (Obs.br 0 (eqF h1) (Obs.br 0 (eqF h2) (Obs.cons c3 Obs.nil)))))) (by kernel_rfl)
  · rw [if_neg h0]
    exact runO tok mixed [12] 300 6 (Obs.cons c1 (Obs.br 0 (neT h0) Obs.nil)) (by kernel_rfl)
end Go.Proofs.Ytiondkijgpjgcaa.Pw
namespace Go.Proofs.Ytiondkijgpjgcaa.Pw
open Go Wd Px Mat
set_option linter.unusedVariables false
set_option linter.unusedSimpArgs false
set_option maxRecDepth 100000
set_option maxHeartbeats 8000000
attribute [local irreducible] Int.tmod Int.tdiv
theorem r45_ranged.snd (k : Nat) (l : List Int) (r : Bool) (h : chI (fun i => entB (rdI l i)) l.length false (fun _ => some true) k 0 = some r) : Sound Try.prog 29 [N l] (B r) := by
  have hrd := rdI_rd l
  refine Sound.of_WP tok Try.func29 rfl rfl ?_; simp only [Try.f29, args0, List.map, List.length_cons, List.length_nil, Nat.reduceAdd, Nat.reduceSub, List.replicate, List.cons_append, List.nil_append]
  repeat' (first | refine WP_seq ?_ | refine WP_block ?_ | refine regA 64 fun KQ hKQ => ?_ | refine regD 64 fun KQ hKQ => ?_ | refine opsA rfl rfl rfl rfl (nrmA ?_) | refine opsW_skip rfl (nrmA ?_) | (refine opsW_nil ⟨by kernel_rfl, hKQ _ _ _ (nrmB ?_)⟩; clear hKQ KQ) | (refine opsW_nil (hKQ _ _ _ (nrmB ?_)); clear hKQ KQ) | refine condT rfl ?_ | refine condF rfl ?_ | refine WP_skip (nrmB ?_) | refine WP_ret (nrmC ?_) | refine WP_exit (nrmC ?_))
  refine WP_loop (WPL_weaken ?_ (WPL_rec (α := Int) (fun k x => chI (fun i => entB (rdI l i)) l.length false (fun _ => some true) k x) r (fun x => (mkE 22 [(0, .p (N l)), (3, .p (I x))], [], 0)) ?_ k _ h))
  · exact wkA
  · clear h; try clear k
    intro k x K ih h
    simp only [mkE, List.replicate, List.foldl, List.set]
    cases k with
    | zero => simp [chI] at h
    | succ k =>
      simp only [chI] at h
      by_cases h1 : rdI l x < -65536
      · have hE : entB (rdI l x) = false := by simp [entB, h1]
        simp only [hE, Bool.false_eq_true, if_false, if_true, reduceIte] at h
        repeat' (first | (simp only [if_true, if_false, Bool.false_eq_true, Bool.not_true, Bool.not_false, reduceIte] at h) | (split at h) | (rw [Option.bind_eq_some_iff] at h; obtain ⟨_, hbb, h⟩ := h; try (simp only [Option.some.injEq] at hbb; subst hbb)) | (cases h; done) | (simp only [Option.some.injEq, Prod.mk.injEq] at h; subst h) | (simp only [Option.some.injEq, Prod.mk.injEq] at h; (have h1 := h.1; have h2 := h.2; clear h; subst h1; first | subst h2 | (obtain ⟨h3, h4⟩ := h2; subst h3; subst h4))))
        all_goals
          repeat' (first | refine WP_seq ?_ | refine WP_block ?_ | refine regA 64 fun KQ hKQ => ?_ | refine regD 64 fun KQ hKQ => ?_ | refine opsA rfl rfl rfl rfl (nrmA ?_) | refine opsW_skip rfl (nrmA ?_) | (refine opsW_nil ⟨by kernel_rfl, hKQ _ _ _ (nrmB ?_)⟩; clear hKQ KQ) | (refine opsW_nil (hKQ _ _ _ (nrmB ?_)); clear hKQ KQ) | refine condT rfl ?_ | refine condF rfl ?_ | refine WP_skip (nrmB ?_) | refine WP_ret (nrmC ?_) | refine WP_exit (nrmC ?_))
          first
          | exact endA
      · by_cases h2 : 65536 < rdI l x
        · have hE : entB (rdI l x) = false := by simp [entB, h2]
          simp only [hE, Bool.false_eq_true, if_false, if_true, reduceIte] at h
          repeat' (first | (simp only [if_true, if_false, Bool.false_eq_true, Bool.not_true, Bool.not_false, reduceIte] at h) | (split at h) | (rw [Option.bind_eq_some_iff] at h; obtain ⟨_, hbb, h⟩ := h; try (simp only [Option.some.injEq] at hbb; subst hbb)) | (cases h; done) | (simp only [Option.some.injEq, Prod.mk.injEq] at h; subst h) | (simp only [Option.some.injEq, Prod.mk.injEq] at h; (have h1 := h.1; have h2 := h.2; clear h; subst h1; first | subst h2 | (obtain ⟨h3, h4⟩ := h2; subst h3; subst h4))))
          all_goals
            repeat' (first | refine WP_seq ?_ | refine WP_block ?_ | refine regA 64 fun KQ hKQ => ?_ | refine regD 64 fun KQ hKQ => ?_ | refine opsA rfl rfl rfl rfl (nrmA ?_) | refine opsW_skip rfl (nrmA ?_) | (refine opsW_nil ⟨by kernel_rfl, hKQ _ _ _ (nrmB ?_)⟩; clear hKQ KQ) | (refine opsW_nil (hKQ _ _ _ (nrmB ?_)); clear hKQ KQ) | refine condT rfl ?_ | refine condF rfl ?_ | refine WP_skip (nrmB ?_) | refine WP_ret (nrmC ?_) | refine WP_exit (nrmC ?_))
            first
            | exact endA
        · have hE : entB (rdI l x) = true := by simp [entB, h1, h2]
          simp only [hE, Bool.false_eq_true, if_false, if_true, reduceIte] at h
          repeat' (first | (simp only [if_true, if_false, Bool.false_eq_true, Bool.not_true, Bool.not_false, reduceIte] at h) | (split at h) | (rw [Option.bind_eq_some_iff] at h; obtain ⟨_, hbb, h⟩ := h; try (simp only [Option.some.injEq] at hbb; subst hbb)) | (cases h; done) | (simp only [Option.some.injEq, Prod.mk.injEq] at h; subst h) | (simp only [Option.some.injEq, Prod.mk.injEq] at h; (have h1 := h.1; have h2 := h.2; clear h; subst h1; first | subst h2 | (obtain ⟨h3, h4⟩ := h2; subst h3; subst h4))))
          all_goals
            repeat' (first | refine WP_seq ?_ | refine WP_block ?_ | refine regA 64 fun KQ hKQ => ?_ | refine regD 64 fun KQ hKQ => ?_ | refine opsA rfl rfl rfl rfl (nrmA ?_) | refine opsW_skip rfl (nrmA ?_) | (refine opsW_nil ⟨by kernel_rfl, hKQ _ _ _ (nrmB ?_)⟩; clear hKQ KQ) | (refine opsW_nil (hKQ _ _ _ (nrmB ?_)); clear hKQ KQ) | refine condT rfl ?_ | refine condF rfl ?_ | refine WP_skip (nrmB ?_) | refine WP_ret (nrmC ?_) | refine WP_exit (nrmC ?_))
            first
            | exact endA
            | (refine ih _ _ _ _ _ (Nat.lt_succ_self _) h ?_; exact wkA)
theorem r45_ranged.c (l : List Int) : Sound Try.prog 29 [N l] (B (entS l)) :=
  Sound.len (Entered.of Try.func29 rfl rfl) 0 l.length _ rfl fun hl => by
    have e : entS l = if allI (fun i => entB (rdI l i)) l.length 0 = true then true else false := by unfold entS; simp
    rw [e]
    exact (ev_chI _ _ hl false true (fun _ => some true) (Ev.now _) l.length 0 (by omega)).rounds.elim fun k h => r45_ranged.snd k l _ h
theorem r45_of.c (n : Int) (h : -9223372036854775808 ≤ n ∧ n ≤ 9223372036854775807) : Sound Try.prog 34 [I n] (R (numR n)) := by
  have c1 := r3_Of.c n h
  exact runO tok mixed [54] 300 6 (Obs.cons c1 Obs.nil) (by kernel_rfl)
def chkE (p : LP) (k : Nat) : Option Int := chE (szB p) (fun i => entS (rdL p.rows i)) p.rows.length (3 : Int) (fun _ s => some (if s = true then 0 else 1)) k (entS p.c && entS p.need) 0
theorem ev_chkE (p : LP) (hl : p.rows.length ≤ 9223372036854775807) : Ev (chkE p) (if sizeS p = true then (if (entS p.c && entS p.need) && allI (fun i => entS (rdL p.rows i)) p.rows.length 0 then 0 else 1) else 3) := by
  have a2 : Ev (chkE p) _ := ev_chE (szB p) (fun i => entS (rdL p.rows i)) p.rows.length hl (3 : Int) (fun s => if s = true then 0 else 1) (fun _ s => some (if s = true then 0 else 1)) (fun s => Ev.now _) p.rows.length 0 _ (by omega)
  rw [szB_eq] at a2
  exact a2
theorem r45_Check.snd (k : Nat) (p : LP) (r : Int) (h0 : ¬ ((p.c.length : Int) = 0)) (h1 : ¬ (1100 : Int) < (p.c.length : Int)) (h2 : ¬ (8 : Int) < (p.rows.length : Int)) (h3 : (p.need.length : Int) = (p.rows.length : Int)) (h : chkE p k = some r) : Sound Try.prog 13 [.agg [N p.c, RR p.rows, N p.need]] (I r) := by
  have hg := fun i : Int => getRR (l := p.rows) (i := i)
  have hlen : (p.rows.map N).length = p.rows.length := List.length_map ..
  unfold chkE at h
  unfold RR
  have c1 := r45_ranged.c p.c
  have c2 := r45_ranged.c p.need
  refine Sound.of_WP tok Try.func13 rfl rfl ?_; simp only [Try.f13, args0, List.map, List.length_cons, List.length_nil, Nat.reduceAdd, Nat.reduceSub, List.replicate, List.cons_append, List.nil_append]
  cases hc : entS p.c
  all_goals
    simp only [hc, Bool.false_and, Bool.true_and] at h
    rw [hc] at c1
    repeat' (first | refine WP_seq ?_ | refine WP_block ?_ | refine regA 64 fun KQ hKQ => ?_ | refine regD 64 fun KQ hKQ => ?_ | refine opsA rfl rfl rfl rfl (nrmA ?_) | refine callA rfl rfl rfl (nrmA ?_) (hs := c1) | refine callA rfl rfl rfl (nrmA ?_) (hs := c2) | refine opsW_skip rfl (nrmA ?_) | (refine opsW_nil ⟨by kernel_rfl, hKQ _ _ _ (nrmB ?_)⟩; clear hKQ KQ) | (refine opsW_nil (hKQ _ _ _ (nrmB ?_)); clear hKQ KQ) | refine condT rfl ?_ | refine condF rfl ?_ | refine WP_skip (nrmB ?_) | refine WP_ret (nrmC ?_) | refine WP_exit (nrmC ?_))
    first
    | refine WP_loop (WPL_weaken ?_ (WPL_rec (α := Bool × Int) (fun k x => chE (szB p) (fun i => entS (rdL p.rows i)) p.rows.length (3 : Int) (fun _ s => some (if s = true then 0 else 1)) k x.1 x.2) r (fun x => (mkE 62 [(1, .own 0 0), (3, .p (B x.1)), (4, .p (I x.2))], [(0, .pc 25 [N p.c, .lst p.rows.length (p.rows.map N), N p.need])], 1)) ?_ k (false, 0) h))
    | refine WP_loop (WPL_weaken ?_ (WPL_rec (α := Bool × Int) (fun k x => chE (szB p) (fun i => entS (rdL p.rows i)) p.rows.length (3 : Int) (fun _ s => some (if s = true then 0 else 1)) k x.1 x.2) r (fun x => (mkE 62 [(1, .own 0 0), (3, .p (B x.1)), (4, .p (I x.2))], [(0, .pc 25 [N p.c, .lst p.rows.length (p.rows.map N), N p.need])], 1)) ?_ k (entS p.need, 0) h))
    · exact wkA
    · clear h c1 c2; try clear k
      intro k ⟨s, y⟩ K ih h
      simp only [mkE, List.replicate, List.foldl, List.set]
      cases k with
      | zero => simp [chE] at h
      | succ k =>
        simp only [chE, szB, decide_eq_true_eq] at h
        cases s
        all_goals
          simp only [Bool.false_and, Bool.true_and, Bool.false_eq_true, if_false, if_true] at h
          repeat' (first | (simp only [if_true, if_false, Bool.false_eq_true, Bool.not_true, Bool.not_false, reduceIte] at h) | (split at h) | (rw [Option.bind_eq_some_iff] at h; obtain ⟨_, hbb, h⟩ := h; try (simp only [Option.some.injEq] at hbb; subst hbb)) | (cases h; done) | (simp only [Option.some.injEq, Prod.mk.injEq] at h; subst h) | (simp only [Option.some.injEq, Prod.mk.injEq] at h; (have h1 := h.1; have h2 := h.2; clear h; subst h1; first | subst h2 | (obtain ⟨h3, h4⟩ := h2; subst h3; subst h4))))
          all_goals
            repeat' (first | refine WP_seq ?_ | refine WP_block ?_ | refine regA 64 fun KQ hKQ => ?_ | refine regD 64 fun KQ hKQ => ?_ | refine opsA rfl rfl rfl rfl (nrmA ?_) | refine callA rfl rfl rfl (nrmA ?_) (hs := r45_ranged.c (rdL p.rows y)) | refine opsW_skip rfl (nrmA ?_) | (refine opsW_nil ⟨by kernel_rfl, hKQ _ _ _ (nrmB ?_)⟩; clear hKQ KQ) | (refine opsW_nil (hKQ _ _ _ (nrmB ?_)); clear hKQ KQ) | refine condT rfl ?_ | refine condF rfl ?_ | refine WP_skip (nrmB ?_) | refine WP_ret (nrmC ?_) | refine WP_exit (nrmC ?_))
            first
            | exact endA
            | (refine ih _ _ _ _ (false, wrap64 (y + 1)) (Nat.lt_succ_self _) h ?_; exact wkA)
            | (refine ih _ _ _ _ (entS (rdL p.rows y), wrap64 (y + 1)) (Nat.lt_succ_self _) h ?_; exact wkA)
theorem r45_Check.c (p : LP) : Sound Try.prog 13 [LPv p] (I (chkS p)) := by
  unfold LPv chkS
  by_cases h0 : p.c.length = 0
  · have h0' : (p.c.length : Int) = 0 := by omega
    rw [if_pos h0]
    exact runO tok mixed [] 300 6 (Obs.br 0 (eqT h0') Obs.nil) (by kernel_rfl)
  have h0' : ¬ ((p.c.length : Int) = 0) := by omega
  rw [if_neg h0]
  by_cases h1 : (1100 : Int) < (p.c.length : Int)
  · rw [if_pos (by omega)]
    exact runO tok mixed [] 300 6 (Obs.br 0 (eqF h0') (Obs.br 0 (ltT h1) Obs.nil)) (by kernel_rfl)
  by_cases h2 : (8 : Int) < (p.rows.length : Int)
  · rw [if_pos (by omega)]
    exact runO tok mixed [] 300 6 (Obs.br 0 (eqF h0') (Obs.br 0 (ltF h1) (Obs.br 0 (ltT h2) Obs.nil))) (by kernel_rfl)
  rw [if_neg (by omega)]
  by_cases h3 : (p.need.length : Int) = (p.rows.length : Int)
  · rw [if_neg (by omega)]
    exact (ev_chkE p (by omega)).rounds.elim fun k h => r45_Check.snd k p _ h0' h1 h2 h3 h
  · rw [if_pos (by omega)]
    exact runO tok mixed [] 300 6 (Obs.br 0 (eqF h0') (Obs.br 0 (ltF h1) (Obs.br 0 (ltF h2) (Obs.br 0 (neT h3) Obs.nil)))) (by kernel_rfl)
theorem r45_dot.snd (k : Nat) (l : List Int) (xs : List Rt) (r : Rt) (e : Int) (hle : l.length ≤ xs.length) (hr : ∀ i, -9223372036854775808 ≤ rdI l i ∧ rdI l i ≤ 9223372036854775807) (h : dot_l0 l xs k (numR 0) 0 = some (r, e)) : Sound Try.prog 33 [N l, RL xs] (.tup [R r, I e]) := by
  have hrd := rdI_rd l
  have hg := fun i : Int => getR (l := xs) (i := i)
  have hlen := RC_len xs
  have c0 := r45_of.c 0 (by decide)
  refine Sound.of_WP tok Try.func33 rfl rfl ?_; simp only [Try.f33, args0, List.map, List.length_cons, List.length_nil, Nat.reduceAdd, Nat.reduceSub, List.replicate, List.cons_append, List.nil_append]
  repeat' (first | refine WP_seq ?_ | refine WP_block ?_ | refine regA 64 fun KQ hKQ => ?_ | refine regD 64 fun KQ hKQ => ?_ | refine opsA rfl rfl rfl rfl (nrmA ?_) | refine callA rfl rfl rfl (nrmA ?_) (hs := c0) | refine opsW_skip rfl (nrmA ?_) | (refine opsW_nil ⟨by kernel_rfl, hKQ _ _ _ (nrmB ?_)⟩; clear hKQ KQ) | (refine opsW_nil (hKQ _ _ _ (nrmB ?_)); clear hKQ KQ) | refine condT rfl ?_ | refine condF rfl ?_ | refine WP_skip (nrmB ?_) | refine WP_ret (nrmC ?_) | refine WP_exit (nrmC ?_))
  refine WP_loop (WPL_weaken ?_ (WPL_rec (α := Rt × Int) (fun k x => dot_l0 l xs k x.1 x.2) (r, e) (fun x => (mkE 45 [(0, .p (N l)), (1, .p (RL xs)), (4, .own 0 0), (6, .own 1 0), (7, .p (I x.2))], [(1, .pc 36 [B x.1.neg, N x.1.p, N x.1.q]), (0, .pc 36 [B false, .v (.slice none 0 0), .v (.slice none 0 0)])], 2)) ?_ k (numR 0, 0) h))
  · exact wkA
  · clear h; try clear k
    intro k ⟨s, x⟩ K ih h
    simp only [mkE, List.replicate, List.foldl, List.set]
    have cn := r45_of.c (rdI l x) (hr x)
    clear hr c0
    cases k with
    | zero => simp [dot_l0] at h
    | succ k =>
      simp only [dot_l0] at h
      repeat' (first | (simp only [if_true, if_false, Bool.false_eq_true, Bool.not_true, Bool.not_false, reduceIte] at h) | (split at h) | (rw [Option.bind_eq_some_iff] at h; obtain ⟨_, hbb, h⟩ := h; try (simp only [Option.some.injEq] at hbb; subst hbb)) | (cases h; done) | (simp only [Option.some.injEq, Prod.mk.injEq] at h; subst h) | (simp only [Option.some.injEq, Prod.mk.injEq] at h; (have h1 := h.1; have h2 := h.2; clear h; subst h1; first | subst h2 | (obtain ⟨h3, h4⟩ := h2; subst h3; subst h4))))
      all_goals
        try (have hx2 : x < (xs.length : Int) := by omega)
        repeat' (first | refine WP_seq ?_ | refine WP_block ?_ | refine regA 64 fun KQ hKQ => ?_ | refine regD 64 fun KQ hKQ => ?_ | refine opsA rfl rfl rfl rfl (nrmA ?_) | refine callA rfl rfl rfl (nrmA ?_) (hs := cn) | refine callA rfl rfl rfl (nrmA ?_) (hs := r3_Mul.c (numR (rdI l x)) (rdR xs x)) | refine callA rfl rfl rfl (nrmA ?_) (hs := r3_Add.c s (mulR (numR (rdI l x)) (rdR xs x)).1) | refine opsW_skip rfl (nrmA ?_) | (refine opsW_nil ⟨by kernel_rfl, hKQ _ _ _ (nrmB ?_)⟩; clear hKQ KQ) | (refine opsW_nil (hKQ _ _ _ (nrmB ?_)); clear hKQ KQ) | refine condT rfl ?_ | refine condF rfl ?_ | refine WP_skip (nrmB ?_) | refine WP_ret (nrmC ?_) | refine WP_exit (nrmC ?_))
        first
        | (refine Res_of rfl ?_ ?_; (focus (first | (refine ⟨⟨?_, ?_⟩, trivial⟩ <;> first | exact Nat.le_of_ble_eq_true rfl | (refine Nat.le_of_ble_eq_true ?_; kernel_rfl) | (intro hh; cases hh)) | (refine ⟨⟨?_, ?_⟩, trivial, trivial⟩ <;> first | (refine Nat.le_of_ble_eq_true ?_; kernel_rfl) | (intro hh; cases hh)) | (refine ⟨⟨?_, ?_⟩, trivial⟩ <;> decide) | (refine ⟨⟨?_, ?_⟩, ⟨trivial, trivial⟩⟩ <;> decide) | decide | (simp [Blk.cells]; done))); exact ⟨_, rfl⟩)
        | (refine ih _ _ _ _ ((addR s (mulR (numR (rdI l x)) (rdR xs x)).1).1, wrap64 (x + 1)) (Nat.lt_succ_self _) h ?_; exact wkA)
theorem r45_dot.c (l : List Int) (xs : List Rt) (hle : l.length ≤ xs.length) (hr : ∀ i, -9223372036854775808 ≤ rdI l i ∧ rdI l i ≤ 9223372036854775807) : Sound Try.prog 33 [N l, RL xs] (.tup [R (dotS l xs).1, I (dotS l xs).2]) :=
  Sound.len (Entered.of Try.func33 rfl rfl) 0 l.length _ rfl fun hl =>
    (ev_dot l xs hl l.length 0 (numR 0) (by omega)).rounds.elim fun k h => r45_dot.snd k l xs _ _ hle hr h
theorem r45_Short.c (x : Rt) : Sound Try.prog 51 [R x] (B (shortB x)) := by
  obtain ⟨n, p, q⟩ := x
  unfold shortB
  dsimp only
  by_cases h1 : (p.length : Int) ≤ 16
  · rw [decide_eq_true (show p.length ≤ 16 by omega), Bool.true_and]
    by_cases h2 : (q.length : Int) ≤ 16
    · rw [decide_eq_true (show q.length ≤ 16 by omega)]
      exact runO tok mixed [] 300 6 (Obs.br 0 (leT h1) (Obs.br 0 (leT h2) Obs.nil)) (by kernel_rfl)
    · rw [decide_eq_false (show ¬ q.length ≤ 16 by omega)]
      exact runO tok mixed [] 300 6 (Obs.br 0 (leT h1) (Obs.br 0 (leF h2) Obs.nil)) (by kernel_rfl)
  · rw [decide_eq_false (show ¬ p.length ≤ 16 by omega), Bool.false_and]
    exact runO tok mixed [] 300 6 (Obs.br 0 (leF h1) Obs.nil) (by kernel_rfl)
theorem RC_get0 {l : List Rt} {i : Int} (h0 : 0 ≤ i) (h1 : i < l.length) : (RC l).getD (i.toNat * 3) default = B (rdR l i).neg := by
  have h := getR h0 h1
  have e := congrArg (fun t : List PV => t[0]?) h
  simp only [List.getElem?_take, List.getElem?_drop] at e
  rw [List.getD_eq_getElem?_getD]
  simp at e
  rw [e]; rfl
theorem r45_fine.snd (k : Nat) (xs : List Rt) (n : Int) (r : Bool) (hn : (xs.length : Int) = n) (h : chI (fun i => rvB (rdR xs i) && (!(rdR xs i).neg && shortB (rdR xs i))) xs.length false (fun _ => some true) k 0 = some r) : Sound Try.prog 32 [RL xs, I n] (B r) := by
  have hg := fun i : Int => getR (l := xs) (i := i)
  have hg1 := fun (i : Int) (h0 : 0 ≤ i) (h1 : i < (xs.length : Int)) => RC_get0 (l := xs) h0 h1
  have hlen := RC_len xs
  subst hn
  refine Sound.of_WP tok Try.func32 rfl rfl ?_; simp only [Try.f32, args0, List.map, List.length_cons, List.length_nil, Nat.reduceAdd, Nat.reduceSub, List.replicate, List.cons_append, List.nil_append]
  repeat' (first | refine WP_seq ?_ | refine WP_block ?_ | refine regA 64 fun KQ hKQ => ?_ | refine regD 64 fun KQ hKQ => ?_ | refine opsA rfl rfl rfl rfl (nrmA ?_) | refine opsW_skip rfl (nrmA ?_) | (refine opsW_nil ⟨by kernel_rfl, hKQ _ _ _ (nrmB ?_)⟩; clear hKQ KQ) | (refine opsW_nil (hKQ _ _ _ (nrmB ?_)); clear hKQ KQ) | refine condT rfl ?_ | refine condF rfl ?_ | refine WP_skip (nrmB ?_) | refine WP_ret (nrmC ?_) | refine WP_exit (nrmC ?_))
  refine WP_loop (WPL_weaken ?_ (WPL_rec (α := Int) (fun k x => chI (fun i => rvB (rdR xs i) && (!(rdR xs i).neg && shortB (rdR xs i))) xs.length false (fun _ => some true) k x) r (fun x => (mkE 36 [(0, .p (RL xs)), (1, .p (I (xs.length : Int))), (5, .p (I x))], [], 0)) ?_ k _ h))
  · exact wkA
  · clear h; try clear k
    intro k x K ih h
    simp only [mkE, List.replicate, List.foldl, List.set]
    cases k with
    | zero => simp [chI] at h
    | succ k =>
      simp only [chI] at h
      have c1 := r3_Valid.c (rdR xs x)
      have c2 := r45_Short.c (rdR xs x)
      cases h1 : rvB (rdR xs x)
      all_goals
        cases h2 : (rdR xs x).neg
        all_goals
          cases h3 : shortB (rdR xs x)
          all_goals
            simp only [h1, h2, h3, Bool.not_true, Bool.not_false, Bool.true_and, Bool.false_and, Bool.and_false, Bool.and_true, Bool.false_eq_true, if_false, if_true, reduceIte] at h
            rw [h1] at c1
            rw [h3] at c2
            repeat' (first | (simp only [if_true, if_false, Bool.false_eq_true, Bool.not_true, Bool.not_false, reduceIte] at h) | (split at h) | (rw [Option.bind_eq_some_iff] at h; obtain ⟨_, hbb, h⟩ := h; try (simp only [Option.some.injEq] at hbb; subst hbb)) | (cases h; done) | (simp only [Option.some.injEq, Prod.mk.injEq] at h; subst h) | (simp only [Option.some.injEq, Prod.mk.injEq] at h; (have h1 := h.1; have h2 := h.2; clear h; subst h1; first | subst h2 | (obtain ⟨h3, h4⟩ := h2; subst h3; subst h4))))
            all_goals
              try (have hgx := hg1 x (by omega) (by omega); rw [h2] at hgx)
              clear hg1 h2
              repeat' (first | refine WP_seq ?_ | refine WP_block ?_ | refine regA 64 fun KQ hKQ => ?_ | refine regD 64 fun KQ hKQ => ?_ | refine opsA rfl rfl rfl rfl (nrmA ?_) | refine callA rfl rfl rfl (nrmA ?_) (hs := c1) | refine callA rfl rfl rfl (nrmA ?_) (hs := c2) | refine opsW_skip rfl (nrmA ?_) | (refine opsW_nil ⟨by kernel_rfl, hKQ _ _ _ (nrmB ?_)⟩; clear hKQ KQ) | (refine opsW_nil (hKQ _ _ _ (nrmB ?_)); clear hKQ KQ) | refine condT rfl ?_ | refine condF rfl ?_ | refine WP_skip (nrmB ?_) | refine WP_ret (nrmC ?_) | refine WP_exit (nrmC ?_))
              first
              | exact endA
              | (refine ih _ _ _ _ _ (Nat.lt_succ_self _) h ?_; exact wkA)
theorem r45_fine.c (xs : List Rt) (n : Int) : Sound Try.prog 32 [RL xs, I n] (B (fineS xs n)) :=
  Sound.len (Entered.of Try.func32 rfl rfl) 0 xs.length _ rfl fun hl => by
    unfold fineS
    by_cases hn : (xs.length : Int) = n
    · rw [decide_eq_true hn, Bool.true_and]
      have e : allI (fun i => rvB (rdR xs i) && (!(rdR xs i).neg && shortB (rdR xs i))) xs.length 0 = if allI (fun i => rvB (rdR xs i) && (!(rdR xs i).neg && shortB (rdR xs i))) xs.length 0 = true then true else false := by simp
      rw [e]
      exact (ev_chI _ _ hl false true (fun _ => some true) (Ev.now _) xs.length 0 (by omega)).rounds.elim fun k h => r45_fine.snd k xs n _ hn h
    · rw [decide_eq_false hn, Bool.false_and]
      exact runO tok mixed [] 300 6 (Obs.br 0 (neT hn) Obs.nil) (by kernel_rfl)
end Go.Proofs.Ytiondkijgpjgcaa.Pw
namespace Go.Proofs.Ytiondkijgpjgcaa.Pw
open Go Wd Px Mat
set_option linter.unusedVariables false
set_option linter.unusedSimpArgs false
set_option maxRecDepth 100000
set_option maxHeartbeats 8000000
attribute [local irreducible] Int.tmod Int.tdiv
theorem rng_all {l : List Int} (h : ∀ i : Nat, i < l.length → entB (rdI l i) = true) (i : Int) : -9223372036854775808 ≤ rdI l i ∧ rdI l i ≤ 9223372036854775807 := by
  by_cases hi : i.toNat < l.length
  · have := rng_ent (h i.toNat hi)
    have e : rdI l (i.toNat : Int) = rdI l i := by unfold rdI; rw [Int.toNat_natCast]
    rw [e] at this; omega
  · have e : rdI l i = 0 := by unfold rdI; rw [List.getD_eq_getElem?_getD, List.getElem?_eq_none (by omega)]; rfl
    rw [e]; decide
theorem chk_er {p : LP} (h : Chk p) (i : Int) (h0 : 0 ≤ i) (h1 : i < (p.rows.length : Int)) (j : Int) : -9223372036854775808 ≤ rdI (rdL p.rows i) j ∧ rdI (rdL p.rows i) j ≤ 9223372036854775807 := by
  obtain ⟨n, rfl⟩ : ∃ n : Nat, i = n := ⟨i.toNat, by omega⟩
  exact rng_all (h.er n (by omega)) j
theorem r45_Feasible.snd (k : Nat) (p : LP) (xs : List Rt) (r : Bool) (hC : Chk p) (hx : (xs.length : Int) = (p.c.length : Int)) (h0 : chkS p = 0) (hl : fineS xs p.c.length = true)
    (h : chI (fun i => bndS (rdL p.rows i) xs (rdI p.need i) 1) p.rows.length false (fun _ => some true) k 0 = some r) : Sound Try.prog 16 [.agg [N p.c, RR p.rows, N p.need], RL xs] (B r) := by
  have hrd := rdI_rd p.need
  have hg := fun i : Int => getRR (l := p.rows) (i := i)
  have hlen : (p.rows.map N).length = p.rows.length := List.length_map ..
  have c1 := r45_Check.c p
  rw [h0] at c1
  have c2 := r45_fine.c xs p.c.length
  rw [hl] at c2
  have hn : (p.need.length : Int) = (p.rows.length : Int) := by have := hC.n1; omega
  have hno := rng_all hC.en
  refine Sound.of_WP tok Try.func16 rfl rfl ?_; simp only [Try.f16, args0, List.map, List.length_cons, List.length_nil, Nat.reduceAdd, Nat.reduceSub, List.replicate, List.cons_append, List.nil_append]
  repeat' (first | refine WP_seq ?_ | refine WP_block ?_ | refine regA 64 fun KQ hKQ => ?_ | refine regD 64 fun KQ hKQ => ?_ | refine opsA rfl rfl rfl rfl (nrmA ?_) | refine callA rfl rfl rfl (nrmA ?_) (hs := c1) | refine callA rfl rfl rfl (nrmA ?_) (hs := c2) | refine opsW_skip rfl (nrmA ?_) | (refine opsW_nil ⟨by kernel_rfl, hKQ _ _ _ (nrmB ?_)⟩; clear hKQ KQ) | (refine opsW_nil (hKQ _ _ _ (nrmB ?_)); clear hKQ KQ) | refine condT rfl ?_ | refine condF rfl ?_ | refine WP_skip (nrmB ?_) | refine WP_ret (nrmC ?_) | refine WP_exit (nrmC ?_))
  refine WP_loop (WPL_weaken ?_ (WPL_rec (α := Int) (fun k x => chI (fun i => bndS (rdL p.rows i) xs (rdI p.need i) 1) p.rows.length false (fun _ => some true) k x) r (fun x => (mkE 57 [(1, .p (RL xs)), (2, .own 0 0), (5, .p (I x))], [(0, .pc 25 [N p.c, .lst p.rows.length (p.rows.map N), N p.need])], 1)) ?_ k _ h))
  · unfold RR
    exact wkA
  · clear h c1 c2; try clear k
    intro k x K ih h
    simp only [mkE, List.replicate, List.foldl, List.set]
    cases k with
    | zero => simp [chI] at h
    | succ k =>
      simp only [chI] at h
      have c4 := r45_of.c (rdI p.need x) (hno x)
      clear hno
      have c5 := r3_Cmp.c (dotS (rdL p.rows x) xs).1 (numR (rdI p.need x))
      have ce : (bndS (rdL p.rows x) xs (rdI p.need x) 1) = (decide ((dotS (rdL p.rows x) xs).2 = 0) && (decide ((cmpR (dotS (rdL p.rows x) xs).1 (numR (rdI p.need x))).2 = 0) && !decide ((cmpR (dotS (rdL p.rows x) xs).1 (numR (rdI p.need x))).1 < 0))) := by
        unfold bndS; rw [Int.mul_one]
      simp only [ce] at h
      clear ce
      by_cases hi : 0 ≤ x ∧ x < (p.rows.length : Int)
      · obtain ⟨hi0, hi1⟩ := hi
        have hle : (rdL p.rows x).length ≤ xs.length := by have := chk_szI hC (i := x) hi0 hi1; omega
        have c3 := r45_dot.c (rdL p.rows x) xs hle (chk_er hC x hi0 hi1)
        have hx3 : x < (p.need.length : Int) := by omega
        clear hC
        generalize (dotS (rdL p.rows x) xs).1 = s at *
        generalize (dotS (rdL p.rows x) xs).2 = e at *
        generalize numR (rdI p.need x) = m at *
        generalize (cmpR s m).2 = f at *
        generalize (cmpR s m).1 = c at *
        by_cases e1 : e = 0
        all_goals
          by_cases e2 : f = 0
          all_goals
            by_cases e3 : c < 0
            all_goals
              simp only [hi0, hi1, e1, e2, e3, decide_true, decide_false, Bool.not_true, Bool.not_false, Bool.true_and, Bool.false_and, Bool.and_false, Bool.and_true, Bool.false_eq_true, if_false, if_true, reduceIte] at h
              repeat' (first | (simp only [if_true, if_false, Bool.false_eq_true, Bool.not_true, Bool.not_false, reduceIte] at h) | (split at h) | (rw [Option.bind_eq_some_iff] at h; obtain ⟨_, hbb, h⟩ := h; try (simp only [Option.some.injEq] at hbb; subst hbb)) | (cases h; done) | (simp only [Option.some.injEq, Prod.mk.injEq] at h; subst h) | (simp only [Option.some.injEq, Prod.mk.injEq] at h; (have h1 := h.1; have h2 := h.2; clear h; subst h1; first | subst h2 | (obtain ⟨h3, h4⟩ := h2; subst h3; subst h4))))
              all_goals
                repeat' (first | refine WP_seq ?_ | refine WP_block ?_ | refine regA 64 fun KQ hKQ => ?_ | refine regD 64 fun KQ hKQ => ?_ | refine opsA rfl rfl rfl rfl (nrmA ?_) | refine callA rfl rfl rfl (nrmA ?_) (hs := c3) | refine callA rfl rfl rfl (nrmA ?_) (hs := c4) | refine callA rfl rfl rfl (nrmA ?_) (hs := c5) | refine opsW_skip rfl (nrmA ?_) | (refine opsW_nil ⟨by kernel_rfl, hKQ _ _ _ (nrmB ?_)⟩; clear hKQ KQ) | (refine opsW_nil (hKQ _ _ _ (nrmB ?_)); clear hKQ KQ) | refine condT rfl ?_ | refine condF rfl ?_ | refine WP_skip (nrmB ?_) | refine WP_ret (nrmC ?_) | refine WP_exit (nrmC ?_))
                first
                | exact endA
                | (refine ih _ _ _ _ _ (Nat.lt_succ_self _) h ?_; exact wkA)
      · by_cases hi1 : x < (p.rows.length : Int)
        · simp only [if_pos hi1, if_neg (show ¬ 0 ≤ x by omega)] at h
          cases h
        · simp only [if_neg hi1] at h
          repeat' (first | (simp only [if_true, if_false, Bool.false_eq_true, Bool.not_true, Bool.not_false, reduceIte] at h) | (split at h) | (rw [Option.bind_eq_some_iff] at h; obtain ⟨_, hbb, h⟩ := h; try (simp only [Option.some.injEq] at hbb; subst hbb)) | (cases h; done) | (simp only [Option.some.injEq, Prod.mk.injEq] at h; subst h) | (simp only [Option.some.injEq, Prod.mk.injEq] at h; (have h1 := h.1; have h2 := h.2; clear h; subst h1; first | subst h2 | (obtain ⟨h3, h4⟩ := h2; subst h3; subst h4))))
          all_goals
            repeat' (first | refine WP_seq ?_ | refine WP_block ?_ | refine regA 64 fun KQ hKQ => ?_ | refine regD 64 fun KQ hKQ => ?_ | refine opsA rfl rfl rfl rfl (nrmA ?_) | refine opsW_skip rfl (nrmA ?_) | (refine opsW_nil ⟨by kernel_rfl, hKQ _ _ _ (nrmB ?_)⟩; clear hKQ KQ) | (refine opsW_nil (hKQ _ _ _ (nrmB ?_)); clear hKQ KQ) | refine condT rfl ?_ | refine condF rfl ?_ | refine WP_skip (nrmB ?_) | refine WP_ret (nrmC ?_) | refine WP_exit (nrmC ?_))
            first
            | exact endA
theorem r45_Feasible.c (p : LP) (xs : List Rt) : Sound Try.prog 16 [LPv p, RL xs] (B (feasS p xs)) := by
  have c1 := r45_Check.c p
  have c2 := r45_fine.c xs p.c.length
  unfold feasS
  by_cases h0 : chkS p = 0
  · rw [decide_eq_true h0, Bool.true_and]
    rw [h0] at c1
    have ee : (0 : Int) = 0 := rfl
    cases hl : fineS xs p.c.length
    · rw [Bool.false_and]
      rw [hl] at c2
      exact runO tok mixed [13, 32] 300 6 (Obs.cons c1 (Obs.br 0 (neF ee) (Obs.cons c2 Obs.nil))) (by kernel_rfl)
    · rw [Bool.true_and]
      have hC := chk_of h0
      have hx : (xs.length : Int) = (p.c.length : Int) := by
        unfold fineS at hl
        simp only [Bool.and_eq_true, decide_eq_true_eq] at hl
        exact hl.1
      have hr := hC.r1
      have e : allI (fun i => bndS (rdL p.rows i) xs (rdI p.need i) 1) p.rows.length 0 = if allI (fun i => bndS (rdL p.rows i) xs (rdI p.need i) 1) p.rows.length 0 = true then true else false := by simp
      rw [e]
      exact (ev_chI _ _ (by omega) false true (fun _ => some true) (Ev.now _) p.rows.length 0 (by omega)).rounds.elim fun k h => r45_Feasible.snd k p xs _ hC hx h0 hl h
  · rw [decide_eq_false h0, Bool.false_and]
    exact runO tok mixed [13, 32] 300 6 (Obs.cons c1 (Obs.br 0 (neT h0) Obs.nil)) (by kernel_rfl)
/-- What the reference's Value computes. -/
def valE (p : LP) (xs : List Rt) (k : Nat) : Option (Rt × Int) := chE (fun i => rvB (rdR xs i)) (fun i => shortB (rdR xs i)) xs.length (zR, (3 : Int)) (fun _ s => some (if s = true then dotS p.c xs else (zR, 32))) k true 0
theorem ev_valE (p : LP) (xs : List Rt) (h0 : chkS p = 0) (hx : (xs.length : Int) = (p.c.length : Int)) (hl : xs.length ≤ 9223372036854775807) : Ev (valE p xs) (valueS p xs) := by
  have a2 : Ev (valE p xs) _ := ev_chE (fun i => rvB (rdR xs i)) (fun i => shortB (rdR xs i)) xs.length hl (zR, (3 : Int)) (fun s => if s = true then dotS p.c xs else (zR, 32)) (fun _ s => some (if s = true then dotS p.c xs else (zR, 32))) (fun s => Ev.now _) xs.length 0 true (by omega)
  have e : valueS p xs = (if allI (fun i => rvB (rdR xs i)) xs.length 0 = true then (if (true && allI (fun i => shortB (rdR xs i)) xs.length 0) = true then dotS p.c xs else (zR, 32)) else (zR, 3)) := by
    unfold valueS lstS
    rw [if_pos h0, if_pos hx]
    cases allI (fun i => rvB (rdR xs i)) xs.length 0 <;> cases allI (fun i => shortB (rdR xs i)) xs.length 0 <;> cases allI (fun i => !(rdR xs i).neg) xs.length 0 <;> simp
  rw [e]
  exact a2
theorem r45_Value.snd (k : Nat) (p : LP) (xs : List Rt) (r : Rt) (e : Int) (hC : Chk p) (hx : (xs.length : Int) = (p.c.length : Int)) (h0 : chkS p = 0) (h : valE p xs k = some (r, e)) : Sound Try.prog 21 [.agg [N p.c, RR p.rows, N p.need], RL xs] (.tup [R r, I e]) := by
  have hg := fun i : Int => getR (l := xs) (i := i)
  have hlen := RC_len xs
  have c1 := r45_Check.c p
  rw [h0] at c1
  have c3 := r45_dot.c p.c xs (by omega) (rng_all hC.ec)
  clear hC
  unfold valE at h
  refine Sound.of_WP tok Try.func21 rfl rfl ?_; simp only [Try.f21, args0, List.map, List.length_cons, List.length_nil, Nat.reduceAdd, Nat.reduceSub, List.replicate, List.cons_append, List.nil_append]
  repeat' (first | refine WP_seq ?_ | refine WP_block ?_ | refine regA 64 fun KQ hKQ => ?_ | refine regD 64 fun KQ hKQ => ?_ | refine opsA rfl rfl rfl rfl (nrmA ?_) | refine callA rfl rfl rfl (nrmA ?_) (hs := c1) | refine opsW_skip rfl (nrmA ?_) | (refine opsW_nil ⟨by kernel_rfl, hKQ _ _ _ (nrmB ?_)⟩; clear hKQ KQ) | (refine opsW_nil (hKQ _ _ _ (nrmB ?_)); clear hKQ KQ) | refine condT rfl ?_ | refine condF rfl ?_ | refine WP_skip (nrmB ?_) | refine WP_ret (nrmC ?_) | refine WP_exit (nrmC ?_))
  refine WP_loop (WPL_weaken ?_ (WPL_rec (α := Bool × Int) (fun k x => chE (fun i => rvB (rdR xs i)) (fun i => shortB (rdR xs i)) xs.length (zR, (3 : Int)) (fun _ s => some (if s = true then dotS p.c xs else (zR, 32))) k x.1 x.2) (r, e) (fun x => (mkE 52 [(1, .p (RL xs)), (2, .own 0 0), (4, .own 1 0), (7, .p (B x.1)), (8, .p (I x.2))], [(1, .pc 36 [B false, .v (.slice none 0 0), .v (.slice none 0 0)]), (0, .pc 25 [N p.c, .lst p.rows.length (p.rows.map N), N p.need])], 2)) ?_ k (true, 0) h))
  · unfold RR
    exact wkA
  · clear h c1 hx h0; try clear k
    intro k ⟨s, x⟩ K ih h
    simp only [mkE, List.replicate, List.foldl, List.set]
    cases k with
    | zero => simp [chE] at h
    | succ k =>
      simp only [chE] at h
      have c4 := r3_Valid.c (rdR xs x)
      have c5 := r45_Short.c (rdR xs x)
      generalize hD : dotS p.c xs = D at *
      obtain ⟨d1, d2⟩ := D
      cases h1 : rvB (rdR xs x)
      all_goals
        cases s
        all_goals
          simp only [h1, Bool.true_and, Bool.false_and, Bool.false_eq_true, if_false, if_true, reduceIte] at h
          rw [h1] at c4
          repeat' (first | (simp only [if_true, if_false, Bool.false_eq_true, Bool.not_true, Bool.not_false, reduceIte] at h) | (split at h) | (rw [Option.bind_eq_some_iff] at h; obtain ⟨_, hbb, h⟩ := h; try (simp only [Option.some.injEq] at hbb; subst hbb)) | (cases h; done) | (simp only [Option.some.injEq, Prod.mk.injEq] at h; subst h) | (simp only [Option.some.injEq, Prod.mk.injEq] at h; (have h1 := h.1; have h2 := h.2; clear h; subst h1; first | subst h2 | (obtain ⟨h3, h4⟩ := h2; subst h3; subst h4))))
          all_goals
            repeat' (first | refine WP_seq ?_ | refine WP_block ?_ | refine regA 64 fun KQ hKQ => ?_ | refine regD 64 fun KQ hKQ => ?_ | refine opsA rfl rfl rfl rfl (nrmA ?_) | refine callA rfl rfl rfl (nrmA ?_) (hs := c4) | refine callA rfl rfl rfl (nrmA ?_) (hs := c5) | refine callA rfl rfl rfl (nrmA ?_) (hs := c3) | refine opsW_skip rfl (nrmA ?_) | (refine opsW_nil ⟨by kernel_rfl, hKQ _ _ _ (nrmB ?_)⟩; clear hKQ KQ) | (refine opsW_nil (hKQ _ _ _ (nrmB ?_)); clear hKQ KQ) | refine condT rfl ?_ | refine condF rfl ?_ | refine WP_skip (nrmB ?_) | refine WP_ret (nrmC ?_) | refine WP_exit (nrmC ?_))
            first
            | (refine Res_of rfl ?_ ?_; (focus (first | (refine ⟨⟨?_, ?_⟩, trivial⟩ <;> first | exact Nat.le_of_ble_eq_true rfl | (refine Nat.le_of_ble_eq_true ?_; kernel_rfl) | (intro hh; cases hh)) | (refine ⟨⟨?_, ?_⟩, trivial, trivial⟩ <;> first | (refine Nat.le_of_ble_eq_true ?_; kernel_rfl) | (intro hh; cases hh)) | (refine ⟨⟨?_, ?_⟩, trivial⟩ <;> decide) | (refine ⟨⟨?_, ?_⟩, ⟨trivial, trivial⟩⟩ <;> decide) | decide | (simp [Blk.cells]; done))); exact ⟨_, rfl⟩)
            | exact endA
            | (refine ih _ _ _ _ (false, wrap64 (x + 1)) (Nat.lt_succ_self _) h ?_; exact wkA)
            | (refine ih _ _ _ _ (shortB (rdR xs x), wrap64 (x + 1)) (Nat.lt_succ_self _) h ?_; exact wkA)
theorem r45_Value.c (p : LP) (xs : List Rt) : Sound Try.prog 21 [LPv p, RL xs] (.tup [R (valueS p xs).1, I (valueS p xs).2]) :=
  Sound.len (Entered.of Try.func21 rfl rfl) 1 xs.length _ rfl fun hl => by
    have c1 := r45_Check.c p
    by_cases h0 : chkS p = 0
    · rw [h0] at c1
      have ee : (0 : Int) = 0 := rfl
      by_cases hx : (xs.length : Int) = (p.c.length : Int)
      · exact (ev_valE p xs h0 hx hl).rounds.elim fun k h => r45_Value.snd k p xs _ _ (chk_of h0) hx h0 h
      · rw [show valueS p xs = (zR, 3) by unfold valueS lstS; rw [if_pos h0, if_neg hx]; rfl]
        exact runO tok mixed [13] 300 6 (Obs.cons c1 (Obs.br 0 (neF ee) (Obs.br 0 (neT hx) Obs.nil))) (by kernel_rfl)
    · rw [show valueS p xs = (zR, chkS p) by unfold valueS; rw [if_neg h0]]
      exact runO tok mixed [13] 300 6 (Obs.cons c1 (Obs.br 0 (neT h0) Obs.nil)) (by kernel_rfl)
theorem r45_Same.c (x y : Rt) : Sound Try.prog 25 [R x, R y] (B (sameS x y)) := by
  obtain ⟨xn, xp, xq⟩ := x
  obtain ⟨yn, yp, yq⟩ := y
  have c1 := ref_Same.c xp yp
  have c2 := ref_Same.c xq yq
  unfold sameS
  dsimp only
  generalize decide (xp = yp) = b1 at *
  generalize decide (xq = yq) = b2 at *
  cases xn <;> cases yn <;> cases b1
  case false.false.true => exact runL tok mixed [55] 100 2 (Good.cons c1 (Good.cons c2 Good.nil)) (by kernel_rfl)
  case true.true.true => exact runL tok mixed [55] 100 2 (Good.cons c1 (Good.cons c2 Good.nil)) (by kernel_rfl)
  case false.false.false => exact runL tok mixed [55] 100 2 (Good.cons c1 Good.nil) (by kernel_rfl)
  case true.true.false => exact runL tok mixed [55] 100 2 (Good.cons c1 Good.nil) (by kernel_rfl)
  all_goals exact runL tok mixed [55] 100 2 Good.nil (by kernel_rfl)
/-- A column's elements, row by row. -/
def colS (p : LP) (j : Int) : List Int := p.rows.map fun r => rdI r j
def col_l0 (p : LP) (j : Int) : Nat → List Int → Int → Option (List Int)
  | 0, _, _ => none
  | k + 1, o, i => if i < (p.rows.length : Int) then (if 0 ≤ i then (if j < ((rdL p.rows i).length : Int) then (if o.length < 17592186044416 then col_l0 p j k (o ++ [rdI (rdL p.rows i) j]) (wrap64 (i + 1)) else none) else none) else none) else some o
theorem ev_col (p : LP) (j : Int) (hr : p.rows.length ≤ 8) (hj : ∀ i : Nat, i < p.rows.length → j < ((rdL p.rows i).length : Int)) : ∀ (d i : Nat) (o : List Int), i + d = p.rows.length → o = (p.rows.take i).map (fun r => rdI r j) → Ev (fun k => col_l0 p j k o (i : Int)) (colS p j) := by
  intro d
  induction d with
  | zero =>
    intro i o hi ho
    have : o = colS p j := by rw [ho, List.take_of_length_le (by omega)]; rfl
    rw [this]
    refine Ev.step (f := fun _ => some _) (fun k => ?_) (Ev.now _)
    simp only [col_l0]
    rw [if_neg (by omega)]
  | succ d ih =>
    intro i o hi ho
    have hlo : o.length ≤ 8 := by rw [ho, List.length_map, List.length_take]; omega
    refine Ev.step (fun k => ?_) (ih (i + 1) (o ++ [rdI (rdL p.rows i) j]) (by omega) ?_)
    · simp only [col_l0]
      rw [if_pos (by omega), if_pos (by omega), if_pos (hj i (by omega)), if_pos (by omega), w64 (by omega) (by omega)]; rfl
    · rw [List.take_add_one, List.map_append, ← ho, List.getElem?_eq_getElem (by omega)]
      simp [rdL, List.getD_eq_getElem?_getD, List.getElem?_eq_getElem (show i < p.rows.length by omega)]
theorem r45_column.snd (k : Nat) (p : LP) (j : Int) (r : List Int) (hj0 : 0 ≤ j) (h : col_l0 p j k [] 0 = some r) : Sound Try.prog 38 [.agg [N p.c, RR p.rows, N p.need], I j] (N r) := by
  have hg := fun i : Int => getRR (l := p.rows) (i := i)
  have hrd := fun i : Int => rdI_rd (rdL p.rows i) j
  have hlen : (p.rows.map N).length = p.rows.length := List.length_map ..
  refine Sound.of_WP tok Try.func38 rfl rfl ?_; simp only [Try.f38, args0, List.map, List.length_cons, List.length_nil, Nat.reduceAdd, Nat.reduceSub, List.replicate, List.cons_append, List.nil_append]
  repeat' (first | refine WP_seq ?_ | refine WP_block ?_ | refine regA 64 fun KQ hKQ => ?_ | refine regD 64 fun KQ hKQ => ?_ | refine opsA rfl rfl rfl rfl (nrmA ?_) | refine opsW_skip rfl (nrmA ?_) | (refine opsW_nil ⟨by kernel_rfl, hKQ _ _ _ (nrmB ?_)⟩; clear hKQ KQ) | (refine opsW_nil (hKQ _ _ _ (nrmB ?_)); clear hKQ KQ) | refine condT rfl ?_ | refine condF rfl ?_ | refine WP_skip (nrmB ?_) | refine WP_ret (nrmC ?_) | refine WP_exit (nrmC ?_))
  refine WP_loop (WPL_weaken ?_ (WPL_rec (α := List Int × Int) (fun k x => col_l0 p j k x.1 x.2) r (fun x => (mkE 26 [(1, .p (I j)), (2, .own 1 0), (5, .sl 0 0 x.1.length 1), (6, .p (I x.2))], [(1, .pc 25 [N p.c, .lst p.rows.length (p.rows.map N), N p.need]), (0, .pc 3 (x.1.map I))], 2)) ?_ k (_, _) h))
  · unfold RR
    exact wkA
  · clear h; try clear k
    intro k ⟨o, x⟩ K ih h
    simp only [mkE, List.replicate, List.foldl, List.set]
    cases k with
    | zero => simp [col_l0] at h
    | succ k =>
      simp only [col_l0] at h
      repeat' (first | (simp only [if_true, if_false, Bool.false_eq_true, Bool.not_true, Bool.not_false, reduceIte] at h) | (split at h) | (rw [Option.bind_eq_some_iff] at h; obtain ⟨_, hbb, h⟩ := h; try (simp only [Option.some.injEq] at hbb; subst hbb)) | (cases h; done) | (simp only [Option.some.injEq, Prod.mk.injEq] at h; subst h) | (simp only [Option.some.injEq, Prod.mk.injEq] at h; (have h1 := h.1; have h2 := h.2; clear h; subst h1; first | subst h2 | (obtain ⟨h3, h4⟩ := h2; subst h3; subst h4))))
      all_goals
        repeat' (first | refine WP_seq ?_ | refine WP_block ?_ | refine regA 64 fun KQ hKQ => ?_ | refine regD 64 fun KQ hKQ => ?_ | refine opsA rfl rfl rfl rfl (nrmA ?_) | refine opsW_skip rfl (nrmA ?_) | (refine opsW_nil ⟨by kernel_rfl, hKQ _ _ _ (nrmB ?_)⟩; clear hKQ KQ) | (refine opsW_nil (hKQ _ _ _ (nrmB ?_)); clear hKQ KQ) | refine condT rfl ?_ | refine condF rfl ?_ | refine WP_skip (nrmB ?_) | refine WP_ret (nrmC ?_) | refine WP_exit (nrmC ?_))
        first
        | exact endA
        | (refine ih _ _ _ _ (o ++ [rdI (rdL p.rows x) j], wrap64 (x + 1)) (Nat.lt_succ_self _) h ?_; simp only [List.map_append, List.map_cons, List.map_nil, List.length_append]; exact wkA)
theorem r45_column.c (p : LP) (j : Int) (hC : Chk p) (hj0 : 0 ≤ j) (hj : j < (p.c.length : Int)) : Sound Try.prog 38 [LPv p, I j] (N (colS p j)) :=
  (ev_col p j hC.r1 (fun i hi => by rw [hC.sz i hi]; exact hj) p.rows.length 0 [] (by omega) rfl).rounds.elim fun k h => r45_column.snd k p j _ hj0 h
end Go.Proofs.Ytiondkijgpjgcaa.Pw
namespace Go.Proofs.Ytiondkijgpjgcaa.Pw
open Go Wd Px Mat
set_option linter.unusedVariables false
set_option linter.unusedSimpArgs false
set_option maxRecDepth 100000
set_option maxHeartbeats 8000000
attribute [local irreducible] Int.tmod Int.tdiv
/-- A solution that is to be proved. -/
structure OP where
  v : Rt
  x : List Rt
  d : List Rt
def OPv (o : OP) : PV := .agg [B o.v.neg, N o.v.p, N o.v.q, RL o.x, RL o.d]
def endR (p : LP) (o : OP) : Bool := decide ((dotS p.c o.x).2 = 0) && (decide ((dotS p.need o.d).2 = 0) && (sameS (dotS p.c o.x).1 (dotS p.need o.d).1 && sameS (dotS p.c o.x).1 o.v))
def colB (p : LP) (o : OP) (j : Int) : Bool := bndS (colS p j) o.d (rdI p.c j) (-1)
def optR (p : LP) (o : OP) : Bool := feasS p o.x && (fineS o.d p.rows.length && (rvB o.v && (allI (colB p o) p.c.length 0 && endR p o)))
theorem col_rng {p : LP} (hC : Chk p) (j : Int) (hj0 : 0 ≤ j) (hj : j < (p.c.length : Int)) (i : Int) : -9223372036854775808 ≤ rdI (colS p j) i ∧ rdI (colS p j) i ≤ 9223372036854775807 := by
  have hcl : (colS p j).length = p.rows.length := by simp [colS]
  by_cases hi : i.toNat < p.rows.length
  · have e : rdI (colS p j) i = rdI (rdL p.rows (i.toNat : Int)) j := by
      unfold rdI colS rdL
      simp only [List.getD_eq_getElem?_getD, List.getElem?_map, Int.toNat_natCast]
      rw [List.getElem?_eq_getElem hi]; rfl
    rw [e]
    exact chk_er hC _ (by omega) (by omega) j
  · have e : rdI (colS p j) i = 0 := by unfold rdI; rw [List.getD_eq_getElem?_getD, List.getElem?_eq_none (by omega)]; rfl
    rw [e]; decide
theorem r45_Optimal.snd (k : Nat) (p : LP) (o : OP) (r : Bool) (hC : Chk p) (hx : p.c.length ≤ o.x.length) (hd : (o.d.length : Int) = (p.rows.length : Int)) (h0 : feasS p o.x = true) (hl : fineS o.d p.rows.length = true) (hv : rvB o.v = true)
    (h : chI (colB p o) p.c.length false (fun _ => some (endR p o)) k 0 = some r) : Sound Try.prog 18 [.agg [N p.c, RR p.rows, N p.need], .agg [B o.v.neg, N o.v.p, N o.v.q, RL o.x, RL o.d]] (B r) := by
  have hrd := rdI_rd p.c
  have c1 := r45_Feasible.c p o.x
  rw [h0] at c1
  have c2 := r45_fine.c o.d p.rows.length
  rw [hl] at c2
  have c3 := r3_Valid.c o.v
  rw [hv] at c3
  have hno := rng_all hC.ec
  refine Sound.of_WP tok Try.func18 rfl rfl ?_; simp only [Try.f18, args0, List.map, List.length_cons, List.length_nil, Nat.reduceAdd, Nat.reduceSub, List.replicate, List.cons_append, List.nil_append]
  repeat' (first | refine WP_seq ?_ | refine WP_block ?_ | refine regA 64 fun KQ hKQ => ?_ | refine regD 64 fun KQ hKQ => ?_ | refine opsA rfl rfl rfl rfl (nrmA ?_) | refine callA rfl rfl rfl (nrmA ?_) (hs := c1) | refine callA rfl rfl rfl (nrmA ?_) (hs := c2) | refine callA rfl rfl rfl (nrmA ?_) (hs := c3) | refine opsW_skip rfl (nrmA ?_) | (refine opsW_nil ⟨by kernel_rfl, hKQ _ _ _ (nrmB ?_)⟩; clear hKQ KQ) | (refine opsW_nil (hKQ _ _ _ (nrmB ?_)); clear hKQ KQ) | refine condT rfl ?_ | refine condF rfl ?_ | refine WP_skip (nrmB ?_) | refine WP_ret (nrmC ?_) | refine WP_exit (nrmC ?_))
  refine WP_loop (WPL_weaken ?_ (WPL_rec (α := Int) (fun k x => chI (colB p o) p.c.length false (fun _ => some (endR p o)) k x) r (fun x => (mkE 102 [(2, .own 0 0), (3, .own 1 0), (5, .p (I x))], [(1, .pc 38 [B o.v.neg, N o.v.p, N o.v.q, RL o.x, RL o.d]), (0, .pc 25 [N p.c, .lst p.rows.length (p.rows.map N), N p.need])], 2)) ?_ k _ h))
  · unfold RR
    exact wkA
  · clear h c1 c2 c3 h0 hl hv; try clear k
    intro k x K ih h
    simp only [mkE, List.replicate, List.foldl, List.set]
    cases k with
    | zero => simp [chI] at h
    | succ k =>
      simp only [chI] at h
      by_cases hi1 : x < (p.c.length : Int)
      · rw [if_pos hi1] at h
        by_cases hi0 : 0 ≤ x
        · rw [if_pos hi0] at h
          have hcl : (colS p x).length = p.rows.length := by simp [colS]
          have c1 := r45_column.c p x hC hi0 hi1
          have c2 := r45_dot.c (colS p x) o.d (by omega) (col_rng hC x hi0 hi1)
          have c3 := r45_of.c (rdI p.c x) (hno x)
          have c4 := r3_Cmp.c (dotS (colS p x) o.d).1 (numR (rdI p.c x))
          have ce : colB p o x = (decide ((dotS (colS p x) o.d).2 = 0) && (decide ((cmpR (dotS (colS p x) o.d).1 (numR (rdI p.c x))).2 = 0) && !decide (0 < (cmpR (dotS (colS p x) o.d).1 (numR (rdI p.c x))).1))) := by
            unfold colB bndS
            congr 2
            congr 1
            rw [decide_eq_decide]; omega
          simp only [ce] at h
          clear ce hno hcl hC hx hd
          generalize colS p x = col at *
          generalize (dotS col o.d).1 = s at *
          generalize (dotS col o.d).2 = e at *
          generalize numR (rdI p.c x) = m at *
          generalize (cmpR s m).2 = f at *
          generalize (cmpR s m).1 = c at *
          by_cases e1 : e = 0
          all_goals
            by_cases e2 : f = 0
            all_goals
              by_cases e3 : 0 < c
              all_goals
                simp only [e1, e2, e3, decide_true, decide_false, Bool.not_true, Bool.not_false, Bool.true_and, Bool.false_and, Bool.and_false, Bool.and_true, Bool.false_eq_true, if_false, if_true, reduceIte] at h
                repeat' (first | (simp only [if_true, if_false, Bool.false_eq_true, Bool.not_true, Bool.not_false, reduceIte] at h) | (split at h) | (rw [Option.bind_eq_some_iff] at h; obtain ⟨_, hbb, h⟩ := h; try (simp only [Option.some.injEq] at hbb; subst hbb)) | (cases h; done) | (simp only [Option.some.injEq, Prod.mk.injEq] at h; subst h) | (simp only [Option.some.injEq, Prod.mk.injEq] at h; (have h1 := h.1; have h2 := h.2; clear h; subst h1; first | subst h2 | (obtain ⟨h3, h4⟩ := h2; subst h3; subst h4))))
                all_goals
                  repeat' (first | refine WP_seq ?_ | refine WP_block ?_ | refine regA 64 fun KQ hKQ => ?_ | refine regD 64 fun KQ hKQ => ?_ | refine opsA rfl rfl rfl rfl (nrmA ?_) | refine callA rfl rfl rfl (nrmA ?_) (hs := c1) | refine callA rfl rfl rfl (nrmA ?_) (hs := c2) | refine callA rfl rfl rfl (nrmA ?_) (hs := c3) | refine callA rfl rfl rfl (nrmA ?_) (hs := c4) | refine opsW_skip rfl (nrmA ?_) | (refine opsW_nil ⟨by kernel_rfl, hKQ _ _ _ (nrmB ?_)⟩; clear hKQ KQ) | (refine opsW_nil (hKQ _ _ _ (nrmB ?_)); clear hKQ KQ) | refine condT rfl ?_ | refine condF rfl ?_ | refine WP_skip (nrmB ?_) | refine WP_ret (nrmC ?_) | refine WP_exit (nrmC ?_))
                  first
                  | exact endA
                  | (refine ih _ _ _ _ _ (Nat.lt_succ_self _) h ?_; exact wkA)
        · rw [if_neg hi0] at h; cases h
      · rw [if_neg hi1] at h
        have d1 := r45_dot.c p.c o.x hx (rng_all hC.ec)
        have hn1 := hC.n1
        have d2 := r45_dot.c p.need o.d (by omega) (rng_all hC.en)
        have d3 := r45_Same.c (dotS p.c o.x).1 (dotS p.need o.d).1
        have d4 := r45_Same.c (dotS p.c o.x).1 o.v
        unfold endR at h
        clear hno hC hx hd hn1
        generalize (dotS p.c o.x).1 = a at *
        generalize (dotS p.c o.x).2 = e at *
        generalize (dotS p.need o.d).1 = b at *
        generalize (dotS p.need o.d).2 = f at *
        generalize sameS a b = u at *
        generalize sameS a o.v = w at *
        by_cases e1 : e = 0
        all_goals
          by_cases e2 : f = 0
          all_goals
            cases u
            all_goals
              simp only [e1, e2, decide_true, decide_false, Bool.true_and, Bool.false_and, Bool.and_false, Bool.and_true] at h
              repeat' (first | (simp only [if_true, if_false, Bool.false_eq_true, Bool.not_true, Bool.not_false, reduceIte] at h) | (split at h) | (rw [Option.bind_eq_some_iff] at h; obtain ⟨_, hbb, h⟩ := h; try (simp only [Option.some.injEq] at hbb; subst hbb)) | (cases h; done) | (simp only [Option.some.injEq, Prod.mk.injEq] at h; subst h) | (simp only [Option.some.injEq, Prod.mk.injEq] at h; (have h1 := h.1; have h2 := h.2; clear h; subst h1; first | subst h2 | (obtain ⟨h3, h4⟩ := h2; subst h3; subst h4))))
              all_goals
                repeat' (first | refine WP_seq ?_ | refine WP_block ?_ | refine regA 64 fun KQ hKQ => ?_ | refine regD 64 fun KQ hKQ => ?_ | refine opsA rfl rfl rfl rfl (nrmA ?_) | refine callA rfl rfl rfl (nrmA ?_) (hs := d1) | refine callA rfl rfl rfl (nrmA ?_) (hs := d2) | refine callA rfl rfl rfl (nrmA ?_) (hs := d3) | refine callA rfl rfl rfl (nrmA ?_) (hs := d4) | refine opsW_skip rfl (nrmA ?_) | (refine opsW_nil ⟨by kernel_rfl, hKQ _ _ _ (nrmB ?_)⟩; clear hKQ KQ) | (refine opsW_nil (hKQ _ _ _ (nrmB ?_)); clear hKQ KQ) | refine condT rfl ?_ | refine condF rfl ?_ | refine WP_skip (nrmB ?_) | refine WP_ret (nrmC ?_) | refine WP_exit (nrmC ?_))
                first
                | exact endA
theorem r45_Optimal.c (p : LP) (o : OP) : Sound Try.prog 18 [LPv p, OPv o] (B (optR p o)) := by
  have c1 := r45_Feasible.c p o.x
  have c2 := r45_fine.c o.d p.rows.length
  have c3 := r3_Valid.c o.v
  unfold optR
  cases h0 : feasS p o.x
  · rw [h0] at c1
    exact runO tok mixed [16] 300 6 (Obs.cons c1 Obs.nil) (by kernel_rfl)
  cases hl : fineS o.d p.rows.length
  · rw [h0] at c1
    rw [hl] at c2
    exact runO tok mixed [16, 32] 300 6 (Obs.cons c1 (Obs.cons c2 Obs.nil)) (by kernel_rfl)
  cases hv : rvB o.v
  · rw [h0] at c1
    rw [hl] at c2
    rw [hv] at c3
    exact runO tok mixed [16, 32, 20] 300 6 (Obs.cons c1 (Obs.cons c2 (Obs.cons c3 Obs.nil))) (by kernel_rfl)
  have h0' := h0
  unfold feasS at h0'
  simp only [Bool.and_eq_true, decide_eq_true_eq] at h0'
  have hC := chk_of h0'.1
  have hx : (o.x.length : Int) = (p.c.length : Int) := by
    have := h0'.2.1
    unfold fineS at this
    simp only [Bool.and_eq_true, decide_eq_true_eq] at this
    exact this.1
  have hd : (o.d.length : Int) = (p.rows.length : Int) := by
    have := hl
    unfold fineS at this
    simp only [Bool.and_eq_true, decide_eq_true_eq] at this
    exact this.1
  rw [Bool.true_and, Bool.true_and, Bool.true_and]
  have e : (allI (colB p o) p.c.length 0 && endR p o) = if allI (colB p o) p.c.length 0 = true then endR p o else false := by cases allI (colB p o) p.c.length 0 <;> simp
  rw [e]
  have h1 := hC.c1
  exact (ev_chI (colB p o) p.c.length (by omega) false (endR p o) (fun _ => some (endR p o)) (Ev.now _) p.c.length 0 (by omega)).rounds.elim fun k h => r45_Optimal.snd k p o _ hC (by omega) hd h0 hl hv h
/-! ## The law's own functions -/
def smI (p : LP) (m : Int) (i : Int) : Bool := !decide (m + 5 < ((rdL p.rows i).length : Int))
def smallS (p : LP) (m : Int) : Bool := if (12 : Int) < (p.rows.length : Int) ∨ (12 : Int) < (p.need.length : Int) ∨ m < (p.c.length : Int) then false else allI (smI p m) p.rows.length 0
theorem small.snd (k : Nat) (p : LP) (m : Int) (r : Bool) (hm : 0 ≤ m ∧ m ≤ 2000) (h1 : ¬ (12 : Int) < (p.rows.length : Int)) (h2 : ¬ (12 : Int) < (p.need.length : Int)) (h3 : ¬ m < (p.c.length : Int))
    (h : chI (smI p m) p.rows.length false (fun _ => some true) k 0 = some r) : Sound Try.prog 10 [.agg [N p.c, RR p.rows, N p.need], I m] (B r) := by
  have hg := fun i : Int => getRR (l := p.rows) (i := i)
  have hlen : (p.rows.map N).length = p.rows.length := List.length_map ..
  have hw : wrap64 (m + 5) = m + 5 := w64 (by omega) (by omega)
  refine Sound.of_WP tok Try.func10 rfl rfl ?_; simp only [Try.f10, args0, List.map, List.length_cons, List.length_nil, Nat.reduceAdd, Nat.reduceSub, List.replicate, List.cons_append, List.nil_append]
  repeat' (first | refine WP_seq ?_ | refine WP_block ?_ | refine regA 64 fun KQ hKQ => ?_ | refine regD 64 fun KQ hKQ => ?_ | refine opsA rfl rfl rfl rfl (nrmA ?_) | refine opsW_skip rfl (nrmA ?_) | (refine opsW_nil ⟨by kernel_rfl, hKQ _ _ _ (nrmB ?_)⟩; clear hKQ KQ) | (refine opsW_nil (hKQ _ _ _ (nrmB ?_)); clear hKQ KQ) | refine condT rfl ?_ | refine condF rfl ?_ | refine WP_skip (nrmB ?_) | refine WP_ret (nrmC ?_) | refine WP_exit (nrmC ?_))
  refine WP_loop (WPL_weaken ?_ (WPL_rec (α := Int) (fun k x => chI (smI p m) p.rows.length false (fun _ => some true) k x) r (fun x => (mkE 39 [(1, .p (I m)), (2, .own 0 0), (5, .p (I x))], [(0, .pc 25 [N p.c, .lst p.rows.length (p.rows.map N), N p.need])], 1)) ?_ k _ h))
  · unfold RR
    exact wkA
  · clear h; try clear k
    intro k x K ih h
    simp only [mkE, List.replicate, List.foldl, List.set]
    cases k with
    | zero => simp [chI] at h
    | succ k =>
      simp only [chI, smI] at h
      by_cases hb : m + 5 < ((rdL p.rows x).length : Int)
      all_goals
        simp only [hb, decide_true, decide_false, Bool.not_true, Bool.not_false, Bool.false_eq_true, if_false, if_true, reduceIte] at h
        repeat' (first | (simp only [if_true, if_false, Bool.false_eq_true, Bool.not_true, Bool.not_false, reduceIte] at h) | (split at h) | (rw [Option.bind_eq_some_iff] at h; obtain ⟨_, hbb, h⟩ := h; try (simp only [Option.some.injEq] at hbb; subst hbb)) | (cases h; done) | (simp only [Option.some.injEq, Prod.mk.injEq] at h; subst h) | (simp only [Option.some.injEq, Prod.mk.injEq] at h; (have h1 := h.1; have h2 := h.2; clear h; subst h1; first | subst h2 | (obtain ⟨h3, h4⟩ := h2; subst h3; subst h4))))
        all_goals
          repeat' (first | refine WP_seq ?_ | refine WP_block ?_ | refine regA 64 fun KQ hKQ => ?_ | refine regD 64 fun KQ hKQ => ?_ | refine opsA rfl rfl rfl rfl (nrmA ?_) | refine opsW_skip rfl (nrmA ?_) | (refine opsW_nil ⟨by kernel_rfl, hKQ _ _ _ (nrmB ?_)⟩; clear hKQ KQ) | (refine opsW_nil (hKQ _ _ _ (nrmB ?_)); clear hKQ KQ) | refine condT rfl ?_ | refine condF rfl ?_ | refine WP_skip (nrmB ?_) | refine WP_ret (nrmC ?_) | refine WP_exit (nrmC ?_))
          first
          | exact endA
          | (refine ih _ _ _ _ _ (Nat.lt_succ_self _) h ?_; exact wkA)
theorem small.c (p : LP) (m : Int) (hm : 0 ≤ m ∧ m ≤ 2000) : Sound Try.prog 10 [LPv p, I m] (B (smallS p m)) := by
  unfold smallS
  by_cases h1 : (12 : Int) < (p.rows.length : Int)
  · rw [if_pos (.inl h1)]
    exact runO tok mixed [] 300 6 (Obs.br 0 (ltT h1) Obs.nil) (by kernel_rfl)
  by_cases h2 : (12 : Int) < (p.need.length : Int)
  · rw [if_pos (.inr (.inl h2))]
    exact runO tok mixed [] 300 6 (Obs.br 0 (ltF h1) (Obs.br 0 (ltT h2) Obs.nil)) (by kernel_rfl)
  by_cases h3 : m < (p.c.length : Int)
  · rw [if_pos (.inr (.inr h3))]
    exact runO tok mixed [] 300 6 (Obs.br 0 (ltF h1) (Obs.br 0 (ltF h2) (Obs.br 0 (ltT h3) Obs.nil))) (by kernel_rfl)
  rw [if_neg (by omega)]
  have e : allI (smI p m) p.rows.length 0 = if allI (smI p m) p.rows.length 0 = true then true else false := by simp
  rw [e]
  exact (ev_chI (smI p m) p.rows.length (by omega) false true (fun _ => some true) (Ev.now _) p.rows.length 0 (by omega)).rounds.elim fun k h => small.snd k p m _ hm h1 h2 h3 h
def mxL (x : Rt) : Int := mx (x.p.length : Int) (x.q.length : Int)
def ltR (x : Rt) : Bool := !((decide (3 < mxL x) && decide (mxL x ≤ 16)) || decide (20 < mxL x))
def lightS (l : List Rt) (m : Int) : Bool := if m < (l.length : Int) then false else allI (fun i => ltR (rdR l i)) l.length 0
theorem RC_get1 {l : List Rt} {i : Int} (h0 : 0 ≤ i) (h1 : i < l.length) : (RC l).getD (i.toNat * 3 + 1) default = N (rdR l i).p := by
  have h := getR h0 h1
  have e := congrArg (fun t : List PV => t[1]?) h
  simp only [List.getElem?_take, List.getElem?_drop] at e
  rw [List.getD_eq_getElem?_getD]
  simp at e
  rw [e]; rfl
theorem RC_get2 {l : List Rt} {i : Int} (h0 : 0 ≤ i) (h1 : i < l.length) : (RC l).getD (i.toNat * 3 + 2) default = N (rdR l i).q := by
  have h := getR h0 h1
  have e := congrArg (fun t : List PV => t[2]?) h
  simp only [List.getElem?_take, List.getElem?_drop] at e
  rw [List.getD_eq_getElem?_getD]
  simp at e
  rw [e]; rfl
theorem light.snd (k : Nat) (l : List Rt) (m : Int) (r : Bool) (h1 : ¬ m < (l.length : Int)) (h : chI (fun i => ltR (rdR l i)) l.length false (fun _ => some true) k 0 = some r) : Sound Try.prog 14 [RL l, I m] (B r) := by
  have hg1 := fun (i : Int) (h0 : 0 ≤ i) (h1 : i < (l.length : Int)) => RC_get1 (l := l) h0 h1
  have hg2 := fun (i : Int) (h0 : 0 ≤ i) (h1 : i < (l.length : Int)) => RC_get2 (l := l) h0 h1
  have hlen := RC_len l
  refine Sound.of_WP tok Try.func14 rfl rfl ?_; simp only [Try.f14, args0, List.map, List.length_cons, List.length_nil, Nat.reduceAdd, Nat.reduceSub, List.replicate, List.cons_append, List.nil_append]
  repeat' (first | refine WP_seq ?_ | refine WP_block ?_ | refine regA 64 fun KQ hKQ => ?_ | refine regD 64 fun KQ hKQ => ?_ | refine opsA rfl rfl rfl rfl (nrmA ?_) | refine opsW_skip rfl (nrmA ?_) | (refine opsW_nil ⟨by kernel_rfl, hKQ _ _ _ (nrmB ?_)⟩; clear hKQ KQ) | (refine opsW_nil (hKQ _ _ _ (nrmB ?_)); clear hKQ KQ) | refine condT rfl ?_ | refine condF rfl ?_ | refine WP_skip (nrmB ?_) | refine WP_ret (nrmC ?_) | refine WP_exit (nrmC ?_))
  refine WP_loop (WPL_weaken ?_ (WPL_rec (α := Int) (fun k x => chI (fun i => ltR (rdR l i)) l.length false (fun _ => some true) k x) r (fun x => (mkE 40 [(0, .p (RL l)), (5, .p (I x))], [], 0)) ?_ k _ h))
  · exact wkA
  · clear h; try clear k
    intro k x K ih h
    simp only [mkE, List.replicate, List.foldl, List.set]
    cases k with
    | zero => simp [chI] at h
    | succ k =>
      simp only [chI, ltR, mxL] at h
      by_cases e1 : 3 < mx ((rdR l x).p.length : Int) ((rdR l x).q.length : Int)
      all_goals
        by_cases e2 : mx ((rdR l x).p.length : Int) ((rdR l x).q.length : Int) ≤ 16
        all_goals
          by_cases e3 : 20 < mx ((rdR l x).p.length : Int) ((rdR l x).q.length : Int)
          all_goals
            simp only [e1, e2, e3, decide_true, decide_false, Bool.not_true, Bool.not_false, Bool.true_and, Bool.false_and, Bool.and_false, Bool.and_true, Bool.or_true, Bool.or_false, Bool.true_or, Bool.false_or, Bool.false_eq_true, if_false, if_true, reduceIte] at h
            repeat' (first | (simp only [if_true, if_false, Bool.false_eq_true, Bool.not_true, Bool.not_false, reduceIte] at h) | (split at h) | (rw [Option.bind_eq_some_iff] at h; obtain ⟨_, hbb, h⟩ := h; try (simp only [Option.some.injEq] at hbb; subst hbb)) | (cases h; done) | (simp only [Option.some.injEq, Prod.mk.injEq] at h; subst h) | (simp only [Option.some.injEq, Prod.mk.injEq] at h; (have h1 := h.1; have h2 := h.2; clear h; subst h1; first | subst h2 | (obtain ⟨h3, h4⟩ := h2; subst h3; subst h4))))
            all_goals
              repeat' (first | refine WP_seq ?_ | refine WP_block ?_ | refine regA 64 fun KQ hKQ => ?_ | refine regD 64 fun KQ hKQ => ?_ | refine opsA rfl rfl rfl rfl (nrmA ?_) | refine opsW_skip rfl (nrmA ?_) | (refine opsW_nil ⟨by kernel_rfl, hKQ _ _ _ (nrmB ?_)⟩; clear hKQ KQ) | (refine opsW_nil (hKQ _ _ _ (nrmB ?_)); clear hKQ KQ) | refine condT rfl ?_ | refine condF rfl ?_ | refine WP_skip (nrmB ?_) | refine WP_ret (nrmC ?_) | refine WP_exit (nrmC ?_))
              first
              | exact endA
              | (refine ih _ _ _ _ _ (Nat.lt_succ_self _) h ?_; exact wkA)
theorem light.c (l : List Rt) (m : Int) : Sound Try.prog 14 [RL l, I m] (B (lightS l m)) :=
  Sound.len (Entered.of Try.func14 rfl rfl) 0 l.length _ rfl fun hl => by
    unfold lightS
    by_cases h1 : m < (l.length : Int)
    · rw [if_pos h1]
      exact runO tok mixed [] 300 6 (Obs.br 0 (ltT h1) Obs.nil) (by kernel_rfl)
    rw [if_neg h1]
    have e : allI (fun i => ltR (rdR l i)) l.length 0 = if allI (fun i => ltR (rdR l i)) l.length 0 = true then true else false := by simp
    rw [e]
    exact (ev_chI _ _ hl false true (fun _ => some true) (Ev.now _) l.length 0 (by omega)).rounds.elim fun k h => light.snd k l m _ h1 h
end Go.Proofs.Ytiondkijgpjgcaa.Pw
