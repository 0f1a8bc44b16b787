/- The functions of the program as functions of values, part 11: a proof's lemmas, with no condition of their own. -/
import Derived.Test.YtalklhbdpmggjaaDoorNei
import Derived.Test.YtalklhbdpmggjaaDoorNej
set_option linter.unusedVariables false
set_option linter.unusedSimpArgs false
namespace Go.Proofs.YtalklhbdpmggjaaDoor.Pw
open Go Wd Px Mat
set_option linter.unusedVariables false
set_option linter.unusedSimpArgs false
set_option maxRecDepth 100000
attribute [local irreducible] Int.tmod Int.tdiv
set_option maxHeartbeats 8000000
def parseS (b : ByteArray) : List Int × Int := if b.data.toList = [] then ([], 3) else if 1 < b.data.toList.length ∧ chr b 0 = 48 then ([], 3) else parseT b.data.toList
theorem nat_Parse.c (b : ByteArray) (hb : b.data.toList.length ≤ 9223372036854775806) : Sound Tryd.prog 31 [Sg b] (.tup [N (parseS b).1, I (parseS b).2]) := by
  have hbs : b.size = b.data.toList.length := rfl
  unfold parseS
  by_cases h0 : b.data.toList = []
  · rw [if_pos h0]
    have q : (b.toList == (ByteArray.mk #[]).toList) = true := by rw [ba_toList, ba_toList, h0]; rfl
    clear hbs
    refine Sound.of_WP tok Tryd.func31 rfl rfl ?_; simp only [Tryd.f31, args0, List.map, List.length_cons, List.length_nil, Nat.reduceAdd, Nat.reduceSub, List.replicate, List.cons_append, List.nil_append]
    repeat' (first | refine WP_seq ?_ | refine WP_block ?_ | refine regA 64 fun KQ hKQ => ?_ | refine regD 64 fun KQ hKQ => ?_ | refine opsA rfl rfl rfl rfl (nrmA ?_) | refine opsW_skip rfl (nrmA ?_) | (refine opsW_nil ⟨by kernel_rfl, hKQ _ _ _ (nrmB ?_)⟩; clear hKQ KQ) | (refine opsW_nil (hKQ _ _ _ (nrmB ?_)); clear hKQ KQ) | refine condT rfl ?_ | refine condF rfl ?_ | refine WP_skip (nrmB ?_) | refine WP_ret (nrmC ?_) | refine WP_exit (nrmC ?_))
    exact endA
  · rw [if_neg h0]
    have hpos := List.length_pos_iff.2 h0
    have hp : (0 : Int) < (b.size : Int) := by omega
    have q : (b.toList == (ByteArray.mk #[]).toList) = false := by
      rw [ba_toList, ba_toList, Bool.eq_false_iff]; intro h; exact h0 (eq_of_beq h)
    by_cases h1 : 1 < b.data.toList.length ∧ chr b 0 = 48
    · rw [if_pos h1]
      have hs : (1 : Int) < (b.size : Int) := by omega
      have h2 : decide (((b.data.toList.getD 0 0).toNat : Int) = 48) = true := decide_eq_true h1.2
      clear h1 hbs
      refine Sound.of_WP tok Tryd.func31 rfl rfl ?_; simp only [Tryd.f31, args0, List.map, List.length_cons, List.length_nil, Nat.reduceAdd, Nat.reduceSub, List.replicate, List.cons_append, List.nil_append]
      repeat' (first | refine WP_seq ?_ | refine WP_block ?_ | refine regA 64 fun KQ hKQ => ?_ | refine regD 64 fun KQ hKQ => ?_ | refine opsA rfl rfl rfl rfl (nrmA ?_) | refine opsW_skip rfl (nrmA ?_) | (refine opsW_nil ⟨by kernel_rfl, hKQ _ _ _ (nrmB ?_)⟩; clear hKQ KQ) | (refine opsW_nil (hKQ _ _ _ (nrmB ?_)); clear hKQ KQ) | refine condT rfl ?_ | refine condF rfl ?_ | refine WP_skip (nrmB ?_) | refine WP_ret (nrmC ?_) | refine WP_exit (nrmC ?_))
      exact endA
    · rw [if_neg h1]
      exact (ev_parse_l0 b hb b.data.toList.length 0 (by omega) rfl).rounds.elim fun k h => nat_Parse.snd k b _ _ q (by
        by_cases hs : (1 : Int) < (b.size : Int)
        · exact .inr fun h => h1 ⟨by omega, h⟩
        · exact .inl hs) hp h
theorem ref_Parse.c (b : ByteArray) (hb : b.data.toList.length ≤ 9223372036854775806) : Sound Tryd.prog 39 [Sg b] (.tup [N (parseS b).1, I (parseS b).2]) := by
  have hbs : b.size = b.data.toList.length := rfl
  unfold parseS
  by_cases h0 : b.data.toList = []
  · rw [if_pos h0]
    have q : (b.toList == (ByteArray.mk #[]).toList) = true := by rw [ba_toList, ba_toList, h0]; rfl
    clear hbs
    refine Sound.of_WP tok Tryd.func39 rfl rfl ?_; simp only [Tryd.f39, args0, List.map, List.length_cons, List.length_nil, Nat.reduceAdd, Nat.reduceSub, List.replicate, List.cons_append, List.nil_append]
    repeat' (first | refine WP_seq ?_ | refine WP_block ?_ | refine regA 64 fun KQ hKQ => ?_ | refine regD 64 fun KQ hKQ => ?_ | refine opsA rfl rfl rfl rfl (nrmA ?_) | refine opsW_skip rfl (nrmA ?_) | (refine opsW_nil ⟨by kernel_rfl, hKQ _ _ _ (nrmB ?_)⟩; clear hKQ KQ) | (refine opsW_nil (hKQ _ _ _ (nrmB ?_)); clear hKQ KQ) | refine condT rfl ?_ | refine condF rfl ?_ | refine WP_skip (nrmB ?_) | refine WP_ret (nrmC ?_) | refine WP_exit (nrmC ?_))
    exact endA
  · rw [if_neg h0]
    have hpos := List.length_pos_iff.2 h0
    have hp : (0 : Int) < (b.size : Int) := by omega
    have q : (b.toList == (ByteArray.mk #[]).toList) = false := by
      rw [ba_toList, ba_toList, Bool.eq_false_iff]; intro h; exact h0 (eq_of_beq h)
    by_cases h1 : 1 < b.data.toList.length ∧ chr b 0 = 48
    · rw [if_pos h1]
      have hs : (1 : Int) < (b.size : Int) := by omega
      have h2 : decide (((b.data.toList.getD 0 0).toNat : Int) = 48) = true := decide_eq_true h1.2
      clear h1 hbs
      refine Sound.of_WP tok Tryd.func39 rfl rfl ?_; simp only [Tryd.f39, args0, List.map, List.length_cons, List.length_nil, Nat.reduceAdd, Nat.reduceSub, List.replicate, List.cons_append, List.nil_append]
      repeat' (first | refine WP_seq ?_ | refine WP_block ?_ | refine regA 64 fun KQ hKQ => ?_ | refine regD 64 fun KQ hKQ => ?_ | refine opsA rfl rfl rfl rfl (nrmA ?_) | refine opsW_skip rfl (nrmA ?_) | (refine opsW_nil ⟨by kernel_rfl, hKQ _ _ _ (nrmB ?_)⟩; clear hKQ KQ) | (refine opsW_nil (hKQ _ _ _ (nrmB ?_)); clear hKQ KQ) | refine condT rfl ?_ | refine condF rfl ?_ | refine WP_skip (nrmB ?_) | refine WP_ret (nrmC ?_) | refine WP_exit (nrmC ?_))
      exact endA
    · rw [if_neg h1]
      exact (ev_parse_r0 b hb b.data.toList.length 0 (by omega) rfl).rounds.elim fun k h => ref_Parse.snd k b _ _ q (by
        by_cases hs : (1 : Int) < (b.size : Int)
        · exact .inr fun h => h1 ⟨by omega, h⟩
        · exact .inl hs) hp h
theorem ref_Text.c (a : List Int) : Sound Tryd.prog 38 [N a] (.tup [bytes (textS a).1, I (textS a).2]) := by
  unfold textS
  by_cases ha : okN a = true
  · rw [if_pos ha]
    by_cases h0 : a = []
    · subst h0
      have v := ref_Valid.c []
      rw [ha] at v
      rw [show textL [] = [48] from rfl]
      exact runO tok mixed [40] 300 6 (Obs.cons v Obs.nil) (by kernel_rfl)
    · exact (ev_refText_all a ha h0).rounds.elim fun k h => ref_Text.snd k a _ ha (fun e => h0 (List.eq_nil_of_length_eq_zero (by omega))) h
  · rw [if_neg ha]
    have v := ref_Valid.c a
    replace ha : okN a = false := by simpa using ha
    rw [ha] at v
    exact runO tok mixed [40] 300 6 (Obs.cons v Obs.nil) (by kernel_rfl)
theorem textL_facts {a : List Int} (ha : okN a = true) : textL a ≠ [] ∧ (textL a).length ≤ 432 ∧ parseS ⟨(textL a).toArray⟩ = (a, 0) := by
  have hok := okN_iff.1 ha
  have hlt := hok.lt
  have h0 := hok.nonneg
  rw [textL_dec ha]
  obtain ⟨d1, d2, d3⟩ := dec_facts (val a).toNat (val a).toNat (Nat.le_refl _)
  have hp := dec_pos (val a).toNat
  have hne : Lib.decDigits (val a).toNat ≠ [] := fun e => by rw [e] at hp; exact absurd hp (by decide)
  have hl : (Lib.decDigits (val a).toNat).length ≤ 432 := text_len 48 h0 hlt (by decide)
  refine ⟨hne, hl, ?_⟩
  unfold parseS
  have hdl : (ByteArray.mk (Lib.decDigits (val a).toNat).toArray).data.toList = Lib.decDigits (val a).toNat := rfl
  rw [hdl, if_neg hne, if_neg]
  · unfold parseT
    rw [if_pos d2, if_neg (by omega), d1, show ((val a).toNat : Int) = val a by omega, dg_val hok.2]
  · rintro ⟨h1, h2⟩
    unfold chr at h2
    rw [hdl] at h2
    cases hD : Lib.decDigits (val a).toNat with
    | nil => exact hne hD
    | cons c r =>
      rw [hD] at h2
      have hv : 0 < (val a).toNat := by
        rcases Nat.eq_zero_or_pos (val a).toNat with h | h
        · rw [h, dec_small (by decide)] at h1; simp at h1
        · exact h
      refine d3 hv c r hD ?_
      have h3 : (c.toNat : Int) = 48 := h2
      apply UInt8.toNat_inj.1
      have : c.toNat = 48 := by omega
      rw [this]; rfl
theorem parse_text {b : ByteArray} {x : List Int} (h : parseS b = (x, 0)) : okN x = true ∧ textL x = b.data.toList := by
  unfold parseS at h
  split at h
  · injection h with _ h; cases h
  · rename_i h0
    split at h
    · injection h with _ h; cases h
    · rename_i h1
      unfold parseT at h
      split at h
      · rename_i hd
        split at h
        · injection h with _ h; cases h
        · rename_i hl
          injection h with h _
          have hw : (decV b.data.toList : Int) < pw 48 := val_fits 48 hd (by show _ ≤ 9 * 48; omega)
          have hk : okN (dg (decV b.data.toList : Int)) = true := okN_iff.2 (ok_dg (by omega) hw)
          subst h
          refine ⟨hk, ?_⟩
          rw [textL_dec hk, val_dg (by omega), Int.toNat_natCast]
          refine dec_unique _ _ rfl h0 hd ?_
          by_cases hs : b.data.toList.length = 1
          · exact .inl hs
          · refine .inr fun c r e hc => h1 ⟨by have := List.length_pos_iff.2 h0; omega, ?_⟩
            unfold chr; rw [e, hc]; rfl
      · injection h with _ h; cases h
theorem parse_cases (b : ByteArray) : (∃ x, parseS b = (x, 0)) ∨ parseS b = ([], 2) ∨ parseS b = ([], 3) := by
  unfold parseS parseT
  split
  · exact .inr (.inr rfl)
  · split
    · exact .inr (.inr rfl)
    · split
      · split
        · exact .inr (.inl rfl)
        · exact .inl ⟨_, rfl⟩
      · exact .inr (.inr rfl)
theorem beqT (l : List UInt8) : (l == l) = true := beq_self_eq_true l
theorem beqB (b : Bool) : (!(b == b)) = false := by simp
theorem NatForms.c (a : List Int) (n : Int) (b : ByteArray) (hn : -9223372036854775808 ≤ n ∧ n ≤ 9223372036854775807) : Sound Tryd.prog 8 [N a, I n, Sg b] (B true) := by
  have c0 := few02.c a []
  have hbs : b.size = b.data.toList.length := rfl
  cases hf : fewS a [] <;> rw [hf] at c0
  · exact runO tok mixed [20, 21] 300 6 (Obs.cons c0 (Obs.cons awake02.c Obs.nil)) (by kernel_rfl)
  by_cases hl : (600 : Int) < (b.size : Int)
  · exact runO tok mixed [20, 21] 300 6 (Obs.cons c0 (Obs.br 0 (ltT hl) (Obs.cons awake02.c Obs.nil))) (by kernel_rfl)
  have c1 := nat_Of.c n hn.2
  have c2 := ref_Of.c n hn.2
  have c3 := nat_Int.c a
  have c4 := ref_Int.c a
  have c5 := nat_Text.c a
  have c6 := ref_Text.c a
  have c7 := nat_Parse.c b (by omega)
  have c8 := ref_Parse.c b (by omega)
  have c9 := nat_Valid.c a
  have c10 := ref_Valid.c a
  have s1 := same02 (ofS n).1
  have s2 := same02 (parseS b).1
  generalize ofS n = O at *
  generalize intS a = J at *
  generalize textS a = T at *
  generalize parseS b = P at *
  obtain ⟨o, e⟩ := O
  obtain ⟨x, g⟩ := J
  obtain ⟨t, i⟩ := T
  obtain ⟨p, l⟩ := P
  generalize okN a = v at *
  have q1 := neF (rfl : e = e)
  have q2 := neF (rfl : x = x)
  have q3 := neF (rfl : g = g)
  have q4 := eqT (rfl : i = i)
  have q5 := eqT (rfl : l = l)
  exact runO tok mixed [20, 34, 35, 36, 37, 30, 38, 31, 39, 29, 40, 24, 21] 300 6 (Obs.cons c0 (Obs.br 0 (ltF hl) (Obs.cons c1 (Obs.cons c2 (Obs.cons c3 (Obs.cons c4 (Obs.cons c5 (Obs.cons c6 (Obs.cons c7 (Obs.cons c8 (Obs.cons c9 (Obs.cons c10 (Obs.br 0 (beqB v) (Obs.cons s1 (Obs.br 0 q1 (Obs.br 0 q2 (Obs.br 0 q3 (Obs.br 0 (beqT t) (Obs.br 0 q4 (Obs.cons s2 (Obs.br 0 q5 (Obs.cons awake02.c Obs.nil)))))))))))))))))))))) (by kernel_rfl)
theorem NatTexts.c (a : List Int) (b : ByteArray) : Sound Tryd.prog 6 [N a, Sg b] (B true) := by
  have c0 := few02.c a []
  have hbs : b.size = b.data.toList.length := rfl
  cases hf : fewS a [] <;> rw [hf] at c0
  · exact runO tok mixed [20, 21] 300 6 (Obs.cons c0 (Obs.cons awake02.c Obs.nil)) (by kernel_rfl)
  by_cases hl : (600 : Int) < (b.size : Int)
  · exact runO tok mixed [20, 21] 300 6 (Obs.cons c0 (Obs.br 0 (ltT hl) (Obs.cons awake02.c Obs.nil))) (by kernel_rfl)
  have c1 := nat_Valid.c a
  have c2 := nat_Text.c a
  have c5 := nat_Parse.c b (by omega)
  have s1 := same02 a
  by_cases ha : okN a = true
  · obtain ⟨f1, f2, f3⟩ := textL_facts ha
    have c3 := nat_Parse.c ⟨(textL a).toArray⟩ (by show (textL a).toArray.toList.length ≤ _; simp; omega)
    rw [f3] at c3
    rw [show textS a = (textL a, 0) by unfold textS; rw [if_pos ha]] at c2
    rw [ha] at c1
    generalize textL a = t at *
    rcases parse_cases b with ⟨x, hx⟩ | hx | hx
    · obtain ⟨k1, k2⟩ := parse_text hx
      rw [hx] at c5
      have c6 := nat_Text.c x
      rw [show textS x = (b.data.toList, 0) by unfold textS; rw [if_pos k1, k2]] at c6
      have c7 := nat_Valid.c x
      rw [k1] at c7
      exact runO tok mixed [20, 30, 31, 29, 24, 21] 300 6 (Obs.cons c0 (Obs.br 0 (ltF hl) (Obs.cons c1 (Obs.cons c2 (Obs.cons c3 (Obs.cons s1 (Obs.cons c5 (Obs.cons c6 (Obs.br 1 (beqT b.data.toList) (Obs.cons c7 (Obs.cons awake02.c Obs.nil))))))))))) (by kernel_rfl)
    · rw [hx] at c5
      exact runO tok mixed [20, 30, 31, 29, 24, 21] 300 6 (Obs.cons c0 (Obs.br 0 (ltF hl) (Obs.cons c1 (Obs.cons c2 (Obs.cons c3 (Obs.cons s1 (Obs.cons c5 (Obs.cons awake02.c Obs.nil)))))))) (by kernel_rfl)
    · rw [hx] at c5
      exact runO tok mixed [20, 30, 31, 29, 24, 21] 300 6 (Obs.cons c0 (Obs.br 0 (ltF hl) (Obs.cons c1 (Obs.cons c2 (Obs.cons c3 (Obs.cons s1 (Obs.cons c5 (Obs.cons awake02.c Obs.nil)))))))) (by kernel_rfl)
  · replace ha : okN a = false := by simpa using ha
    rw [ha] at c1
    rcases parse_cases b with ⟨x, hx⟩ | hx | hx
    · obtain ⟨k1, k2⟩ := parse_text hx
      rw [hx] at c5
      have c6 := nat_Text.c x
      rw [show textS x = (b.data.toList, 0) by unfold textS; rw [if_pos k1, k2]] at c6
      have c7 := nat_Valid.c x
      rw [k1] at c7
      exact runO tok mixed [20, 30, 31, 29, 24, 21] 300 6 (Obs.cons c0 (Obs.br 0 (ltF hl) (Obs.cons c1 (Obs.cons c5 (Obs.cons c6 (Obs.br 1 (beqT b.data.toList) (Obs.cons c7 (Obs.cons awake02.c Obs.nil)))))))) (by kernel_rfl)
    · rw [hx] at c5
      exact runO tok mixed [20, 30, 31, 29, 24, 21] 300 6 (Obs.cons c0 (Obs.br 0 (ltF hl) (Obs.cons c1 (Obs.cons c5 (Obs.cons awake02.c Obs.nil))))) (by kernel_rfl)
    · rw [hx] at c5
      exact runO tok mixed [20, 30, 31, 29, 24, 21] 300 6 (Obs.cons c0 (Obs.br 0 (ltF hl) (Obs.cons c1 (Obs.cons c5 (Obs.cons awake02.c Obs.nil))))) (by kernel_rfl)
end Go.Proofs.YtalklhbdpmggjaaDoor.Pw
