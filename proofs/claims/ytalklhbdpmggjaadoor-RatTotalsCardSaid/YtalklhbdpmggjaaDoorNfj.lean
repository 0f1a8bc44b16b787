/- The functions of the program as functions of values, part 10: a proof's lemmas, with no condition of their own. -/
import Derived.Test.YtalklhbdpmggjaaDoorNff
set_option linter.unusedVariables false
set_option linter.unusedSimpArgs false
namespace Go.Proofs.YtalklhbdpmggjaaDoor.Pw
open Go Go.RowKit
theorem Wk.frzCell {base : Nat} {env : List AV} {st : Stores} {nx : Nat} (b j : Nat) (k : Blk) (a : AV) (x : PV) (rd : List Nat) (hk : get st b = some k) (ha : k.cells[j]? = some a) (h : Pw.frz (get st) 9 a = some (x, rd)) (hr : b ∉ rd) :
    Wk base env st nx env (put (delL st rd) b (some (Blk.mk k.el (k.cells.set j (.p x))))) nx := fun hb => ⟨hb, fun F μ W c hA => by
  obtain ⟨h1, h2⟩ := hA.rs.dels rd
  have e0 : ∀ y, get (put (delL st rd) b (some (Blk.mk k.el (k.cells.set j (.p x))))) y = if y = b then some (Blk.mk k.el (k.cells.set j (.p x))) else dels (get st) rd y := fun y => by
    rw [get_put, get_delL]; rfl
  have eb : dels (get st) rd b = some k := by unfold dels; rw [if_neg hr]; exact hk
  have hM : ∀ B, Mut F μ (get (put (delL st rd) b (some (Blk.mk k.el (k.cells.set j (.p x)))))) B ↔ Mut F μ (dels (get st) rd) B := fun B => by
    unfold Mut
    constructor
    · rintro (h | ⟨y, hy, hB⟩)
      · exact .inl h
      · refine .inr ⟨y, ?_, hB⟩
        rw [e0] at hy
        by_cases e : y = b
        · subst e; rw [eb]; simp
        · rw [if_neg e] at hy; exact hy
    · rintro (h | ⟨y, hy, hB⟩)
      · exact .inl h
      · refine .inr ⟨y, ?_, hB⟩
        rw [e0]
        by_cases e : y = b
        · rw [if_pos e]; simp
        · rw [if_neg e]; exact hy
  have hS : RepS F μ (get (put (delL st rd) b (some (Blk.mk k.el (k.cells.set j (.p x)))))) W := by
    refine ⟨fun y q hy => ?_, fun y y' B hy hy' hB hB' => ?_, h1.low⟩
    · rw [e0] at hy
      by_cases e : y = b
      · subst e
        rw [if_pos rfl] at hy
        injection hy with hy; subst hy
        rcases h1.at_ y k eb with ⟨_, h0⟩ | ⟨B, cs, q1, q2, q3, q4, q5, q6⟩
        · rw [h0] at ha; simp at ha
        · refine .inr ⟨B, cs, q1, q2, by rw [Blk.mk_el]; exact q3, by rw [Blk.mk_cells, List.length_set]; exact q4, fun i hi => q5 i (by rw [Blk.mk_cells, List.length_set] at hi; exact hi), fun i a' ha' => ?_⟩
          rw [Blk.mk_cells, List.getElem?_set] at ha'
          split at ha'
          · rename_i e; subst e
            split at ha'
            · injection ha' with ha'; subst ha'
              rcases hA.rs.at_ y k hk with ⟨_, h0⟩ | ⟨B', cs', p1, p2, p3, p4, p5, p6⟩
              · rw [h0] at ha; simp at ha
              · rw [q1] at p1; injection p1 with p1; subst p1
                rw [q3] at p3; injection p3 with p3; injection p3 with p3 _ _; subst p3
                exact .p _ _ (((frz_both hA.rs rd 9).1 _ _ _ _ h (fun b hb => hb) (p6 _ a ha)).mut fun B hB => (hM B).1 hB)
            · cases ha'
          · exact (q6 i a' ha').mut fun B hB => (hM B).1 hB
      · rw [if_neg e] at hy
        rcases h1.at_ y q hy with h0 | ⟨B, cs, q1, q2, q3, q4, q5, q6⟩
        · exact .inl h0
        · exact .inr ⟨B, cs, q1, q2, q3, q4, q5, fun i a' ha' => (q6 i a' ha').mut fun B hB => (hM B).1 hB⟩
    · have t : ∀ z, get (put (delL st rd) b (some (Blk.mk k.el (k.cells.set j (.p x))))) z ≠ none → dels (get st) rd z ≠ none := fun z hz => by
        rw [e0] at hz
        by_cases e : z = b
        · subst e; rw [eb]; simp
        · rw [if_neg e] at hz; exact hz
      exact h1.inj y y' B (t y hy) (t y' hy') hB hB'
  have hMo : ∀ B, Mut F μ (get (put (delL st rd) b (some (Blk.mk k.el (k.cells.set j (.p x)))))) B → Mut F μ (get st) B := fun B hB => mut_dels ((hM B).1 hB)
  refine ⟨μ, ⟨hS, ⟨hA.re.1, fun s y hy => (hA.re.2.1 s y hy).mut hMo, hA.re.2.2.mut hMo⟩, hA.df, fun y hy => ⟨(hA.fr y hy).1, ?_⟩⟩, ?_⟩
  · rw [e0]
    have hy0 := (hA.fr y hy).2
    by_cases e : y = b
    · subst e; rw [hk] at hy0; cases hy0
    · rw [if_neg e]; unfold dels; split
      · rfl
      · exact hy0
  · have e2 : (Mut F μ (get (put (delL st rd) b (some (Blk.mk k.el (k.cells.set j (.p x))))))) = Mut F μ (dels (get st) rd) := funext fun B => propext (hM B)
    rw [e2]
    exact h2.to base fun _ _ => rfl⟩
end Go.Proofs.YtalklhbdpmggjaaDoor.Pw
