/- The functions of the program as functions of values, part 3: a proof's lemmas, with no condition of their own. -/
import Derived.Test.YtiondkijgpjgcaaProg
import Derived.KernelRfl
import Derived.IntWalk
import Derived.Test.YtiondkijgpjgcaaSab
set_option linter.unusedVariables false
set_option linter.unusedSimpArgs false
namespace Go.Proofs.Ytiondkijgpjgcaa.Pw
open Go Go.RowKit
/-- A slice that is not there reads as the empty one. -/
def nrm : PV → PV
  | .v (.slice none 0 0) => .lst 0 []
  | x => x
def nrm1 : PV → PV
  | .agg cs => .agg (cs.map nrm)
  | .tup cs => .tup (cs.map nrm)
  | x => nrm x
theorem nrm_rep {M : Nat → Prop} {W : World} {x : PV} {v : Value} (h : RepP M W x v) : RepP M W (nrm x) v := by
  unfold nrm
  split
  · cases h; exact .lst0 _ _
  · exact h
theorem nrm1_rep {M : Nat → Prop} {W : World} {x : PV} {v : Value} (h : RepP M W x v) : RepP M W (nrm1 x) v := by
  unfold nrm1
  split
  · cases h with
    | agg cs xs hl h1 hr =>
      refine .agg _ xs (by simpa using hl) h1 fun j pv x hp hx => ?_
      simp only [List.getElem?_map, Option.map_eq_some_iff] at hp
      obtain ⟨q, hq, rfl⟩ := hp
      exact nrm_rep (hr j q x hq hx)
  · cases h with
    | tup cs xs hl hr =>
      refine .tup _ xs (by simpa using hl) fun j pv x hp hx => ?_
      simp only [List.getElem?_map, Option.map_eq_some_iff] at hp
      obtain ⟨q, hq, rfl⟩ := hp
      exact nrm_rep (hr j q x hq hx)
  · exact nrm_rep h
mutual
def frz (σ : Store) : Nat → AV → Option (PV × List Nat)
  | _, .p x => some (nrm1 x, [])
  | n + 1, .sl b o m k => match σ b with
    | some (.pc _ cs) => some (.lst m ((cs.drop o).take (m * k)), [b])
    | some (.mc _ cs) => (frzs σ n ((cs.drop o).take (m * k))).map fun r => (.lst m r.1, b :: r.2)
    | none => none
  | n + 1, .agg cs => (frzs σ n cs).map fun r => (.agg r.1, r.2)
  | n + 1, .tup cs => (frzs σ n cs).map fun r => (.tup r.1, r.2)
  | _, _ => none
def frzs (σ : Store) : Nat → List AV → Option (List PV × List Nat)
  | _, [] => some ([], [])
  | n + 1, x :: r => (frz σ n x).bind fun a => (frzs σ n r).map fun q => (a.1 :: q.1, a.2 ++ q.2)
  | 0, _ :: _ => none
end
def dels (st : Store) (rd : List Nat) : Store := fun b => if b ∈ rd then none else st b
theorem upds_dels (st : Store) (rd : List Nat) : upds st (rd.map fun b => (b, none)) = dels st rd := by
  induction rd generalizing st with
  | nil => funext b; simp [upds, dels]
  | cons a rd ih =>
    show upds (upd1 st a none) _ = _
    rw [ih]
    funext b
    simp only [dels, List.mem_cons, upd1]
    by_cases h : b ∈ rd <;> by_cases e : b = a <;> simp [h, e]
theorem mut_dels {F : Nat → Prop} {μ : Nat → Option Nat} {st : Store} {rd : List Nat} {B : Nat} (h : Mut F μ (dels st rd) B) : Mut F μ st B := by
  rcases h with h | ⟨b, h1, h2⟩
  · exact .inl h
  · refine .inr ⟨b, fun e => h1 ?_, h2⟩
    unfold dels; split
    · rfl
    · exact e
section
variable {F : Nat → Prop} {μ : Nat → Option Nat} {st : Store} {W : World}
theorem frz_both (hS : RepS F μ st W) (R : List Nat) : ∀ n,
    (∀ (a : AV) (p : PV) (rd : List Nat) (v : Value), frz st n a = some (p, rd) → (∀ b ∈ rd, b ∈ R) → RepA (Mut F μ st) μ W a v → RepP (Mut F μ (dels st R)) W p v) ∧
    (∀ (cs : List AV) (ps : List PV) (rd : List Nat) (vs : Nat → Value), frzs st n cs = some (ps, rd) → (∀ b ∈ rd, b ∈ R) → (∀ (j : Nat) a, cs[j]? = some a → RepA (Mut F μ st) μ W a (vs j)) → ps.length = cs.length ∧ ∀ (j : Nat) p, ps[j]? = some p → RepP (Mut F μ (dels st R)) W p (vs j)) := by
  intro n
  induction n with
  | zero =>
    refine ⟨fun a p rd v h hR hr => ?_, fun cs ps rd vs h hR hr => ?_⟩
    · cases a <;> simp only [frz, Option.some.injEq, Prod.mk.injEq, reduceCtorEq] at h
      obtain ⟨rfl, _⟩ := h
      exact nrm1_rep (hr.p_inv.mut fun B hB => mut_dels hB)
    · cases cs with
      | nil => simp only [frzs, Option.some.injEq, Prod.mk.injEq] at h; obtain ⟨rfl, _⟩ := h; exact ⟨rfl, fun j p hp => by simp at hp⟩
      | cons x r => simp [frzs] at h
  | succ n ih =>
    obtain ⟨ih1, ih2⟩ := ih
    refine ⟨fun a p rd v h hR hr => ?_, fun cs ps rd vs h hR hr => ?_⟩
    · have list : ∀ (cs : List AV) (xs : List Value), xs.length = cs.length → (∀ (j : Nat) pv x, cs[j]? = some pv → xs[j]? = some x → RepA (Mut F μ st) μ W pv x) → ∀ (j : Nat) a, cs[j]? = some a → RepA (Mut F μ st) μ W a (xs.getD j undef) := fun cs xs hl hr j a ha => by
        have hj := (List.getElem?_eq_some_iff.1 ha).1
        rw [List.getD_eq_getElem?_getD, List.getElem?_eq_getElem (by omega)]
        exact hr j a _ ha (List.getElem?_eq_getElem (by omega))
      have back : ∀ (ps : List PV) (xs : List Value), (∀ (j : Nat) p, ps[j]? = some p → RepP (Mut F μ (dels st R)) W p (xs.getD j undef)) → ∀ (j : Nat) pv x, ps[j]? = some pv → xs[j]? = some x → RepP (Mut F μ (dels st R)) W pv x := fun ps xs hp j pv x h1 h2 => by
        have := hp j pv h1
        rwa [List.getD_eq_getElem?_getD, h2] at this
      cases a with
      | p x => simp only [frz, Option.some.injEq, Prod.mk.injEq] at h; obtain ⟨rfl, _⟩ := h; exact nrm1_rep (hr.p_inv.mut fun B hB => mut_dels hB)
      | sl b o m k =>
        have row : ∀ (K : Blk) (B : Nat), st b = some K → μ b = some B → b ∈ R → ∃ c : Nat → Value, B < W.heap.size ∧ ¬ Mut F μ (dels st R) B ∧ ∀ (j : Nat) a, K.cells[j]? = some a → W.cell? ⟨B, j, none⟩ = some (c j) ∧ (c j).oneCell' = true ∧ RepA (Mut F μ st) μ W a (c j) := fun K B hK hB hbR => by
          obtain ⟨c, hc, _, _, _, g, hg⟩ := hS.row hK hB
          refine ⟨g, lt_of_cells hc, fun hm => ?_, fun j a ha => by have := hg j a ha; rwa [Nat.zero_add] at this⟩
          rcases hm with hm | ⟨b', h1, h2⟩
          · rcases hS.at_ b K hK with ⟨h0, _⟩ | ⟨B', _, hB', hF, _⟩
            · rw [h0] at hB; cases hB
            · rw [hB'] at hB; injection hB with hB; subst hB; exact hF hm
          · unfold dels at h1
            split at h1
            · exact h1 rfl
            · rename_i hn
              exact hn ((hS.inj b' b B h1 (by rw [hK]; simp) h2 hB) ▸ hbR)
        simp only [frz] at h
        split at h
        · rename_i e cs hst
          injection h with h; injection h with h1 h2; subst h1; subst h2
          rcases hr.sl_inv with ⟨rfl, rfl, rfl⟩ | ⟨B, cap, el, c, rfl, hb, hn, hm, hc, hs⟩
          · simp only [Nat.zero_mul, List.take_zero]; exact .lst0 _ _
          · obtain ⟨g, hB, hM, hg⟩ := row _ B hst hb (hR b (by simp))
            refine .lst m cap _ B o (fun j => g (o + j)) hB hM ⟨hn, hm⟩ (fun j hj => ?_) (fun j hj => ?_) (fun j pv hp => ?_)
            all_goals
              have get : ∀ pv, ((cs.drop o).take (m * k))[j]? = some pv → (Blk.pc e cs).cells[o + j]? = some (.p pv) := fun pv hp => by
                rw [List.getElem?_take] at hp
                split at hp
                · rw [List.getElem?_drop] at hp; simp [Blk.cells, hp]
                · cases hp
            · exact (hg (o + j) _ (get _ (List.getElem?_eq_getElem hj))).1
            · exact (hg (o + j) _ (get _ (List.getElem?_eq_getElem hj))).2.1
            · exact (hg (o + j) _ (get _ hp)).2.2.p_inv.mut fun B hB => mut_dels hB
        · rename_i e cs hst
          simp only [Option.map_eq_some_iff] at h
          obtain ⟨r, hr', h⟩ := h
          injection h with h1 h2; subst h1; subst h2
          rcases hr.sl_inv with ⟨rfl, rfl, rfl⟩ | ⟨B, cap, el, c, rfl, hb, hn, hm, hc, hs⟩
          · rw [Nat.zero_mul, List.take_zero] at hr'
            cases n with
            | zero => simp only [frzs, Option.some.injEq] at hr'; subst hr'; exact .lst0 _ _
            | succ n => simp only [frzs, Option.some.injEq] at hr'; subst hr'; exact .lst0 _ _
          · obtain ⟨g, hB, hM, hg⟩ := row _ B hst hb (hR b (by simp))
            have get : ∀ (j : Nat) a, ((cs.drop o).take (m * k))[j]? = some a → (Blk.mc e cs).cells[o + j]? = some a := fun j a hp => by
              rw [List.getElem?_take] at hp
              split at hp
              · rw [List.getElem?_drop] at hp; simp [Blk.cells, hp]
              · cases hp
            obtain ⟨hl, hp⟩ := ih2 _ r.1 r.2 (fun j => g (o + j)) hr' (fun b hb => hR b (by simp [hb])) (fun j a ha => (hg (o + j) a (get j a ha)).2.2)
            refine .lst m cap _ B o (fun j => g (o + j)) hB hM ⟨hn, hm⟩ (fun j hj => ?_) (fun j hj => ?_) hp
            · rw [hl] at hj; exact (hg (o + j) _ (get j _ (List.getElem?_eq_getElem hj))).1
            · rw [hl] at hj; exact (hg (o + j) _ (get j _ (List.getElem?_eq_getElem hj))).2.1
        · cases h
      | agg cs =>
        simp only [frz, Option.map_eq_some_iff] at h
        obtain ⟨r, hr', h⟩ := h
        injection h with h1 h2; subst h1; subst h2
        obtain ⟨xs, rfl, hl, h1, hx⟩ := hr.agg_inv
        obtain ⟨hl2, hp⟩ := ih2 cs r.1 r.2 (fun j => xs.getD j undef) hr' hR (list cs xs hl hx)
        exact .agg _ xs (by omega) h1 (back _ xs hp)
      | tup cs =>
        simp only [frz, Option.map_eq_some_iff] at h
        obtain ⟨r, hr', h⟩ := h
        injection h with h1 h2; subst h1; subst h2
        cases hr with
        | tup _ xs hl hx =>
          obtain ⟨hl2, hp⟩ := ih2 cs r.1 r.2 (fun j => xs.getD j undef) hr' hR (list cs xs hl hx)
          exact .tup _ xs (by omega) (back _ xs hp)
      | any => simp [frz] at h
      | own b o => simp [frz] at h
      | fn f cs => simp [frz] at h
    · cases cs with
      | nil => simp only [frzs, Option.some.injEq, Prod.mk.injEq] at h; obtain ⟨rfl, _⟩ := h; exact ⟨rfl, fun j p hp => by simp at hp⟩
      | cons x r =>
        simp only [frzs, Option.bind_eq_some_iff, Option.map_eq_some_iff] at h
        obtain ⟨a, ha, q, hq, h⟩ := h
        injection h with h1 h2; subst h1; subst h2
        have h1 := ih1 x a.1 a.2 (vs 0) ha (fun b hb => hR b (by simp [hb])) (hr 0 x rfl)
        obtain ⟨hl, hp⟩ := ih2 r q.1 q.2 (fun j => vs (j + 1)) hq (fun b hb => hR b (by simp [hb])) (fun j a ha => hr (j + 1) a (by simpa using ha))
        refine ⟨by simp [hl], fun j p hp' => ?_⟩
        cases j with
        | zero => simp only [List.getElem?_cons_zero, Option.some.injEq] at hp'; subst hp'; exact h1
        | succ j => exact hp j p (by simpa using hp')
theorem RepS.dels (h : RepS F μ st W) (rd : List Nat) : RepS F μ (dels st rd) W ∧ Ext F (Mut F μ st) μ W (Mut F μ (dels st rd)) μ W := by
  rw [← upds_dels]
  induction rd generalizing st with
  | nil => exact ⟨h, Ext.refl _ _ _ _⟩
  | cons b rd ih =>
    obtain ⟨h1, h2⟩ := h.kill b
    obtain ⟨h3, h4⟩ := ih h1
    exact ⟨h3, h2.trans h4⟩
end
mutual
def PV.flat : PV → Bool
  | .v _ => true
  | .lst _ _ | .pt _ _ => false
  | .agg cs => flats cs
  | .tup cs => flats cs
def flats : List PV → Bool
  | [] => true
  | x :: r => x.flat && flats r
end
theorem flats_get : ∀ {cs : List PV}, flats cs = true → ∀ (j : Nat) p, cs[j]? = some p → p.flat = true
  | [], _, j, p, h => by simp at h
  | x :: r, hf, j, p, h => by
    simp only [flats, Bool.and_eq_true] at hf
    cases j with
    | zero => simp at h; exact h ▸ hf.1
    | succ j => exact flats_get hf.2 j p (by simpa using h)
theorem RepP.flat {M M' : Nat → Prop} {W W' : World} {x : PV} {v : Value} (r : RepP M W x v) : x.flat = true → RepP M' W' x v := by
  induction r with
  | v x hx => exact fun _ => .v x hx
  | lst0 a cap => exact fun h => by simp [PV.flat] at h
  | lst => exact fun h => by simp [PV.flat] at h
  | pt => exact fun h => by simp [PV.flat] at h
  | agg cs xs hl h1 _ ih => exact fun h => .agg cs xs hl h1 fun j pv x hp hx => ih j pv x hp hx (flats_get (by simpa [PV.flat] using h) j pv hp)
  | tup cs xs hl _ ih => exact fun h => .tup cs xs hl fun j pv x hp hx => ih j pv x hp hx (flats_get (by simpa [PV.flat] using h) j pv hp)
/-- A call of a function of values, as its caller sees it. -/
theorem SoundE.of {P : Program} {D f : Nat} {args : List AV} {σ : Store} {new : Nat} {n : Nat} {ps : List PV} {rd : List Nat} {r : PV} (hf : frzs σ n args = some (ps, rd)) (h : Sound P f ps r) :
    SoundE P D f args σ new ⟨.p r, if r.flat then [] else rd.map fun b => (b, none), rd⟩ := by
  refine ⟨h.1, fun F μ st W vs hrd hS hG hnew hl hv => ?_⟩
  have key : ∀ n, (∀ (a : AV) p rd, frz σ n a = some (p, rd) → (∀ b ∈ rd, st b = σ b) → frz st n a = some (p, rd)) ∧ (∀ (avs : List AV) ps rd, frzs σ n avs = some (ps, rd) → (∀ b ∈ rd, st b = σ b) → frzs st n avs = some (ps, rd)) := by
    intro n
    induction n with
    | zero => exact ⟨fun a p rd h _ => by cases a <;> simp_all [frz], fun avs ps rd h _ => by cases avs <;> simp_all [frzs]⟩
    | succ n ih =>
      obtain ⟨ih1, ih2⟩ := ih
      refine ⟨fun a p rd h hs => ?_, fun avs ps rd h hs => ?_⟩
      · cases a with
        | sl b o m k =>
          simp only [frz] at h ⊢
          have hb : st b = σ b := by
            apply hs
            split at h
            · injection h with h; injection h with _ h; subst h; simp
            · simp only [Option.map_eq_some_iff] at h
              obtain ⟨r, _, h⟩ := h
              injection h with _ h; subst h; simp
            · cases h
          rw [hb]
          split at h
          · exact h
          · simp only [Option.map_eq_some_iff] at h ⊢
            obtain ⟨r, hr, h⟩ := h
            refine ⟨r, ih2 _ _ _ hr fun b' hb' => hs b' ?_, h⟩
            injection h with _ h; subst h; simp [hb']
          · cases h
        | agg cs =>
          simp only [frz, Option.map_eq_some_iff] at h ⊢
          obtain ⟨r, hr, h⟩ := h
          exact ⟨r, ih2 _ _ _ hr fun b' hb' => hs b' (by injection h with _ h; subst h; exact hb'), h⟩
        | tup cs =>
          simp only [frz, Option.map_eq_some_iff] at h ⊢
          obtain ⟨r, hr, h⟩ := h
          exact ⟨r, ih2 _ _ _ hr fun b' hb' => hs b' (by injection h with _ h; subst h; exact hb'), h⟩
        | p x => simpa [frz] using h
        | any => simp [frz] at h
        | own b o => simp [frz] at h
        | fn f cs => simp [frz] at h
      · cases avs with
        | nil => simpa [frzs] using h
        | cons x r =>
          simp only [frzs, Option.bind_eq_some_iff, Option.map_eq_some_iff] at h ⊢
          obtain ⟨a, ha, q, hq, h⟩ := h
          injection h with h1 h2
          refine ⟨a, ih1 _ _ _ ha fun b hb => hs b (by subst h2; simp [hb]), q, ih2 _ _ _ hq fun b hb => hs b (by subst h2; simp [hb]), by rw [← h1, ← h2]⟩
  have hf' := (key n).2 args ps rd hf hrd
  obtain ⟨hpl, hp⟩ := (frz_both hS rd n).2 args ps rd (fun j => vs.getD j undef) hf' (fun b hb => hb) (fun j a ha => by
    have hj := (List.getElem?_eq_some_iff.1 ha).1
    rw [List.getD_eq_getElem?_getD, List.getElem?_eq_getElem (by omega)]
    exact hv j a _ ha (List.getElem?_eq_getElem (by omega)))
  have hlow : ∀ B, Mut F μ (dels st rd) B → B < W.heap.size := fun B hB => by
    rcases mut_dels hB with h1 | ⟨b, h1, h2⟩
    · exact hS.low B h1
    · obtain ⟨k, hk⟩ := Option.ne_none_iff_exists'.1 h1
      obtain ⟨c, hc, _⟩ := hS.row hk h2
      exact lt_of_cells hc
  have hcall := h.2 (Mut F μ (dels st rd)) W vs hlow (hG.mut fun B hB => mut_dels hB) (by omega) (fun j a v ha hv' => by
    have := hp j a ha
    rwa [List.getD_eq_getElem?_getD, hv'] at this)
  refine hcall.mono ?_
  rintro en W' ⟨v, rfl, hr, hB⟩
  have ext : Ext F (Mut F μ st) μ W (Mut F μ st) μ W' := ⟨hB.size, fun B hb _ => hB.block B hb, fun B c el hc => ⟨c, by rw [hB.block B (lt_of_cells hc)]; exact hc, rfl⟩, fun _ _ hb => hb, fun _ _ hm => hm, hB.os, hB.tape, hB.output, fun B hF => hB.block B (hS.low B hF)⟩
  have hS' : RepS F μ st W' := ⟨fun b k hk => by
    rcases hS.at_ b k hk with h0 | ⟨B, c, h1, h2, h3, h4, h5, h6⟩
    · exact .inl h0
    · exact .inr ⟨B, c, h1, h2, by rw [hB.block B (lt_of_cells h3)]; exact h3, h4, h5, fun j a ha => (h6 j a ha).ext ext⟩, hS.inj, fun B hF => Nat.lt_of_lt_of_le (hS.low B hF) hB.size⟩
  refine ⟨v, μ, rfl, ?_⟩
  simp only
  split
  · rename_i hfl
    exact ⟨hS', .p _ _ (hr.flat hfl), ext, fun _ _ => trivial⟩
  · rw [upds_dels]
    obtain ⟨h1, h2⟩ := hS'.dels rd
    exact ⟨h1, .p _ _ hr, ext.trans h2, fun _ _ => trivial⟩
end Go.Proofs.Ytiondkijgpjgcaa.Pw
namespace Go.Proofs.Ytiondkijgpjgcaa.Pw
open Go Go.RowKit
def resOne (T : Tab) (env : List AV) (σ : Store) : ResultVar → Option (AV × Prop)
  | .tmp t => some (env.getD t .any, True)
  | .cell a t => (T t).bind fun y => if y.size == 0 then none else match env.getD a .any with
    | .own b o => (σ b).bind fun k => some (cellsTo y.agg y.size o k, o + y.size ≤ k.cells.length ∧ (y.agg = false → y.size = 1))
    | _ => none
def resAll (T : Tab) (env : List AV) (σ : Store) : List ResultVar → Option (List AV × Prop)
  | [] => some ([], True)
  | r :: rs => (resOne T env σ r).bind fun a => (resAll T env σ rs).map fun q => (a.1 :: q.1, a.2 ∧ q.2)
def pack : List AV → AV
  | [a] => a
  | avs => .tup avs
def Res (T : Tab) (rs : List ResultVar) (env : List AV) (st : Stores) (K : AV → Prop) : Prop :=
  match resAll T env (get st) rs with
  | some (avs, c) => c ∧ K (pack avs)
  | none => False
section
variable {P : Program} {T : Tab} {F : Nat → Prop} {μ : Nat → Option Nat} {st : Store} {W : World}
theorem resOne_sound (hT : TOK P T) (hS : RepS F μ st W) {env : List AV} {tmps : Array Value} (hE : RepE (Mut F μ st) μ W env tmps) {r : ResultVar} {a : AV} {c : Prop} (h : resOne T env st r = some (a, c)) (hc : c) :
    ∃ v, ((match r with | .tmp t => pure (tmps.getD t undef) | .cell a t => do loadVar t (← asAddr (tmps.getD a undef)) : Sem Value)).run P W = .ok v W ∧ RepA (Mut F μ st) μ W a v := by
  have hget : ∀ t, RepA (Mut F μ st) μ W (env.getD t .any) (tmps.getD t undef) := fun t => by
    rw [List.getD_eq_getElem?_getD]
    cases hx : env[t]? with
    | none => exact .any _
    | some y => exact hE.2.1 t y hx
  cases r with
  | tmp t =>
    simp only [resOne, Option.some.injEq, Prod.mk.injEq] at h
    obtain ⟨rfl, _⟩ := h
    exact ⟨_, rfl, hget t⟩
  | cell p t =>
    simp only [resOne, Option.bind_eq_some_iff] at h
    obtain ⟨y, hy, h⟩ := h
    split at h
    · cases h
    · rename_i h0
      split at h
      · rename_i b o hp
        simp only [Option.bind_eq_some_iff] at h
        obtain ⟨k, hk, h⟩ := h
        injection h with h; injection h with h1 h2; subst h1; subst h2
        have hv := hget p
        rw [hp] at hv
        obtain ⟨B, hB, hv⟩ := hv.own_inv
        obtain ⟨cc, _, _, _, _, hrow⟩ := hS.row hk hB
        obtain ⟨x, hx, hrep⟩ := load_row (P := P) (o := o) (hT.facts hy) hrow hc.1 hc.2 (by simpa using h0)
        rw [Nat.zero_add] at hx
        refine ⟨x, ?_, hrep⟩
        simp only [hv]
        simp [asAddr, hx]
      · cases h
theorem resAll_sound (hT : TOK P T) (hS : RepS F μ st W) {env : List AV} {tmps : Array Value} (hE : RepE (Mut F μ st) μ W env tmps) : ∀ (rs : List ResultVar) (avs : List AV) (c : Prop), resAll T env st rs = some (avs, c) → c →
    ∃ vs : List Value, (rs.mapM fun | .tmp t => pure (tmps.getD t undef) | .cell a t => do loadVar t (← asAddr (tmps.getD a undef)) : Sem (List Value)).run P W = .ok vs W ∧ vs.length = avs.length ∧ ∀ (j : Nat) a v, avs[j]? = some a → vs[j]? = some v → RepA (Mut F μ st) μ W a v
  | [], avs, c, h, _ => by
    simp only [resAll, Option.some.injEq, Prod.mk.injEq] at h
    obtain ⟨rfl, _⟩ := h
    exact ⟨[], by simp, rfl, fun j a v ha => by simp at ha⟩
  | r :: rs, avs, c, h, hc => by
    simp only [resAll, Option.bind_eq_some_iff, Option.map_eq_some_iff] at h
    obtain ⟨q, hq, p, hp, h⟩ := h
    injection h with h1 h2; subst h1; subst h2
    obtain ⟨v, hv, hr⟩ := resOne_sound hT hS hE (a := q.1) (c := q.2) hq hc.1
    obtain ⟨vs, hvs, hl, hrs⟩ := resAll_sound hT hS hE rs p.1 p.2 hp hc.2
    refine ⟨v :: vs, ?_, by simp [hl], fun j a w ha hw => ?_⟩
    · rw [List.mapM_cons, Sem.run_bind, hv, Result.andThen_ok, Sem.run_bind, hvs]; rfl
    · cases j with
      | zero => simp at ha hw; exact ha ▸ hw ▸ hr
      | succ j => exact hrs j a w (by simpa using ha) (by simpa using hw)
theorem results_sound (hT : TOK P T) (hS : RepS F μ st W) {env : List AV} {tmps : Array Value} (hE : RepE (Mut F μ st) μ W env tmps) {fn : Func} {avs : List AV} {c : Prop} (h : resAll T env st fn.results.toList = some (avs, c)) (hc : c) :
    ∃ v, (results fn tmps).run P W = .ok v W ∧ RepA (Mut F μ st) μ W (pack avs) v := by
  obtain ⟨vs, hvs, hl, hrs⟩ := resAll_sound hT hS hE _ avs c h hc
  have hrun : (results fn tmps).run P W = .ok (if h : vs.toArray.size = 1 then vs.toArray[0] else .tuple vs.toArray) W := by
    unfold results
    rw [Array.mapM_eq_mapM_toList]
    simp only [Sem.run_bind, Sem.run_map]
    exact congrArg (fun r : Result (List Value) => ((r.andThen fun a w' => Result.ok (List.toArray a) w').andThen fun a w' => Sem.run P (pure (if h : a.size = 1 then a[0] else Value.tuple a)) w')) hvs
  refine ⟨_, hrun, ?_⟩
  cases vs with
  | nil =>
    have : avs = [] := List.eq_nil_of_length_eq_zero (by simpa using hl.symm)
    subst this
    exact .tup [] [] rfl fun j a v ha => by simp at ha
  | cons v vs =>
    cases vs with
    | nil =>
      obtain ⟨a, rfl⟩ := List.length_eq_one_iff.1 (by simpa using hl.symm)
      exact hrs 0 a v rfl rfl
    | cons v2 vs =>
      have h2 : ¬ (v :: v2 :: vs).toArray.size = 1 := by simp
      rw [dif_neg h2]
      have hp : pack avs = .tup avs := by
        match avs, hl with
        | [], _ => rfl
        | [a], hl => simp at hl
        | _ :: _ :: _, _ => rfl
      rw [hp]
      exact .tup avs _ hl hrs
end
def Fin (T : Tab) (rs : List ResultVar) (K : AV → Stores → Prop) : PostA := fun x env st _ => match x with
  | .exit _ => False
  | _ => Res T rs env st fun a => K a st
def args0 (n : Nat) (args : List AV) : List AV := args ++ List.replicate (n - args.length) .any
theorem args0_rep {M : Nat → Prop} {μ : Nat → Option Nat} {W : World} {n : Nat} {args : List AV} {vs : List Value} (hG : GOK M W) (hl : vs.length = args.length) (h : ∀ (j : Nat) a v, args[j]? = some a → vs[j]? = some v → RepA M μ W a v) :
    RepE M μ W (args0 n args) (vs.toArray ++ Array.replicate (n - vs.toArray.size) undef) := by
  refine ⟨by simp [args0, hl], fun t x hx => ?_, hG⟩
  unfold args0 at hx
  rw [List.getElem?_append] at hx
  split at hx
  · rename_i ht
    have hlt : t < vs.length := by omega
    have : (vs.toArray ++ Array.replicate (n - vs.toArray.size) undef).getD t undef = vs[t] := by
      simp [Array.getElem?_append, hlt]
    rw [this]
    exact h t x _ hx (List.getElem?_eq_getElem hlt)
  · rw [List.getElem?_replicate] at hx
    split at hx
    · injection hx with hx; subst hx; exact .any _
    · cases hx
/-- THE CONTRACT OF A FUNCTION OF VALUES, out of its body. -/
theorem Sound.of_WPn {m : Nat} {P : Program} {T : Tab} (hT : TOK P T) {f : Nat} {fn : Func} {c : Code} {args : List PV} {res : PV} (hf : P.funcs[f]? = some fn) (hb : fn.body = some c) (hnm : (fn.name == "runtime.NumGoroutine") = false)
    (h : WP P 0 c (Fin T fn.results.toList fun a st => ∃ rd, frz (get st) m a = some (res, rd)) (args0 fn.ntmps (args.map .p)) [] 0) : Sound P f args res := by
  refine ⟨⟨fn, hf, hnm, by rw [hb]; rfl⟩, fun F W vs hF hG hl hv => ?_⟩
  have hA : At F (fun _ => none) (args0 fn.ntmps (args.map .p)) [] 0 W { tmps := vs.toArray ++ Array.replicate (fn.ntmps - vs.toArray.size) undef, defers := [] } := by
    refine ⟨⟨fun b k hk => by simp [get] at hk, fun _ _ _ hb => absurd rfl hb, hF⟩, args0_rep (hG.mut fun B hB => by rcases hB with h1 | ⟨b, h1, _⟩; exact h1; exact absurd rfl h1) (by simpa using hl) fun j a v ha hx => ?_, rfl, fun b _ => ⟨rfl, rfl⟩⟩
    simp only [List.getElem?_map, Option.map_eq_some_iff] at ha
    obtain ⟨p, hp, rfl⟩ := ha
    exact .p _ _ ((hv j p v hp hx).mut fun B hB => by rcases hB with h1 | ⟨b, h1, _⟩; exact h1; exact absurd rfl h1)
  refine calls_of_wp hf hb (wp_mono (h (Nat.le_refl _) F _ W _ hA) ?_)
  rintro e a' W' ⟨x, env', st', nx', μ', rfl, hq, _, hA', hK⟩
  have fin : Res T fn.results.toList env' st' (fun a => ∃ rd, frz (get st') m a = some (res, rd)) → a'.defers = [] ∧ ∃ v, (results fn a'.tmps).run P W' = .ok v W' ∧ ∃ u, Ending.returned v = .returned u ∧ RepP F W' res u ∧ Below W.heap.size W W' := by
    intro hr
    unfold Res at hr
    split at hr
    · rename_i avs c hres
      obtain ⟨hc, rd, hrd⟩ := hr
      obtain ⟨v, hv, hrep⟩ := results_sound hT hA'.rs hA'.re hres hc
      refine ⟨hA'.df, v, hv, v, rfl, ?_, hK.os, hK.tape, hK.output, hK.size, fun B hB => ?_⟩
      · exact ((frz_both hA'.rs rd m).1 _ _ _ v hrd (fun b hb => hb) hrep).mut fun B hB => .inl hB
      · by_cases hFB : F B
        · exact hK.keepF B hFB
        · exact hK.keep B hB fun hm => by rcases hm with h1 | ⟨b, h1, _⟩; exact hFB h1; exact absurd rfl h1
    · exact hr.elim
  cases x with
  | normal => exact fin hq
  | ret => exact fin hq
  | exit id => exact hq.elim
theorem Sound.of_WP {P : Program} {T : Tab} (hT : TOK P T) {f : Nat} {fn : Func} {c : Code} {args : List PV} {res : PV} (hf : P.funcs[f]? = some fn) (hb : fn.body = some c) (hnm : (fn.name == "runtime.NumGoroutine") = false)
    (h : WP P 0 c (Fin T fn.results.toList fun a st => ∃ rd, frz (get st) 9 a = some (res, rd)) (args0 fn.ntmps (args.map .p)) [] 0) : Sound P f args res := Sound.of_WPn (m := 9) hT hf hb hnm h
theorem Sound.of_WP99 {P : Program} {T : Tab} (hT : TOK P T) {f : Nat} {fn : Func} {c : Code} {args : List PV} {res : PV} (hf : P.funcs[f]? = some fn) (hb : fn.body = some c) (hnm : (fn.name == "runtime.NumGoroutine") = false)
    (h : WP P 0 c (Fin T fn.results.toList fun a st => ∃ rd, frz (get st) 99 a = some (res, rd)) (args0 fn.ntmps (args.map .p)) [] 0) : Sound P f args res := Sound.of_WPn (m := 99) hT hf hb hnm h
end Go.Proofs.Ytiondkijgpjgcaa.Pw
namespace Go.Proofs.Ytiondkijgpjgcaa.Pw
open Go
def tab : Tab := fun t => match t with
  | 1 => some ⟨1, 8, false, [.nilFunc], none, [], [], false, false, none, none⟩
  | 2 => some ⟨1, 8, false, [.int .i64 0], none, [], [], false, false, some .i64, none⟩
  | 3 => some ⟨1, 8, false, [.int .i64 0], none, [], [], false, false, some .i64, none⟩
  | 4 => some ⟨1, 1, false, [.bool false], none, [], [], true, false, none, none⟩
  | 5 => some ⟨1, 1, false, [.int .u8 0], none, [], [], false, false, some .u8, none⟩
  | 6 => some ⟨1, 1, false, [.int .u8 0], none, [], [], false, false, some .u8, none⟩
  | 7 => some ⟨4, 24, true, [.int .i64 0, .int .i64 0, .bool false, .int .u8 0], none, [(0, 1), (1, 1), (2, 1), (3, 1)], [false, false, false, false], false, false, none, none⟩
  | 8 => some ⟨4, 24, true, [.int .i64 0, .int .i64 0, .bool false, .int .u8 0], none, [(0, 1), (1, 1), (2, 1), (3, 1)], [false, false, false, false], false, false, none, none⟩
  | 9 => some ⟨1, 16, false, [.string ByteArray.empty], none, [], [], false, true, none, none⟩
  | 10 => some ⟨1, 16, false, [.string ByteArray.empty], none, [], [], false, true, none, none⟩
  | 11 => some ⟨1, 16, false, [.string ByteArray.empty], none, [], [], false, true, none, none⟩
  | 12 => some ⟨1, 8, false, [.int .u64 0], none, [], [], false, false, some .u64, none⟩
  | 13 => some ⟨2, 24, true, [.string ByteArray.empty, .int .u64 0], none, [(0, 1), (1, 1)], [false, false], false, false, none, none⟩
  | 14 => some ⟨2, 24, true, [.string ByteArray.empty, .int .u64 0], none, [(0, 1), (1, 1)], [false, false], false, false, none, none⟩
  | 15 => some ⟨1, 8, false, [.pointer none], none, [], [], false, false, none, none⟩
  | 16 => some ⟨1, 8, false, [.pointer none], none, [], [], false, false, none, none⟩
  | 17 => some ⟨1, 8, false, [.pointer none], none, [], [], false, false, none, none⟩
  | 18 => some ⟨1, 8, true, [.pointer none], none, [(0, 1)], [false], false, false, none, none⟩
  | 19 => some ⟨1, 8, true, [.pointer none], none, [(0, 1)], [false], false, false, none, none⟩
  | 21 => some ⟨1, 4, false, [.int .i32 0], none, [], [], false, false, some .i32, none⟩
  | 22 => some ⟨1, 24, false, [.slice none 0 0], some 3, [], [], false, false, none, none⟩
  | 23 => some ⟨1, 24, false, [.slice none 0 0], some 22, [], [], false, false, none, none⟩
  | 24 => some ⟨3, 72, true, [.slice none 0 0, .slice none 0 0, .slice none 0 0], none, [(0, 1), (1, 1), (2, 1)], [false, false, false], false, false, none, none⟩
  | 25 => some ⟨3, 72, true, [.slice none 0 0, .slice none 0 0, .slice none 0 0], none, [(0, 1), (1, 1), (2, 1)], [false, false, false], false, false, none, none⟩
  | 26 => some ⟨1, 8, false, [.nilFunc], none, [], [], false, false, none, none⟩
  | 27 => some ⟨1, 8, false, [.nilFunc], none, [], [], false, false, none, none⟩
  | 28 => some ⟨1, 8, false, [.int .i64 0], none, [], [], false, false, some .i64, none⟩
  | 29 => some ⟨1, 8, false, [.nilFunc], none, [], [], false, false, none, none⟩
  | 30 => some ⟨1, 8, false, [.nilFunc], none, [], [], false, false, none, none⟩
  | 31 => some ⟨1, 24, false, [.slice none 0 0], some 36, [], [], false, false, none, none⟩
  | 32 => some ⟨1, 8, false, [.nilFunc], none, [], [], false, false, none, none⟩
  | 33 => some ⟨1, 8, false, [.nilFunc], none, [], [], false, false, none, none⟩
  | 34 => some ⟨1, 24, false, [.slice none 0 0], some 3, [], [], false, false, none, none⟩
  | 35 => some ⟨3, 56, true, [.bool false, .slice none 0 0, .slice none 0 0], none, [(0, 1), (1, 1), (2, 1)], [false, false, false], false, false, none, none⟩
  | 36 => some ⟨3, 56, true, [.bool false, .slice none 0 0, .slice none 0 0], none, [(0, 1), (1, 1), (2, 1)], [false, false, false], false, false, none, none⟩
  | 37 => some ⟨5, 104, true, [.bool false, .slice none 0 0, .slice none 0 0, .slice none 0 0, .slice none 0 0], none, [(0, 3), (3, 1), (4, 1)], [true, false, false], false, false, none, none⟩
  | 38 => some ⟨5, 104, true, [.bool false, .slice none 0 0, .slice none 0 0, .slice none 0 0, .slice none 0 0], none, [(0, 3), (3, 1), (4, 1)], [true, false, false], false, false, none, none⟩
  | 39 => some ⟨1, 8, false, [.nilFunc], none, [], [], false, false, none, none⟩
  | 41 => some ⟨1, 8, false, [.nilFunc], none, [], [], false, false, none, none⟩
  | 42 => some ⟨1, 8, false, [.nilFunc], none, [], [], false, false, none, none⟩
  | 44 => some ⟨1, 8, false, [.nilFunc], none, [], [], false, false, none, none⟩
  | 46 => some ⟨1, 8, false, [.nilFunc], none, [], [], false, false, none, none⟩
  | 47 => some ⟨1, 8, false, [.nilFunc], none, [], [], false, false, none, none⟩
  | 48 => some ⟨1, 8, false, [.nilFunc], none, [], [], false, false, none, none⟩
  | 49 => some ⟨1, 8, false, [.nilFunc], none, [], [], false, false, none, none⟩
  | 50 => some ⟨1, 8, false, [.nilFunc], none, [], [], false, false, none, none⟩
  | 51 => some ⟨1, 8, false, [.nilFunc], none, [], [], false, false, none, none⟩
  | 52 => some ⟨1, 8, false, [.nilFunc], none, [], [], false, false, none, none⟩
  | 53 => some ⟨1, 8, false, [.nilFunc], none, [], [], false, false, none, none⟩
  | 54 => some ⟨1, 8, false, [.nilFunc], none, [], [], false, false, none, none⟩
  | 55 => some ⟨2, 48, true, [.slice none 0 0, .slice none 0 0], none, [(0, 1), (1, 1)], [false, false], false, false, none, none⟩
  | 56 => some ⟨4, 96, true, [.slice none 0 0, .slice none 0 0, .slice none 0 0, .slice none 0 0], none, [], [], false, false, none, some (2, 55)⟩
  | 57 => some ⟨1, 8, false, [.nilFunc], none, [], [], false, false, none, none⟩
  | 58 => some ⟨1, 8, false, [.pointer none], none, [], [], false, false, none, none⟩
  | 59 => some ⟨1, 8, false, [.nilFunc], none, [], [], false, false, none, none⟩
  | 60 => some ⟨1, 8, false, [.nilFunc], none, [], [], false, false, none, none⟩
  | 61 => some ⟨1, 24, false, [.slice none 0 0], some 31, [], [], false, false, none, none⟩
  | 62 => some ⟨3, 72, true, [.slice none 0 0, .slice none 0 0, .slice none 0 0], none, [(0, 1), (1, 1), (2, 1)], [false, false, false], false, false, none, none⟩
  | 63 => some ⟨3, 72, true, [.slice none 0 0, .slice none 0 0, .slice none 0 0], none, [(0, 1), (1, 1), (2, 1)], [false, false, false], false, false, none, none⟩
  | 64 => some ⟨7, 152, true, [.slice none 0 0, .slice none 0 0, .slice none 0 0, .slice none 0 0, .slice none 0 0, .slice none 0 0, .int .i64 0], none, [(0, 3), (3, 3), (6, 1)], [true, true, false], false, false, none, none⟩
  | 65 => some ⟨7, 152, true, [.slice none 0 0, .slice none 0 0, .slice none 0 0, .slice none 0 0, .slice none 0 0, .slice none 0 0, .int .i64 0], none, [(0, 3), (3, 3), (6, 1)], [true, true, false], false, false, none, none⟩
  | 66 => some ⟨1, 8, false, [.nilFunc], none, [], [], false, false, none, none⟩
  | 67 => some ⟨1, 8, false, [.nilFunc], none, [], [], false, false, none, none⟩
  | 68 => some ⟨1, 8, false, [.nilFunc], none, [], [], false, false, none, none⟩
  | 69 => some ⟨1, 8, false, [.nilFunc], none, [], [], false, false, none, none⟩
  | 70 => some ⟨1, 8, false, [.nilFunc], none, [], [], false, false, none, none⟩
  | 72 => some ⟨1, 8, false, [.nilFunc], none, [], [], false, false, none, none⟩
  | 73 => some ⟨1, 8, false, [.nilFunc], none, [], [], false, false, none, none⟩
  | 74 => some ⟨1, 8, false, [.nilFunc], none, [], [], false, false, none, none⟩
  | 75 => some ⟨1, 8, false, [.nilFunc], none, [], [], false, false, none, none⟩
  | 76 => some ⟨1, 8, false, [.nilFunc], none, [], [], false, false, none, none⟩
  | 77 => some ⟨1, 8, false, [.nilFunc], none, [], [], false, false, none, none⟩
  | 78 => some ⟨1, 8, false, [.nilFunc], none, [], [], false, false, none, none⟩
  | 79 => some ⟨1, 8, false, [.nilFunc], none, [], [], false, false, none, none⟩
  | 80 => some ⟨1, 8, false, [.nilFunc], none, [], [], false, false, none, none⟩
  | 81 => some ⟨1, 8, false, [.pointer none], none, [], [], false, false, none, none⟩
  | 82 => some ⟨1, 8, false, [.nilFunc], none, [], [], false, false, none, none⟩
  | 83 => some ⟨1, 8, false, [.nilFunc], none, [], [], false, false, none, none⟩
  | 84 => some ⟨1, 8, false, [.pointer none], none, [], [], false, false, none, none⟩
  | 85 => some ⟨1, 8, false, [.nilFunc], none, [], [], false, false, none, none⟩
  | 86 => some ⟨1, 8, false, [.nilFunc], none, [], [], false, false, none, none⟩
  | 87 => some ⟨1, 8, false, [.nilFunc], none, [], [], false, false, none, none⟩
  | 89 => some ⟨1, 8, false, [.nilFunc], none, [], [], false, false, none, none⟩
  | 90 => some ⟨1, 8, false, [.nilFunc], none, [], [], false, false, none, none⟩
  | 91 => some ⟨1, 8, false, [.nilFunc], none, [], [], false, false, none, none⟩
  | 92 => some ⟨1, 8, false, [.nilFunc], none, [], [], false, false, none, none⟩
  | 93 => some ⟨1, 8, false, [.nilFunc], none, [], [], false, false, none, none⟩
  | 94 => some ⟨1, 8, false, [.nilFunc], none, [], [], false, false, none, none⟩
  | 96 => some ⟨1, 8, false, [.nilFunc], none, [], [], false, false, none, none⟩
  | 98 => some ⟨1, 8, false, [.nilFunc], none, [], [], false, false, none, none⟩
  | 99 => some ⟨1, 8, false, [.nilFunc], none, [], [], false, false, none, none⟩
  | 100 => some ⟨1, 8, false, [.nilFunc], none, [], [], false, false, none, none⟩
  | 101 => some ⟨1, 8, false, [.nilFunc], none, [], [], false, false, none, none⟩
  | 102 => some ⟨1, 24, false, [.slice none 0 0], some 79, [], [], false, false, none, none⟩
  | 103 => some ⟨1, 8, false, [.nilFunc], none, [], [], false, false, none, none⟩
  | 104 => some ⟨1, 8, false, [.nilFunc], none, [], [], false, false, none, none⟩
  | 105 => some ⟨1, 8, false, [.nilFunc], none, [], [], false, false, none, none⟩
  | 106 => some ⟨1, 8, false, [.nilFunc], none, [], [], false, false, none, none⟩
  | 107 => some ⟨1, 8, false, [.nilFunc], none, [], [], false, false, none, none⟩
  | 108 => some ⟨1, 8, false, [.nilFunc], none, [], [], false, false, none, none⟩
  | 109 => some ⟨1, 8, false, [.nilFunc], none, [], [], false, false, none, none⟩
  | 110 => some ⟨1, 8, false, [.nilFunc], none, [], [], false, false, none, none⟩
  | 111 => some ⟨4, 40, true, [.pointer none, .pointer none, .pointer none, .string ByteArray.empty], none, [(0, 1), (1, 1), (2, 1), (3, 1)], [false, false, false, false], false, false, none, none⟩
  | 112 => some ⟨4, 40, true, [.pointer none, .pointer none, .pointer none, .string ByteArray.empty], none, [(0, 1), (1, 1), (2, 1), (3, 1)], [false, false, false, false], false, false, none, none⟩
  | 113 => some ⟨0, 0, true, [], none, [], [], false, false, none, some (0, 16)⟩
  | 114 => some ⟨0, 0, true, [], none, [(0, 0)], [true], false, false, none, none⟩
  | 115 => some ⟨0, 0, true, [], none, [(0, 0)], [true], false, false, none, none⟩
  | 116 => some ⟨1, 8, false, [.nilFunc], none, [], [], false, false, none, none⟩
  | 117 => some ⟨1, 4, false, [.int .u32 0], none, [], [], false, false, some .u32, none⟩
  | 118 => some ⟨1, 1, false, [.int .u8 0], none, [], [], false, false, some .u8, none⟩
  | 119 => some ⟨1, 1, false, [.int .u8 0], none, [], [], false, false, some .u8, none⟩
  | 120 => some ⟨1, 8, false, [.nilFunc], none, [], [], false, false, none, none⟩
  | 121 => some ⟨1, 8, false, [.pointer none], none, [], [], false, false, none, none⟩
  | 122 => some ⟨1, 4, false, [.int .i32 0], none, [], [], false, false, some .i32, none⟩
  | 123 => some ⟨1, 4, false, [.int .i32 0], none, [], [], false, false, some .i32, none⟩
  | 124 => some ⟨11, 48, true, [.int .u64 0, .int .u64 0, .int .u32 0, .int .u8 0, .int .u8 0, .int .u8 0, .int .u8 0, .nilFunc, .pointer none, .int .i32 0, .int .i32 0], none, [(0, 1), (1, 1), (2, 1), (3, 1), (4, 1), (5, 1), (6, 1), (7, 1), (8, 1), (9, 1), (10, 1)], [false, false, false, false, false, false, false, false, false, false, false], false, false, none, none⟩
  | 125 => some ⟨11, 48, true, [.int .u64 0, .int .u64 0, .int .u32 0, .int .u8 0, .int .u8 0, .int .u8 0, .int .u8 0, .nilFunc, .pointer none, .int .i32 0, .int .i32 0], none, [(0, 1), (1, 1), (2, 1), (3, 1), (4, 1), (5, 1), (6, 1), (7, 1), (8, 1), (9, 1), (10, 1)], [false, false, false, false, false, false, false, false, false, false, false], false, false, none, none⟩
  | _ => none
theorem tok : TOK Try.prog tab := by
  intro t y h
  unfold tab at h
  split at h <;> first | (injection h with h; subst h; exact ⟨by kernel_rfl, rfl, rfl⟩) | cases h
theorem mixed : Try.prog.follows .mixedOrders = true := by kernel_rfl
end Go.Proofs.Ytiondkijgpjgcaa.Pw
namespace Go.Proofs.Ytiondkijgpjgcaa.Pw
open Go Go.RowKit
mutual
/-- The blocks that it names are numbered below n. -/
def AV.lt (n : Nat) : AV → Bool
  | .any | .p _ => true
  | .own b _ => Nat.blt b n
  | .sl b _ _ _ => Nat.blt b n
  | .agg cs => lts n cs
  | .tup cs => lts n cs
  | .fn _ cs => lts n cs
def lts (n : Nat) : List AV → Bool
  | [] => true
  | x :: r => x.lt n && lts n r
end
theorem lts_get {n : Nat} : ∀ {cs : List AV}, lts n cs = true → ∀ (j : Nat) a, cs[j]? = some a → a.lt n = true
  | [], _, j, a, h => by simp at h
  | x :: r, hf, j, a, h => by
    simp only [lts, Bool.and_eq_true] at hf
    cases j with
    | zero => simp at h; exact h ▸ hf.1
    | succ j => exact lts_get hf.2 j a (by simpa using h)
theorem RepA.restrict {M M' : Nat → Prop} {μ μ' : Nat → Option Nat} {W : World} {n : Nat} (hμ : ∀ b, b < n → μ' b = μ b) (hM : ∀ B, M' B → M B) {a : AV} {v : Value} (r : RepA M μ W a v) : a.lt n = true → RepA M' μ' W a v := by
  induction r with
  | any x => exact fun _ => .any x
  | p x v r => exact fun _ => .p x v (r.mut hM)
  | own b o B hb => exact fun h => .own b o B (by rw [hμ b (by simpa [AV.lt] using h)]; exact hb)
  | sl0 b k => exact fun _ => .sl0 b k
  | sl b o n' k B cap el c hb hn hm hc hs => exact fun h => .sl b o n' k B cap el c (by rw [hμ b (by simpa [AV.lt] using h)]; exact hb) hn hm hc hs
  | agg cs xs hl h1 _ ih => exact fun h => .agg cs xs hl h1 fun j pv x hp hx => ih j pv x hp hx (lts_get (by simpa [AV.lt] using h) j pv hp)
  | tup cs xs hl _ ih => exact fun h => .tup cs xs hl fun j pv x hp hx => ih j pv x hp hx (lts_get (by simpa [AV.lt] using h) j pv hp)
  | fn f caps xs hl _ ih => exact fun h => .fn f caps xs hl fun j pv x hp hx => ih j pv x hp hx (lts_get (by simpa [AV.lt] using h) j pv hp)
theorem RepA.remap {M M' : Nat → Prop} {μ μ' : Nat → Option Nat} {W : World} (hμ : ∀ b B, μ b = some B → μ' b = some B) (hM : ∀ B, M' B → M B) {a : AV} {v : Value} (r : RepA M μ W a v) : RepA M' μ' W a v := by
  induction r with
  | any x => exact .any x
  | p x v r => exact .p x v (r.mut hM)
  | own b o B hb => exact .own b o B (hμ b B hb)
  | sl0 b k => exact .sl0 b k
  | sl b o n' k B cap el c hb hn hm hc hs => exact .sl b o n' k B cap el c (hμ b B hb) hn hm hc hs
  | agg cs xs hl h1 _ ih => exact .agg cs xs hl h1 ih
  | tup cs xs hl _ ih => exact .tup cs xs hl ih
  | fn f caps xs hl _ ih => exact .fn f caps xs hl ih
theorem SoundE.of_WP {P : Program} {T : Tab} (hT : TOK P T) {D f : Nat} {fn : Func} {c : Code} {args : List AV} {σ : Store} {new : Nat} {e : Eff} (hf : P.funcs[f]? = some fn) (hb : fn.body = some c) (hnm : (fn.name == "runtime.NumGoroutine") = false)
    (st0 : Stores) (h0 : ∀ b k, get st0 b = some k → σ b = some k ∧ b ∈ e.rd ∧ b < new ∧ lts new k.cells = true) (hargs : lts new args = true) (hkeys : ∀ x ∈ e.upd, (get st0 x.1 ≠ none ∨ new ≤ x.1) ∧ x.1 < new + D)
    (h : WP P new c (fun x env st nx => nx ≤ new + D ∧ Fin T fn.results.toList (fun a st => a = e.val ∧ ∀ b k, upds (get st0) e.upd b = some k → get st b = some k) x env st nx) (args0 fn.ntmps args) st0 new) : SoundE P D f args σ new e := by
  refine ⟨⟨fn, hf, hnm, by rw [hb]; rfl⟩, fun F μ st W vs hrd hS hG hnew hl hv => ?_⟩
  have hst0 : ∀ b k, get st0 b = some k → st b = some k := fun b k hk => by obtain ⟨h1, h2, _⟩ := h0 b k hk; rw [hrd b h2]; exact h1
  have hst0' : ∀ b, get st0 b ≠ none → st b = get st0 b ∧ b < new := fun b hb => by
    obtain ⟨k, hk⟩ := Option.ne_none_iff_exists'.1 hb
    exact ⟨by rw [hst0 b k hk, hk], (h0 b k hk).2.2.1⟩
  let μ0 : Nat → Option Nat := fun b => if b < new then μ b else none
  let stR : Store := fun b => if get st0 b = none then st b else none
  have hμ0 : ∀ b, b < new → μ0 b = μ b := fun b hb => if_pos hb
  have hμ0' : ∀ b, new ≤ b → μ0 b = none := fun b hb => if_neg (by omega)
  have hstR : ∀ b, get st0 b = none → stR b = st b := fun b hb => if_pos hb
  have hstR' : ∀ b, stR b ≠ none → get st0 b = none ∧ st b ≠ none := fun b hb => by
    by_cases h : get st0 b = none
    · exact ⟨h, by rw [hstR b h] at hb; exact hb⟩
    · exact absurd (if_neg h) hb
  have lowB : ∀ b B, st b ≠ none → μ b = some B → B < W.heap.size := fun b B hb hB => by
    obtain ⟨k, hk⟩ := Option.ne_none_iff_exists'.1 hb
    obtain ⟨c, hc, _⟩ := hS.row hk hB
    exact lt_of_cells hc
  have claimA : ∀ B, Mut (Mut F μ stR) μ0 (get st0) B → Mut F μ st B := fun B hB => by
    rcases hB with (hB | ⟨b, h1, h2⟩) | ⟨b, h1, h2⟩
    · exact .inl hB
    · exact .inr ⟨b, (hstR' b h1).2, h2⟩
    · obtain ⟨h3, h4⟩ := hst0' b h1
      exact .inr ⟨b, by rw [h3]; exact h1, by rw [← hμ0 b h4]; exact h2⟩
  have claimB : ∀ B, Mut F μ st B → Mut (Mut F μ stR) μ0 (get st0) B := fun B hB => by
    rcases hB with hB | ⟨b, h1, h2⟩
    · exact .inl (.inl hB)
    · by_cases h : get st0 b = none
      · exact .inl (.inr ⟨b, by rw [hstR b h]; exact h1, h2⟩)
      · exact .inr ⟨b, h, by rw [hμ0 b (hst0' b h).2]; exact h2⟩
  have hS0 : RepS (Mut F μ stR) μ0 (get st0) W := by
    refine ⟨fun b k hk => ?_, fun b b' B h1 h2 h3 h4 => ?_, fun B hB => ?_⟩
    · have hlt := (h0 b k hk).2.2
      rcases hS.at_ b k (hst0 b k hk) with ⟨h1, h2⟩ | ⟨B, cc, h1, h2, h3, h4, h5, h6⟩
      · exact .inl ⟨by rw [hμ0 b hlt.1]; exact h1, h2⟩
      · refine .inr ⟨B, cc, by rw [hμ0 b hlt.1]; exact h1, fun hB => ?_, h3, h4, h5, fun j a ha => (h6 j a ha).restrict hμ0 claimA (lts_get hlt.2 j a ha)⟩
        rcases hB with hB | ⟨b', h7, h8⟩
        · exact h2 hB
        · obtain ⟨h9, h10⟩ := hstR' b' h7
          have := hS.inj b' b B h10 (by rw [hst0 b k hk]; simp) h8 h1
          subst this
          rw [hk] at h9; cases h9
    · rw [hμ0 b (hst0' b h1).2] at h3
      rw [hμ0 b' (hst0' b' h2).2] at h4
      exact hS.inj b b' B (by rw [(hst0' b h1).1]; exact h1) (by rw [(hst0' b' h2).1]; exact h2) h3 h4
    · rcases hB with hB | ⟨b, h1, h2⟩
      · exact hS.low B hB
      · exact lowB b B (hstR' b h1).2 h2
  have hA : At (Mut F μ stR) μ0 (args0 fn.ntmps args) st0 new W { tmps := vs.toArray ++ Array.replicate (fn.ntmps - vs.toArray.size) undef, defers := [] } := by
    refine ⟨hS0, args0_rep (hG.mut claimA) hl fun j a v ha hx => (hv j a v ha hx).restrict hμ0 claimA (lts_get hargs j a ha), rfl, fun b hb => ⟨hμ0' b hb, ?_⟩⟩
    cases hg : get st0 b with
    | none => rfl
    | some k => have := (h0 b k hg).2.2.1; omega
  refine calls_of_wp hf hb (wp_mono (h (Nat.le_refl _) _ _ W _ hA) ?_)
  rintro en a' W' ⟨x, env', st', nx', μ', rfl, ⟨hnx, hq⟩, _, hA', hK⟩
  let μ2 : Nat → Option Nat := fun b => if b < new + D then μ' b else μ b
  have hμ2 : ∀ b, b < new + D → μ2 b = μ' b := fun b hb => if_pos hb
  have hμ2' : ∀ b, new + D ≤ b → μ2 b = μ b := fun b hb => if_neg (by omega)
  have hlow : ∀ b, b < new → μ' b = μ b := fun b hb => (hK.grow b hb).trans (hμ0 b hb)
  have keyed : ∀ b, (get st0 b ≠ none ∨ ∃ x ∈ e.upd, x.1 = b) ∨ (get st0 b = none ∧ ∀ x ∈ e.upd, x.1 ≠ b) := fun b => by
    by_cases h1 : get st0 b = none
    · by_cases h2 : ∃ x ∈ e.upd, x.1 = b
      · exact .inl (.inr h2)
      · exact .inr ⟨h1, fun x hx e => h2 ⟨x, hx, e⟩⟩
    · exact .inl (.inl h1)
  have fin : Res T fn.results.toList env' st' (fun a => a = e.val ∧ ∀ b k, upds (get st0) e.upd b = some k → get st' b = some k) → a'.defers = [] ∧ ∃ v, (results fn a'.tmps).run P W' = .ok v W' ∧ ∃ u μ', Ending.returned v = .returned u ∧ RepS F μ' (upds st e.upd) W' ∧
      RepA (Mut F μ' (upds st e.upd)) μ' W' e.val u ∧ Ext F (Mut F μ st) μ W (Mut F μ' (upds st e.upd)) μ' W' ∧ ∀ b, b < new ∨ new + D ≤ b → μ' b = μ b := by
    intro hr
    unfold Res at hr
    split at hr
    · rename_i avs c hres
      obtain ⟨hc, hval, hupd⟩ := hr
      obtain ⟨v, hv', hrep⟩ := results_sound hT hA'.rs hA'.re hres hc
      rw [hval] at hrep
      have hkey : ∀ b k, (get st0 b ≠ none ∨ ∃ x ∈ e.upd, x.1 = b) → upds st e.upd b = some k → get st' b = some k ∧ b < new + D := fun b k hb hk => by
        have h1 : get st' b = some k := by
          refine hupd b k ?_
          by_cases h2 : ∃ x ∈ e.upd, x.1 = b
          · rw [upds_same e.upd (get st0) st b h2]; exact hk
          · have h2' : ∀ x ∈ e.upd, x.1 ≠ b := fun x hx e' => h2 ⟨x, hx, e'⟩
            rw [upds_other e.upd st b h2'] at hk
            rw [upds_other e.upd _ b h2']
            rcases hb with hb | hb
            · rw [← (hst0' b hb).1]; exact hk
            · exact absurd hb h2
        refine ⟨h1, ?_⟩
        rcases Nat.lt_or_ge b (new + D) with h2 | h2
        · exact h2
        · rw [(hA'.fr b (by omega)).2] at h1; cases h1
      have hunt : ∀ b, (get st0 b = none ∧ ∀ x ∈ e.upd, x.1 ≠ b) → upds st e.upd b = st b ∧ stR b = st b ∧ (st b ≠ none → μ2 b = μ b) := fun b hb => by
        refine ⟨upds_other e.upd st b hb.2, hstR b hb.1, fun hs => ?_⟩
        rcases Nat.lt_or_ge b new with h1 | h1
        · rw [hμ2 b (by omega)]; exact hlow b h1
        · rcases Nat.lt_or_ge b (new + D) with h2 | h2
          · have := (hnew (b - new) (by omega)).2
            rw [show new + (b - new) = b by omega] at this
            exact absurd this hs
          · exact hμ2' b h2
      have hmap : ∀ b B, μ' b = some B → μ2 b = some B := fun b B hb => by
        rcases Nat.lt_or_ge b (new + D) with h2 | h2
        · rw [hμ2 b h2]; exact hb
        · rw [(hA'.fr b (by omega)).1] at hb; cases hb
      have hM2 : ∀ B, Mut F μ2 (upds st e.upd) B → Mut (Mut F μ stR) μ' (get st') B := fun B hB => by
        rcases hB with hB | ⟨b, h1, h2⟩
        · exact .inl (.inl hB)
        · rcases keyed b with hk | hk
          · obtain ⟨k, hk'⟩ := Option.ne_none_iff_exists'.1 h1
            obtain ⟨h3, h4⟩ := hkey b k hk hk'
            exact .inr ⟨b, by rw [h3]; simp, by rw [← hμ2 b h4]; exact h2⟩
          · obtain ⟨h3, h4, h5⟩ := hunt b hk
            rw [h3] at h1
            exact .inl (.inr ⟨b, by rw [h4]; exact h1, by rw [← h5 h1]; exact h2⟩)
      have hext : Ext F (Mut F μ st) μ W (Mut F μ2 (upds st e.upd)) μ2 W' := by
        refine ⟨hK.size, fun B hB hm => hK.keep B hB fun hm' => hm (claimA B hm'), hK.shape, fun b B hb => ?_, fun B hB hm => claimA B (hK.fresh B hB (hM2 B hm)), hK.os, hK.tape, hK.output, fun B hF => hK.keepF B (.inl hF)⟩
        rcases Nat.lt_or_ge b new with h1 | h1
        · rw [hμ2 b (by omega), hlow b h1]; exact hb
        · rcases Nat.lt_or_ge b (new + D) with h2 | h2
          · have := (hnew (b - new) (by omega)).1
            rw [show new + (b - new) = b by omega, hb] at this; cases this
          · rw [hμ2' b h2]; exact hb
      refine ⟨hA'.df, v, hv', v, μ2, rfl, ⟨fun b k hk => ?_, fun b1 b2 B h1 h2 h3 h4 => ?_, fun B hF => Nat.lt_of_lt_of_le (hS.low B hF) hK.size⟩, hrep.remap hmap hM2, hext, fun b hb => ?_⟩
      · rcases keyed b with hkk | hkk
        · obtain ⟨h3, h4⟩ := hkey b k hkk hk
          rcases hA'.rs.at_ b k h3 with ⟨h5, h6⟩ | ⟨B, cc, h5, h6, h7, h8, h9, h10⟩
          · exact .inl ⟨by rw [hμ2 b h4]; exact h5, h6⟩
          · exact .inr ⟨B, cc, by rw [hμ2 b h4]; exact h5, fun hF => h6 (.inl hF), h7, h8, h9, fun j a ha => (h10 j a ha).remap hmap hM2⟩
        · obtain ⟨h3, h4, h5⟩ := hunt b hkk
          rw [h3] at hk
          rcases hS.at_ b k hk with ⟨h6, h7⟩ | ⟨B, cc, h6, h7, h8, h9, h10, h11⟩
          · exact .inl ⟨by rw [h5 (by rw [hk]; simp)]; exact h6, h7⟩
          · exact .inr ⟨B, cc, by rw [h5 (by rw [hk]; simp)]; exact h6, h7, by rw [hK.keepF B (.inr ⟨b, by rw [h4, hk]; simp, h6⟩)]; exact h8, h9, h10, fun j a ha => (h11 j a ha).ext hext⟩
      · have side : ∀ b, upds st e.upd b ≠ none → μ2 b = some B → (get st' b ≠ none ∧ μ' b = some B ∧ ¬ Mut F μ stR B) ∨ (st b ≠ none ∧ μ b = some B ∧ Mut F μ stR B) := fun b hb hB => by
          rcases keyed b with hkk | hkk
          · obtain ⟨k, hk'⟩ := Option.ne_none_iff_exists'.1 hb
            obtain ⟨h5, h6⟩ := hkey b k hkk hk'
            rw [hμ2 b h6] at hB
            refine .inl ⟨by rw [h5]; simp, hB, ?_⟩
            rcases hA'.rs.at_ b k h5 with ⟨h7, _⟩ | ⟨B', _, h7, h8, _⟩
            · rw [h7] at hB; cases hB
            · rw [h7] at hB; injection hB with hB; subst hB; exact h8
          · obtain ⟨h5, h6, h7⟩ := hunt b hkk
            rw [h5] at hb
            have h8 := h7 hb
            rw [h8] at hB
            exact .inr ⟨hb, hB, .inr ⟨b, by rw [h6]; exact hb, hB⟩⟩
        rcases side b1 h1 h3 with ⟨s1, s2, s3⟩ | ⟨s1, s2, s3⟩ <;> rcases side b2 h2 h4 with ⟨t1, t2, t3⟩ | ⟨t1, t2, t3⟩
        · exact hA'.rs.inj b1 b2 B s1 t1 s2 t2
        · exact absurd t3 s3
        · exact absurd s3 t3
        · exact hS.inj b1 b2 B s1 t1 s2 t2
      · rcases hb with hb | hb
        · rw [hμ2 b (by omega)]; exact hlow b hb
        · exact hμ2' b hb
    · exact hr.elim
  cases x with
  | normal => exact fin hq
  | ret => exact fin hq
  | exit id => exact hq.elim
/-- A function of values that returns a slice of its own: the contract at number 0 holds at any number. -/
theorem SoundE.fresh {P : Program} {D f : Nat} {args : List PV} {σ0 : Store} {j n k : Nat} {b : Blk} (hb : ∃ e cs, b = .pc e cs) (hj : j < D)
    (h : SoundE P D f (args.map .p) σ0 0 ⟨.sl j 0 n k, [(j, some b)], []⟩) (σ : Store) (new : Nat) : SoundE P D f (args.map .p) σ new ⟨.sl (new + j) 0 n k, [(new + j, some b)], []⟩ := by
  refine ⟨h.1, fun F μ st W vs _ hS hG hnew hl hv => ?_⟩
  obtain ⟨e0, cs0, rfl⟩ := hb
  have hlow : ∀ B, Mut F μ st B → B < W.heap.size := fun B hB => by
    rcases hB with hB | ⟨b, h1, h2⟩
    · exact hS.low B hB
    · obtain ⟨k, hk⟩ := Option.ne_none_iff_exists'.1 h1
      obtain ⟨c, hc, _⟩ := hS.row hk h2
      exact lt_of_cells hc
  have pure_ : ∀ {M M' : Nat → Prop} {μ1 μ2 : Nat → Option Nat} {W : World} {x : PV} {v : Value}, (∀ B, M' B → M B) → RepA M μ1 W (.p x) v → RepA M' μ2 W (.p x) v := fun hM hr => .p _ _ (hr.p_inv.mut hM)
  have hM1 : ∀ B, Mut (Mut F μ st) (fun _ => none) (fun _ => none) B → Mut F μ st B := fun B hB => by
    rcases hB with hB | ⟨b, h1, _⟩
    · exact hB
    · exact absurd rfl h1
  refine (h.2 (Mut F μ st) (fun _ => none) (fun _ => none) W vs (fun b hb => by cases hb) ⟨fun b k hk => (by cases hk), fun b b' B h1 => absurd rfl h1, hlow⟩ (hG.mut hM1) (fun i _ => ⟨rfl, rfl⟩) hl (fun i a v ha hx => ?_)).mono ?_
  · have h1 := hv i a v ha hx
    simp only [List.getElem?_map, Option.map_eq_some_iff] at ha
    obtain ⟨p, hp, rfl⟩ := ha
    exact pure_ hM1 h1
  · rintro en W' ⟨v, μ1, rfl, hS1, hr1, hE, hμ1⟩
    have hst1 : upds (fun _ => none) [(j, some (Blk.pc e0 cs0))] j = some (Blk.pc e0 cs0) := by simp [upds, upd1]
    have e1 : ∀ b, upds st [(new + j, some (Blk.pc e0 cs0))] b = if b = new + j then some (Blk.pc e0 cs0) else st b := fun b => by
      simp only [upds, upd1, List.foldl]
    have live : ∀ B, μ1 j = some B → Mut (Mut F μ st) μ1 (upds (fun _ => none) [(j, some (Blk.pc e0 cs0))]) B := fun B hB => .inr ⟨j, by rw [hst1]; simp, hB⟩
    have notold : ∀ B, μ1 j = some B → ¬ Mut F μ st B := fun B hB => by
      rcases hS1.at_ j _ hst1 with ⟨h1, _⟩ | ⟨B', c, h1, h2, _⟩
      · rw [h1] at hB; cases hB
      · rw [h1] at hB; cases hB; exact h2
    have hM' : ∀ B, Mut F (fun b => if b = new + j then μ1 j else μ b) (upds st [(new + j, some (Blk.pc e0 cs0))]) B → Mut F μ st B ∨ μ1 j = some B := fun B hB => by
      rcases hB with hB | ⟨b, h1, h2⟩
      · exact .inl (.inl hB)
      · rw [e1] at h1
        by_cases hb : b = new + j
        · simp only [if_pos hb] at h2; exact .inr h2
        · simp only [if_neg hb] at h1 h2; exact .inl (.inr ⟨b, h1, h2⟩)
    have hMM : ∀ B, Mut F (fun b => if b = new + j then μ1 j else μ b) (upds st [(new + j, some (Blk.pc e0 cs0))]) B → Mut (Mut F μ st) μ1 (upds (fun _ => none) [(j, some (Blk.pc e0 cs0))]) B := fun B hB => (hM' B hB).elim .inl (live B)
    have hX : Ext F (Mut F μ st) μ W (Mut F (fun b => if b = new + j then μ1 j else μ b) (upds st [(new + j, some (Blk.pc e0 cs0))])) (fun b => if b = new + j then μ1 j else μ b) W' := by
      refine ⟨hE.size, fun B hB hM => hE.keep B hB fun h => hM (hM1 B h), hE.shape, fun b B hb => ?_, fun B hB hm => ?_, hE.os, hE.tape, hE.output, fun B hB => hE.keepF B (.inl hB)⟩
      · by_cases e : b = new + j
        · subst e; rw [(hnew j hj).1] at hb; cases hb
        · simp only [if_neg e]; exact hb
      · rcases hM' B hm with h1 | h1
        · exact h1
        · exact hM1 B (hE.fresh B hB (live B h1))
    refine ⟨v, fun b => if b = new + j then μ1 j else μ b, rfl, ⟨fun b k hk => ?_, fun b b' B h1 h2 h3 h4 => ?_, fun B hB => Nat.lt_of_lt_of_le (hS.low B hB) hE.size⟩, ?_, hX, fun b hb => if_neg (by omega)⟩
    · rw [e1] at hk
      by_cases e : b = new + j
      · simp only [if_pos e, Option.some.injEq] at hk ⊢
        subst hk
        rcases hS1.at_ j _ hst1 with h1 | ⟨B, c, h1, h2, h3, h4, h5, h6⟩
        · exact .inl h1
        · refine .inr ⟨B, c, h1, fun hF => h2 (.inl hF), h3, h4, h5, fun i a ha => ?_⟩
          have h7 := h6 i a ha
          simp only [Blk.cells, List.getElem?_map, Option.map_eq_some_iff] at ha
          obtain ⟨p, hp, rfl⟩ := ha
          exact pure_ hMM h7
      · simp only [if_neg e] at hk ⊢
        rcases hS.at_ b k hk with h1 | ⟨B, c, h1, h2, h3, h4, h5, h6⟩
        · exact .inl h1
        · refine .inr ⟨B, c, h1, h2, ?_, h4, h5, fun i a ha => (h6 i a ha).ext hX⟩
          rw [hE.keepF B (.inr ⟨b, by rw [hk]; simp, h1⟩)]; exact h3
    · rw [e1] at h1 h2
      by_cases e : b = new + j <;> by_cases e' : b' = new + j
      · rw [e, e']
      · simp only [if_pos e, if_neg e'] at h1 h2 h3 h4
        exact absurd (.inr ⟨b', h2, h4⟩) (notold B h3)
      · simp only [if_neg e, if_pos e'] at h1 h2 h3 h4
        exact absurd (.inr ⟨b, h1, h3⟩) (notold B h4)
      · simp only [if_neg e, if_neg e'] at h1 h2 h3 h4
        exact hS.inj b b' B h1 h2 h3 h4
    · cases hr1 with
      | sl0 b k => exact .sl0 _ _
      | sl b o n k B cap el c h1 h2 h3 h4 h5 => exact .sl _ _ _ _ B cap el c (by simp only [if_pos]; exact h1) h2 h3 h4 h5
end Go.Proofs.Ytiondkijgpjgcaa.Pw
namespace Go.Proofs.Ytiondkijgpjgcaa.Pw
open Go Go.RowKit
mutual
def ren (ρ : Nat → Nat) : AV → AV
  | .any => .any
  | .p x => .p x
  | .own b o => .own (ρ b) o
  | .sl b o n k => .sl (ρ b) o n k
  | .agg cs => .agg (rens ρ cs)
  | .tup cs => .tup (rens ρ cs)
  | .fn f cs => .fn f (rens ρ cs)
def rens (ρ : Nat → Nat) : List AV → List AV
  | [] => []
  | x :: r => ren ρ x :: rens ρ r
end
theorem rens_length (ρ : Nat → Nat) : ∀ cs, (rens ρ cs).length = cs.length
  | [] => rfl
  | x :: r => by simp [rens, rens_length ρ r]
theorem rens_get (ρ : Nat → Nat) : ∀ (cs : List AV) (j : Nat) a, cs[j]? = some a → (rens ρ cs)[j]? = some (ren ρ a)
  | [], j, a, h => by simp at h
  | x :: r, j, a, h => by
    cases j with
    | zero => simp at h; subst h; simp [rens]
    | succ j => simp only [rens, List.getElem?_cons_succ]; exact rens_get ρ r j a (by simpa using h)
theorem rens_p (ρ : Nat → Nat) : ∀ (cs : List PV), rens ρ (cs.map .p) = cs.map .p
  | [] => rfl
  | x :: r => by simp [rens, ren, rens_p ρ r]
def renB (ρ : Nat → Nat) : Blk → Blk
  | .pc e cs => .pc e cs
  | .mc e cs => .mc e (rens ρ cs)
theorem renB_cells (ρ : Nat → Nat) (k : Blk) : (renB ρ k).cells = rens ρ k.cells := by cases k <;> simp [renB, Blk.cells, rens_p]
theorem renB_el (ρ : Nat → Nat) (k : Blk) : (renB ρ k).el = k.el := by cases k <;> rfl
theorem ren_rep {M M' : Nat → Prop} {μ μ' : Nat → Option Nat} {W : World} {ρ : Nat → Nat} (hM : ∀ B, M' B → M B) (hμ : ∀ b, μ' b = μ (ρ b)) {x : AV} {v : Value} (r : RepA M μ W x v) : ∀ a, x = ren ρ a → RepA M' μ' W a v := by
  induction r with
  | any y => intro a h; cases a <;> simp [ren] at h; exact .any _
  | p y v r => intro a h; cases a <;> simp [ren] at h; subst h; exact .p _ _ (r.mut hM)
  | own b o B hb => intro a h; cases a <;> simp [ren] at h; obtain ⟨rfl, rfl⟩ := h; exact .own _ _ _ (by rw [hμ]; exact hb)
  | sl0 b k => intro a h; cases a <;> simp [ren] at h; obtain ⟨rfl, rfl, rfl, rfl⟩ := h; exact .sl0 _ _
  | sl b o n k B cap el c hb hn hm hc hs => intro a h; cases a <;> simp [ren] at h; obtain ⟨rfl, rfl, rfl, rfl⟩ := h; exact .sl _ _ _ _ B cap el c (by rw [hμ]; exact hb) hn hm hc hs
  | agg cs xs hl h1 _ ih =>
    intro a h; cases a <;> simp [ren] at h; subst h
    exact .agg _ xs (by rw [hl, rens_length]) h1 fun j pv x hp hx => ih j _ x (rens_get ρ _ j pv hp) hx _ rfl
  | tup cs xs hl _ ih =>
    intro a h; cases a <;> simp [ren] at h; subst h
    exact .tup _ xs (by rw [hl, rens_length]) fun j pv x hp hx => ih j _ x (rens_get ρ _ j pv hp) hx _ rfl
  | fn f caps xs hl _ ih =>
    intro a h; cases a <;> simp [ren] at h; obtain ⟨rfl, rfl⟩ := h
    exact .fn _ _ xs (by rw [hl, rens_length]) fun j pv x hp hx => ih j _ x (rens_get ρ _ j pv hp) hx _ rfl
def nilA : AV := .p (.v (.slice none 0 0))
def Stands (nx : Nat) (ρ : Nat → Nat) (x : AV) : AV → Prop
  | .any => True
  | .sl b o n k => x = .sl (ρ b) o n k ∨ (x = nilA ∧ o = 0 ∧ n = 0)
  | y => x = ren ρ y
theorem Stands.rep {nx : Nat} {M M' : Nat → Prop} {μ μ' : Nat → Option Nat} {W : World} {ρ : Nat → Nat} (hM : ∀ B, M' B → M B) (hμ : ∀ b, μ' b = μ (ρ b)) {x y : AV} {v : Value} (h : Stands nx ρ x y) (r : RepA M μ W x v) : RepA M' μ' W y v := by
  unfold Stands at h
  split at h
  · exact .any _
  · rcases h with rfl | ⟨rfl, rfl, rfl⟩
    · exact ren_rep hM hμ r _ (by simp [ren])
    · cases r.p_inv; exact .sl0 _ _
  · exact ren_rep hM hμ r _ h
theorem Wk.of {base : Nat} {env env' : List AV} {st st' : Stores} {nx nx' : Nat} (ρ : Nat → Nat) (h0 : base ≤ nx → base ≤ nx') (h1 : ∀ b, b < base → ρ b = b) (h2 : ∀ b, nx' ≤ b → nx ≤ ρ b ∧ get st' b = none)
    (h3 : ∀ b k', get st' b = some k' → get st (ρ b) = some (renB ρ k') ∨ (k'.cells = [] ∧ nx ≤ ρ b)) (h4 : ∀ b b', get st' b ≠ none → get st' b' ≠ none → ρ b = ρ b' → b = b') (hl : env.length = env'.length)
    (h5 : ∀ (t : Nat) y, env'[t]? = some y → ∃ x, env[t]? = some x ∧ Stands nx ρ x y) : Wk base env st nx env' st' nx' := fun hb => ⟨h0 hb, fun F μ W a hA => by
  have ne : ∀ b B, get st' b ≠ none → μ (ρ b) = some B → get st (ρ b) ≠ none := fun b B hb hB => by
    obtain ⟨k, hk⟩ := Option.ne_none_iff_exists'.1 hb
    rcases h3 b k hk with h | ⟨_, h⟩
    · rw [h]; simp
    · rw [(hA.fr _ h).1] at hB; cases hB
  have hM : ∀ B, Mut F (fun b => μ (ρ b)) (get st') B → Mut F μ (get st) B := fun B hB => hB.imp id fun ⟨b, h6, h7⟩ => ⟨ρ b, ne b B h6 h7, h7⟩
  refine ⟨fun b => μ (ρ b), ⟨⟨fun b k hk => ?_, fun b b' B h6 h7 h8 h9 => h4 b b' h6 h7 (hA.rs.inj _ _ B (ne b B h6 h8) (ne b' B h7 h9) h8 h9), hA.rs.low⟩, ⟨by rw [← hl]; exact hA.re.1, fun t y hy => ?_, hA.re.2.2.mut hM⟩, hA.df, fun b hb' => ?_⟩, ?_⟩
  · rcases h3 b k hk with h3 | ⟨h3, h6⟩
    · rcases hA.rs.at_ (ρ b) _ h3 with ⟨h6, h7⟩ | ⟨B, c, h6, h7, h8, h9, h10, h11⟩
      · refine .inl ⟨h6, ?_⟩
        rw [renB_cells] at h7
        have := congrArg List.length h7
        rw [rens_length] at this
        exact List.eq_nil_of_length_eq_zero this
      · rw [renB_el] at h8
        rw [renB_cells] at h9 h10 h11
        rw [rens_length] at h9 h10
        exact .inr ⟨B, c, h6, h7, h8, h9, h10, fun j a ha => ren_rep (ρ := ρ) (μ := μ) hM (fun _ => rfl) (h11 j _ (rens_get ρ _ j a ha)) a rfl⟩
    · exact .inl ⟨(hA.fr _ h6).1, h3⟩
  · obtain ⟨x, hx, hs⟩ := h5 t y hy
    exact Stands.rep (ρ := ρ) (μ := μ) (μ' := fun b => μ (ρ b)) hM (fun _ => rfl) hs (hA.re.2.1 t _ hx)
  · obtain ⟨h6, h7⟩ := h2 b hb'
    exact ⟨(hA.fr _ h6).1, h7⟩
  · exact ⟨Nat.le_refl _, fun _ _ _ => rfl, fun _ c _ hc => ⟨c, hc, rfl⟩, fun b hb' => by show μ (ρ b) = μ b; rw [h1 b hb'], fun B _ hm => hM B hm, rfl, rfl, rfl, fun _ _ => rfl⟩⟩
/-- New numbers for old: those of the list, what lies below the base, and past the others. -/
def rho (rl : List (Nat × Nat)) (base nx : Nat) (b : Nat) : Nat := match rl with
  | [] => if b < base then b else b + nx
  | (i, j) :: r => if b = i then j else rho r base nx b
def fitE (nx : Nat) (ρ : Nat → Nat) : List AV → List AV → Prop
  | [], [] => True
  | x :: r, y :: s => Stands nx ρ x y ∧ fitE nx ρ r s
  | _, _ => False
theorem fitE_spec {nx : Nat} {ρ : Nat → Nat} : ∀ {env env' : List AV}, fitE nx ρ env env' → env.length = env'.length ∧ ∀ (t : Nat) y, env'[t]? = some y → ∃ x, env[t]? = some x ∧ Stands nx ρ x y
  | [], [], _ => ⟨rfl, fun t y h => by simp at h⟩
  | x :: r, y :: s, h => by
    obtain ⟨h1, h2⟩ := h
    obtain ⟨h3, h4⟩ := fitE_spec h2
    refine ⟨by simp [h3], fun t z hz => ?_⟩
    cases t with
    | zero =>
      simp only [List.getElem?_cons_zero, Option.some.injEq] at hz ⊢
      subst hz
      exact ⟨x, rfl, h1⟩
    | succ t => simpa using h4 t z (by simpa using hz)
  | [], _ :: _, h => h.elim
  | _ :: _, [], h => h.elim
def fitS (nx : Nat) (ρ : Nat → Nat) (st : Stores) : Stores → Prop
  | [] => True
  | (b, k) :: r => (get st (ρ b) = some (renB ρ k) ∨ (k.cells = [] ∧ nx ≤ ρ b)) ∧ fitS nx ρ st r
theorem fitS_spec {nx : Nat} {ρ : Nat → Nat} {st : Stores} : ∀ {st' : Stores}, fitS nx ρ st st' → ∀ b k, get st' b = some k → get st (ρ b) = some (renB ρ k) ∨ (k.cells = [] ∧ nx ≤ ρ b)
  | [], _, b, k, h => by simp [get] at h
  | (i, k0) :: r, hf, b, k, h => by
    simp only [get] at h
    by_cases e : i = b
    · subst e
      simp only [beq_self_eq_true, cond_true, Option.some.injEq] at h
      subst h; exact hf.1
    · rw [show (i == b) = false by simpa using e] at h
      exact fitS_spec hf.2 b k h
/-- The numbers in the list: new ones, each for one old one. -/
def okR (base nx' : Nat) (st' : Stores) : List (Nat × Nat) → Bool
  | rl => Nat.ble base nx' && rl.all (fun x => Nat.ble base x.1 && Nat.blt x.1 nx' && Nat.ble base x.2 && rl.all fun y => !(x.2 == y.2) || x.1 == y.1) && st'.all (fun x => Nat.blt x.1 base || rl.any fun y => y.1 == x.1)
/-- The general form, at blocks that are named by numbers: 'rl' says which new number stands for which old one. -/
theorem Wk.ren {base : Nat} {env env' : List AV} {st st' : Stores} {nx nx' : Nat} (rl : List (Nat × Nat)) (hok : okR base nx' st' rl = true)
    (h3 : fitS nx (rho rl base nx) st st') (h5 : fitE nx (rho rl base nx) env env') : Wk base env st nx env' st' nx' := fun hbase => by
  simp only [okR, Bool.and_eq_true, List.all_eq_true, Nat.ble_eq, Nat.blt_eq, Bool.or_eq_true, Bool.not_eq_true', beq_eq_false_iff_ne, beq_iff_eq, List.any_eq_true] at hok
  obtain ⟨⟨h0, hr⟩, hs⟩ := hok
  have at_ : ∀ (rl : List (Nat × Nat)) b, (∃ y ∈ rl, y.1 = b ∧ rho rl base nx b = y.2) ∨ ((∀ y ∈ rl, y.1 ≠ b) ∧ rho rl base nx b = if b < base then b else b + nx) := by
    intro rl b
    induction rl with
    | nil => exact .inr ⟨(fun y hy => by cases hy), rfl⟩
    | cons p r ih =>
      obtain ⟨i, j⟩ := p
      by_cases e : b = i
      · exact .inl ⟨(i, j), by simp, e.symm, by simp [rho, e]⟩
      · rcases ih with ⟨y, hy, h1, h2⟩ | ⟨h1, h2⟩
        · exact .inl ⟨y, by simp [hy], h1, by simp [rho, e, h2]⟩
        · exact .inr ⟨fun y hy => by
            rcases List.mem_cons.1 hy with rfl | hy
            · exact Ne.symm e
            · exact h1 y hy, by simp [rho, e, h2]⟩
  have dom : ∀ (st' : Stores) b, (∀ x ∈ st', x.1 < base ∨ ∃ y ∈ rl, y.1 = x.1) → get st' b ≠ none → b < base ∨ ∃ y ∈ rl, y.1 = b := by
    intro st' b hs hb
    induction st' with
    | nil => exact absurd rfl hb
    | cons p r ih =>
      obtain ⟨i, k⟩ := p
      by_cases e : i = b
      · exact e ▸ hs (i, k) (by simp)
      · refine ih (fun x hx => hs x (by simp [hx])) ?_
        simp only [get, show (i == b) = false by simpa using e] at hb
        exact hb
  have low : ∀ b, b < base → rho rl base nx b = b := fun b hb => by
    rcases at_ rl b with ⟨y, hy, h1, _⟩ | ⟨_, h2⟩
    · have := (hr y hy).1.1.1; omega
    · rw [h2, if_pos hb]
  have inl : ∀ b, (∃ y ∈ rl, y.1 = b) → ∃ y ∈ rl, y.1 = b ∧ rho rl base nx b = y.2 := fun b ⟨y, hy, e⟩ => by
    rcases at_ rl b with h | ⟨h, _⟩
    · exact h
    · exact absurd e (h y hy)
  refine Wk.of (rho rl base nx) (fun _ => h0) low (fun b hb => ?_) (fitS_spec h3) (fun b b' h1 h2 h => ?_) (fitE_spec h5).1 (fitE_spec h5).2 hbase
  · rcases at_ rl b with ⟨y, hy, h1, _⟩ | ⟨h1, h2⟩
    · have := (hr y hy).1.1.2; omega
    · refine ⟨by rw [h2, if_neg (by omega)]; omega, ?_⟩
      cases hg : get st' b with
      | none => rfl
      | some k => rcases dom st' b hs (by rw [hg]; simp) with h | ⟨y, hy, e⟩; omega; exact absurd e (h1 y hy)
  · rcases dom st' b hs h1 with h6 | h6 <;> rcases dom st' b' hs h2 with h7 | h7
    · rwa [low b h6, low b' h7] at h
    · obtain ⟨y', hy', e3, e4⟩ := inl b' h7
      have := (hr y' hy').1.2; rw [low b h6, e4] at h; omega
    · obtain ⟨y', hy', e3, e4⟩ := inl b h6
      have := (hr y' hy').1.2; rw [low b' h7, e4] at h; omega
    · obtain ⟨y, hy, e1, e2⟩ := inl b h6
      obtain ⟨y', hy', e3, e4⟩ := inl b' h7
      rw [← e1, ← e3]
      rcases (hr y hy).2 y' hy' with h8 | h8
      · exact absurd (by rw [← e2, ← e4]; exact h) h8
      · exact h8
/-- Nothing of one's own outlives: the registers alone. -/
theorem Wk.regs {env env' : List AV} {st : Stores} {nx : Nat} (nx' : Nat) (h : fitE nx (rho [] 0 nx) env env') : Wk 0 env st nx env' [] nx' :=
  Wk.ren [] (by simp [okR]) trivial h
/-- The pairs that the registers tell. -/
def findR (base nx : Nat) : List AV → List AV → List (Nat × Nat)
  | x :: r, y :: s =>
    let l := findR base nx r s
    let p : Option (Nat × Nat) := match y, x with
      | .sl b _ _ _, .sl c _ _ _ => some (b, c)
      | .own b _, .own c _ => some (b, c)
      | .sl b _ _ _, .p _ => some (b, nx + b)
      | _, _ => none
    match p with
    | some q => if q.1 < base then l else if l.any (fun z => z.1 == q.1) = true then l else q :: l
    | none => l
  | _, _ => []
theorem Wk.auto {base : Nat} {env env' : List AV} {st st' : Stores} {nx nx' : Nat} (rl : List (Nat × Nat)) (hrl : findR base nx env env' = rl) (hok : okR base nx' st' rl = true)
    (h3 : fitS nx (rho rl base nx) st st') (h5 : fitE nx (rho rl base nx) env env') : Wk base env st nx env' st' nx' := Wk.ren rl hok h3 h5
/-- A loop by a function of rounds: K stands for the rounds to come. -/
def loopG (K : List AV → Stores → Nat → Prop) (Q : PostA) : PostA := fun x env st nx => match x with
  | .normal => K env st nx
  | x => Q x env st nx
theorem WPL_rec {P : Program} {base : Nat} {c : Code} {Q : PostA} {α β : Type} (f : Nat → α → Option β) (r : β) (S : α → List AV × Stores × Nat)
    (step : ∀ k x (K : List AV → Stores → Nat → Prop), (∀ env st nx m y, m < k → f m y = some r → Wk base env st nx (S y).1 (S y).2.1 (S y).2.2 → K env st nx) → f k x = some r → WP P base c (loopG K Q) (S x).1 (S x).2.1 (S x).2.2) :
    ∀ k x, f k x = some r → WPL P base c Q (S x).1 (S x).2.1 (S x).2.2 := by
  intro k
  induction k using Nat.strongRecOn with
  | _ k ih =>
    intro x hx
    refine WPL_unroll (WP_mono (step k x (fun env st nx => WPL P base c Q env st nx) (fun env st nx m y hm hy hk => WPL_weaken hk (ih m hm y hy)) hx) fun x env st nx h => ?_)
    cases x <;> exact h
/-- The same, of at most N rounds: for a loop within a loop. -/
theorem WPL_recB {P : Program} {base : Nat} {c : Code} {Q : PostA} {α β : Type} (f : Nat → α → Option β) (r : β) (S : α → List AV × Stores × Nat) (N : Nat)
    (step : ∀ k x (K : List AV → Stores → Nat → Prop), k ≤ N → (∀ env st nx m y, m < k → f m y = some r → Wk base env st nx (S y).1 (S y).2.1 (S y).2.2 → K env st nx) → f k x = some r → WP P base c (loopG K Q) (S x).1 (S x).2.1 (S x).2.2) :
    ∀ k x, k ≤ N → f k x = some r → WPL P base c Q (S x).1 (S x).2.1 (S x).2.2 := by
  intro k x hk hx
  refine WPL_rec (fun k x => if k ≤ N then f k x else none) r S (fun k x K ih h => ?_) k x (by simp only [if_pos hk]; exact hx)
  by_cases hk : k ≤ N
  · simp only [if_pos hk] at h
    exact step k x K hk (fun env st nx m y hm hy hw => ih env st nx m y hm (by simp only [if_pos (show m ≤ N by omega)]; exact hy) hw) h
  · simp only [if_neg hk] at h; cases h
/-- A loop by a measure. -/
theorem WPL_meas {P : Program} {base : Nat} {c : Code} {Q : PostA} {α : Type} (μ : α → Nat) (S : α → List AV × Stores × Nat) (I : α → Prop)
    (step : ∀ x (K : List AV → Stores → Nat → Prop), (∀ env st nx y, μ y < μ x → I y → Wk base env st nx (S y).1 (S y).2.1 (S y).2.2 → K env st nx) → I x → WP P base c (loopG K Q) (S x).1 (S x).2.1 (S x).2.2) :
    ∀ x, I x → WPL P base c Q (S x).1 (S x).2.1 (S x).2.2 := by
  intro x
  generalize hn : μ x = n
  induction n using Nat.strongRecOn generalizing x with
  | _ n ih =>
    intro hx
    refine WPL_unroll (WP_mono (step x (fun env st nx => WPL P base c Q env st nx) (fun env st nx y hm hy hk => WPL_weaken hk (ih (μ y) (by omega) y rfl hy)) hx) fun x env st nx h => ?_)
    cases x <;> exact h
end Go.Proofs.Ytiondkijgpjgcaa.Pw
namespace Go.Proofs.Ytiondkijgpjgcaa.Wd
def wrap64 (n : Int) : Int := (n + 9223372036854775808) % 18446744073709551616 - 9223372036854775808
theorem w64 {x : Int} (h1 : -9223372036854775808 ≤ x) (h2 : x ≤ 9223372036854775807) : wrap64 x = x := by unfold wrap64; omega
theorem w64_eq {x : Int} (h : -9223372036854775808 ≤ x ∧ x ≤ 9223372036854775807) : wrap64 x = x := w64 h.1 h.2
def rd (l : List Int) (i : Int) : Int := l.getD i.toNat 0
def mx (a b : Int) : Int := if a < b then b else a
def mn (a b : Int) : Int := if b < a then b else a
/-- From some number of rounds on. -/
def Ev {α : Type} (g : Nat → Option α) (r : α) : Prop := ∃ K, ∀ k, K ≤ k → g k = some r
theorem Ev.now {α : Type} (r : α) : Ev (fun _ => some r) r := ⟨0, fun _ _ => rfl⟩
theorem Ev.rounds {α : Type} {g : Nat → Option α} {r : α} (h : Ev g r) : ∃ k, g k = some r := h.imp fun K hK => hK K (Nat.le_refl _)
theorem Ev.bind {α β : Type} {g : Nat → Option α} {f : Nat → α → Option β} {a : α} {r : β} (h : Ev g a) (k : Ev (fun n => f n a) r) : Ev (fun n => (g n).bind (f n)) r := by
  obtain ⟨K, h⟩ := h
  obtain ⟨L, k⟩ := k
  refine ⟨max K L, fun n hn => ?_⟩
  have h1 := h n (by omega)
  simp only [h1, Option.bind_some]
  exact k n (by omega)
theorem Ev.step {α : Type} {g f : Nat → Option α} {r : α} (h : ∀ k, g (k + 1) = f k) (k : Ev f r) : Ev g r := by
  obtain ⟨K, k⟩ := k
  refine ⟨K + 1, fun n hn => ?_⟩
  obtain ⟨m, rfl⟩ : ∃ m, n = m + 1 := ⟨n - 1, by omega⟩
  rw [h]; exact k m (by omega)
theorem Ev.congr {α : Type} {g f : Nat → Option α} {r : α} (h : ∀ k, g k = f k) (k : Ev f r) : Ev g r := k.imp fun _ hK n hn => (h n).trans (hK n hn)
attribute [irreducible] wrap64
end Go.Proofs.Ytiondkijgpjgcaa.Wd
namespace Go.Proofs.Ytiondkijgpjgcaa.Pw
open Go.RowKit hiding wrap64
open Go Wd
set_option linter.unusedVariables false
theorem stepW_mono {P : Program} {T : Tab} {D : Nat} {ops : List Oper} {o : Oper} {new : Nat} {env : List AV} {σ : Store} {K K' : Eff → Prop} (h : stepW P T D ops o new env σ K) (hk : ∀ e, K e → K' e) : stepW P T D ops o new env σ K' := by
  unfold stepW at *
  split at h
  · split at h
    · split at h
      · obtain ⟨e, h1, h2⟩ := h; exact ⟨e, h1, hk e h2⟩
      · exact h.elim
    · split at h
      · exact ⟨h.1, hk _ h.2⟩
      · exact h.elim
  · exact hk _ h
  · exact h.elim
theorem opsW_mono {P : Program} {T : Tab} {D : Nat} {ops : List Oper} {nx : Nat} {K K' : List AV → Stores → List Eff → Prop} (hk : ∀ env st acc, K env st acc → K' env st acc) : ∀ (l : List Oper) (i : Nat) (env : List AV) (st : Stores) (acc : List Eff),
    opsW P T D ops nx l i env st acc K → opsW P T D ops nx l i env st acc K'
  | [], i, env, st, acc, h => hk _ _ _ h
  | o :: r, i, env, st, acc, h => stepW_mono h fun e he => ⟨he.1, opsW_mono hk r _ _ _ _ he.2⟩
theorem opsW_append {P : Program} {T : Tab} {D : Nat} {ops : List Oper} {nx : Nat} {K : List AV → Stores → List Eff → Prop} (l2 : List Oper) : ∀ (l1 : List Oper) (i : Nat) (env : List AV) (st : Stores) (acc : List Eff),
    opsW P T D ops nx l1 i env st acc (fun env' st' acc' => opsW P T D ops nx l2 (i + l1.length) env' st' acc' K) → opsW P T D ops nx (l1 ++ l2) i env st acc K
  | [], i, env, st, acc, h => h
  | o :: r, i, env, st, acc, h => stepW_mono h fun e he => ⟨he.1, opsW_append l2 r (i + 1) _ _ _ (by
      have e1 : i + 1 + r.length = i + (o :: r).length := by rw [List.length_cons]; omega
      rw [e1]; exact he.2)⟩
def isCall : Op → Bool
  | .call { callee := .value _, args := _, argTypes := _ } => true
  | _ => false
def cut : List Oper → Nat
  | [] => 0
  | o :: r => bif isCall o.op then 0 else cut r + 1
theorem opsW_nil {P : Program} {T : Tab} {D : Nat} {ops : List Oper} {nx i : Nat} {env : List AV} {st : Stores} {acc : List Eff} {K : List AV → Stores → List Eff → Prop} (h : K env st acc) : opsW P T D ops nx [] i env st acc K := h
/-- The operations up to the next call. -/
theorem opsW_cut {P : Program} {T : Tab} {D : Nat} {ops : List Oper} {nx i : Nat} {env : List AV} {st : Stores} {acc : List Eff} {l : List Oper} {K0 : List AV → Stores → List Eff → Prop} (n : Nat) (hn : cut l = n) (h0 : n ≠ 0)
    (h : ∀ K : List AV → Stores → List Eff → Prop, (∀ env st acc, opsW P T D ops nx (l.drop n) (i + n) env st acc K0 → K env st acc) → opsW P T D ops nx (l.take n) i env st acc K) : opsW P T D ops nx l i env st acc K0 := by
  subst hn
  have hle : ∀ l : List Oper, cut l ≤ l.length := fun l => by
    induction l with
    | nil => exact Nat.le_refl _
    | cons o r ih => simp only [cut, List.length_cons]; cases isCall o.op <;> simp <;> omega
  have := opsW_append (K := K0) (l.drop (cut l)) (l.take (cut l)) i env st acc (h _ fun env st acc h => by
    rw [List.length_take, Nat.min_eq_left (hle l)]; exact h)
  rwa [List.take_append_drop] at this
theorem opsW_call {P : Program} {T : Tab} {D : Nat} {ops : List Oper} {nx i : Nat} {env : List AV} {st : Stores} {acc : List Eff} {o : Oper} {r : List Oper} {K : List AV → Stores → List Eff → Prop} {f : Operand} {args : Array Operand} {ts : Array TypeId} {g : Nat} {caps : List AV}
    (hw : wantA ops env o = some true) (ho : o.op = .call { callee := .value f, args, argTypes := ts }) (hf : ev env f = .fn g caps) {al : List AV} (ha : args.toList.map (ev env) ++ caps = al) (e : Eff) (hs : SoundE P D g al (get st) (nx + D * i) e)
    (hb : e.upd.all (fun x => Nat.blt x.1 (nx + D * (i + 1))) = true) (h : opsW P T D ops nx r (i + 1) (setD env o.dst e.val) (puts st e.upd) (e :: acc) K) : opsW P T D ops nx (o :: r) i env st acc K := by
  show stepW P T D ops o (nx + D * i) env (get st) _
  unfold stepW
  rw [hw]
  simp only [ho, hf, ha]
  exact ⟨e, hs, hb, h⟩
theorem opsW_op {P : Program} {T : Tab} {D : Nat} {ops : List Oper} {nx i : Nat} {env : List AV} {st : Stores} {acc : List Eff} {o : Oper} {r : List Oper} {K : List AV → Stores → List Eff → Prop}
    (hw : wantA ops env o = some true) (hn : isCall o.op = false) {v : AV} {u : List (Nat × Option Blk)} {rd : List Nat} {c : Prop} (hp : pop T o.op (ev env) (get st) (nx + D * i) = some (⟨v, u, rd⟩, c)) (hc : c)
    (hb : u.all (fun x => Nat.blt x.1 (nx + D * (i + 1))) = true) (h : opsW P T D ops nx r (i + 1) (setD env o.dst v) (puts st u) (⟨v, u, rd⟩ :: acc) K) : opsW P T D ops nx (o :: r) i env st acc K := by
  show stepW P T D ops o (nx + D * i) env (get st) _
  unfold stepW
  rw [hw]
  simp only
  split
  · rename_i ho; rw [ho] at hn; cases hn
  · rw [hp]; exact ⟨hc, hb, h⟩
theorem opsW_skip {P : Program} {T : Tab} {D : Nat} {ops : List Oper} {nx i : Nat} {env : List AV} {st : Stores} {acc : List Eff} {o : Oper} {r : List Oper} {K : List AV → Stores → List Eff → Prop}
    (hw : wantA ops env o = some false) (h : opsW P T D ops nx r (i + 1) (setD env o.dst (.p (.tup []))) st (⟨.p (.tup []), [], []⟩ :: acc) K) : opsW P T D ops nx (o :: r) i env st acc K := by
  show stepW P T D ops o (nx + D * i) env (get st) _
  unfold stepW
  rw [hw]
  exact ⟨rfl, h⟩
/-- A call of a function of values. -/
theorem opsW_callP {P : Program} {T : Tab} {D : Nat} {ops : List Oper} {nx i : Nat} {env : List AV} {st : Stores} {acc : List Eff} {o : Oper} {r : List Oper} {K : List AV → Stores → List Eff → Prop} {f : Operand} {args : Array Operand} {ts : Array TypeId} {g : Nat} {caps : List AV}
    {ps : List PV} {x : PV} (hs : Sound P g ps x) (hw : wantA ops env o = some true) (ho : o.op = .call { callee := .value f, args, argTypes := ts }) (hf : ev env f = .fn g caps) {qs : List PV} {rd : List Nat} (hz : frzs (get st) 9 (args.toList.map (ev env) ++ caps) = some (qs, rd)) (hp : qs = ps)
    {u : List (Nat × Option Blk)} (hu : (if x.flat then [] else rd.map fun b => (b, none)) = u)
    (hb : u.all (fun x => Nat.blt x.1 (nx + D * (i + 1))) = true) (h : opsW P T D ops nx r (i + 1) (setD env o.dst (.p x)) (puts st u) (⟨.p x, u, rd⟩ :: acc) K) : opsW P T D ops nx (o :: r) i env st acc K :=
  opsW_call hw ho hf rfl ⟨.p x, u, rd⟩ (hu ▸ SoundE.of (hp ▸ hz) hs) hb h
/-- A call by its effect. -/
theorem opsW_callE {P : Program} {T : Tab} {D : Nat} {ops : List Oper} {nx i : Nat} {env : List AV} {st : Stores} {acc : List Eff} {o : Oper} {r : List Oper} {K : List AV → Stores → List Eff → Prop} {f : Operand} {args : Array Operand} {ts : Array TypeId} {g : Nat} {caps al : List AV}
    {v : AV} {u : List (Nat × Option Blk)} {rd : List Nat} (hs : SoundE P D g al (get st) (nx + D * i) ⟨v, u, rd⟩) (hw : wantA ops env o = some true) (ho : o.op = .call { callee := .value f, args, argTypes := ts }) (hf : ev env f = .fn g caps) (ha : args.toList.map (ev env) ++ caps = al)
    (hb : u.all (fun x => Nat.blt x.1 (nx + D * (i + 1))) = true) (h : opsW P T D ops nx r (i + 1) (setD env o.dst v) (puts st u) (⟨v, u, rd⟩ :: acc) K) : opsW P T D ops nx (o :: r) i env st acc K :=
  opsW_call hw ho hf ha ⟨v, u, rd⟩ hs hb h
section
variable {base : Nat} {Q : PostA} {env : List AV} {st : Stores} {nx : Nat}
theorem WP_R {id : Nat} {ops : List Oper} (D : Nat) (hD : 0 < D) (h : ∀ K : List AV → Stores → Nat → Prop, (∀ env st nx, Q .normal env st nx → K env st nx) → opsW Try.prog tab D ops nx ops 0 env st [] fun env' st' acc => K env' st' (nx + D * ops.length)) :
    WP Try.prog base (.region id ops.toArray false) Q env st nx := by
  refine WP_region tok mixed hD (by simp) ?_
  simpa using h (Q .normal) fun _ _ _ h => h
theorem WP_D {id : Nat} {ops : List Oper} (D : Nat) (hD : 0 < D) (hlex : lexOK ops.toArray (befs ops []) = true) (h : ∀ K : List AV → Stores → Nat → Prop, (∀ env st nx, Q .normal env st nx → K env st nx) → opsW Try.prog tab D ops nx ops 0 env st [] fun env' st' acc => effsOK D nx (befs ops []) (acc.reverse.map fun e => (e.upd.map (·.1), e.rd)) = true ∧ K env' st' (nx + D * ops.length)) :
    WP Try.prog base (.region id ops.toArray true) Q env st nx := by
  refine WP_region tok mixed hD (fun _ => by simpa using hlex) ?_
  simpa using h (Q .normal) fun _ _ _ h => h
end
theorem Entered.of {P : Program} {f : Nat} {fn : Func} (h1 : P.funcs[f]? = some fn) (h2 : (fn.name == "runtime.NumGoroutine") = false) (h3 : fn.body.isNone = false) : Entered P f := ⟨fn, h1, h2, h3⟩
/-- A slice that comes in is not too long. -/
theorem Sound.len {P : Program} {f : Nat} {args : List PV} {res : PV} (hE : Entered P f) (j n : Nat) (cs : List PV) (hj : args[j]? = some (.lst n cs)) (h : n ≤ 9223372036854775807 → Sound P f args res) : Sound P f args res := by
  refine ⟨hE, fun F W vs hF hG hl hv => ?_⟩
  have hlt := (List.getElem?_eq_some_iff.1 hj).1
  have := (hv j _ vs[j] hj (List.getElem?_eq_getElem (by omega))).lst_len
  exact (h (by unfold maxLen at this; omega)).2 F W vs hF hG hl hv
theorem wrap_i64 (n : Int) : IntKind.i64.wrap n = wrap64 n := by rw [IntKind.wrap_i64]; unfold wrap64; omega
@[reducible] def I (n : Int) : PV := .v (.int .i64 n)
@[reducible] def B (b : Bool) : PV := .v (.bool b)
@[reducible] def N (l : List Int) : PV := .lst l.length (l.map I)
theorem getI {l : List Int} {i : Int} (h0 : 0 ≤ i) (h1 : i < l.length) : (l.map I).getD i.toNat default = I (rd l i) := by
  have : i.toNat < l.length := by omega
  simp [rd, List.getD_eq_getElem?_getD, List.getElem?_map, List.getElem?_eq_getElem this]
theorem setI {l : List Int} {i : Nat} {x : Int} : (l.map I).set i (I x) = (l.set i x).map I := (List.map_set).symm
theorem mx_fold (a b : Int) : (if a < b then b else a) = mx a b := rfl
theorem mn_fold (a b : Int) : (if b < a then b else a) = mn a b := rfl
theorem repI (n x : Int) : List.replicate n.toNat (I x) = (List.replicate n.toNat x).map I := by simp
theorem take_set_len {l : List Int} {i : Nat} {x : Int} : (l.set i x).take l.length = l.set i x := List.take_of_length_le (by simp)
theorem takeI (n : Nat) (l : List Int) : (l.map I).take n = (l.take n).map I := List.map_take.symm
theorem dropI (n : Nat) (l : List Int) : (l.map I).drop n = (l.drop n).map I := List.map_drop.symm
/-- The cells of a block, of which the middle ones are told. -/
def Mid (a x b : List Int) : List PV := (a ++ (x ++ b)).map I
theorem Mid.len (a x b : List Int) : (Mid a x b).length = a.length + x.length + b.length := by simp [Mid]; omega
theorem Mid.get {a x b : List Int} {i : Int} (h0 : 0 ≤ i) (h1 : i < x.length) : (Mid a x b).getD (a.length + i.toNat) default = I (rd x i) := by
  have h : i.toNat < x.length := by omega
  have h' : ¬ a.length + i.toNat < a.length := by omega
  simp [Mid, rd, List.getD_eq_getElem?_getD, List.getElem?_append, h, h']
theorem Mid.set {a x b : List Int} {i : Int} {y : Int} (h0 : 0 ≤ i) (h1 : i < x.length) : (Mid a x b).set (a.length + i.toNat) (.v (.int .i64 y)) = Mid a (x.set i.toNat y) b := by
  have h : i.toNat < x.length := by omega
  have e : (PV.v (.int .i64 y)) = I y := rfl
  rw [e]; unfold Mid
  rw [← List.map_set, List.set_append_right _ _ (by omega), List.set_append_left _ _ (by simpa using h)]
  simp
/-! The steps of a walk, with what each step asks of its tactic (short texts). -/
theorem nrmA {p q : Prop} (h : q) (e : p = q := by first | (conv => lhs; simp only [Mid.get, Mid.set, mx_fold, PV.flat, flats, nrm1, nrm, Bool.true_and, Bool.and_true, Bool.and_self, ev, List.replicate, Option.map_some, Option.bind_some, Nat.reduceBEq, beq_self_eq_true, setD, List.set, puts, put, del, cellsTo, cells1, allP, lay, putIn, joinB, sub, overB, rep, Blk.mk, AV.cells, List.map, List.drop, List.take, List.cons_append, List.nil_append, List.append_nil, List.getD_cons_succ, List.getD_cons_zero, if_true, if_false, Bool.false_eq_true, reduceIte, wrap_i64, getI, takeI, dropI, setI, repI, Nat.mul_one, Nat.one_mul, Nat.zero_add, Nat.add_zero, Nat.zero_mul, Int.toNat_natCast, Int.reduceNeg, Int.reduceToNat, Nat.reduceAdd, Nat.reduceMul, Nat.reduceSub, decide_true, decide_false, Bool.not_true, Bool.not_false, cond_true, cond_false, gt_iff_lt, ge_iff_le, Int.reduceLT, Int.reduceLE, Int.lt_irrefl, Int.le_refl, List.length_set, List.length_map, *]) | rfl) : p := e.mpr h
theorem nrmB {p q : Prop} (h : q) (e : p = q := by first | (conv => lhs; simp only [seqK, blockK, loopG, List.length_cons, List.length_nil, Nat.reduceAdd, Nat.reduceMul]) | rfl) : p := e.mpr h
theorem nrmC {p q : Prop} (h : q) (e : p = q := by first | (conv => lhs; simp only [seqK, blockK, loopG, Fin, reduceIte, Nat.reduceEqDiff]) | rfl) : p := e.mpr h
theorem opsA {P : Program} {T : Tab} {D : Nat} {ops : List Oper} {nx i : Nat} {env : List AV} {st : Stores} {acc : List Eff} {o : Oper} {r : List Oper} {K : List AV → Stores → List Eff → Prop}
    (hw : wantA ops env o = some true) (hn : isCall o.op = false) {v : AV} {u : List (Nat × Option Blk)} {rd : List Nat} {c : Prop} (hp : pop T o.op (ev env) (get st) (nx + D * i) = some (⟨v, u, rd⟩, c))
    (hb : u.all (fun x => Nat.blt x.1 (nx + D * (i + 1))) = true) (h : opsW P T D ops nx r (i + 1) (setD env o.dst v) (puts st u) (⟨v, u, rd⟩ :: acc) K) (hc : c := by first | exact trivial | omega | (dsimp only; omega) | (dsimp only; exact ⟨by omega, by omega, by omega⟩) | (simp only [Mid.len, Blk.cells, List.length_map, List.length_set, List.length_replicate, List.length_append, Nat.mul_one, Nat.zero_add, reduceCtorEq, List.length_cons, List.length_nil, List.length_take, List.length_drop, true_and, and_true, false_implies, implies_true]; first | done | omega) | (simp; done) | (simp; omega) | grind) : opsW P T D ops nx (o :: r) i env st acc K :=
  opsW_op hw hn hp hc hb h
theorem callA {P : Program} {T : Tab} {D : Nat} {ops : List Oper} {nx i : Nat} {env : List AV} {st : Stores} {acc : List Eff} {o : Oper} {r : List Oper} {K : List AV → Stores → List Eff → Prop} {f : Operand} {args : Array Operand} {ts : Array TypeId} {g : Nat} {caps : List AV}
    {ps : List PV} {x : PV} (hw : wantA ops env o = some true) (ho : o.op = .call { callee := .value f, args, argTypes := ts }) (hf : ev env f = .fn g caps) {qs : List PV} {rd : List Nat} {u : List (Nat × Option Blk)}
    (h : opsW P T D ops nx r (i + 1) (setD env o.dst (.p x)) (puts st u) (⟨.p x, u, rd⟩ :: acc) K)
    (hz : frzs (get st) 9 (args.toList.map (ev env) ++ caps) = some (qs, rd) := by rfl)
    (hp : qs = ps := by first | rfl | (simp only [nrm1, nrm, List.map, List.drop_zero, Nat.mul_one, takeI, dropI, List.take_length]; done) | (simp only [nrm1, nrm, List.map, List.drop_zero, Nat.mul_one, takeI, dropI, List.take_length]; rfl))
    (hu : (if x.flat then [] else rd.map fun b => (b, none)) = u := by rfl) (hb : u.all (fun x => Nat.blt x.1 (nx + D * (i + 1))) = true := by rfl) (hs : Sound P g ps x) : opsW P T D ops nx (o :: r) i env st acc K :=
  opsW_callP hs hw ho hf hz hp hu hb h
theorem callE {P : Program} {T : Tab} {D : Nat} {ops : List Oper} {nx i : Nat} {env : List AV} {st : Stores} {acc : List Eff} {o : Oper} {r : List Oper} {K : List AV → Stores → List Eff → Prop} {f : Operand} {args : Array Operand} {ts : Array TypeId} {g : Nat} {caps al : List AV}
    {v : AV} {u : List (Nat × Option Blk)} {rd : List Nat} (hw : wantA ops env o = some true) (ho : o.op = .call { callee := .value f, args, argTypes := ts }) (hf : ev env f = .fn g caps)
    (h : opsW P T D ops nx r (i + 1) (setD env o.dst v) (puts st u) (⟨v, u, rd⟩ :: acc) K) (ha : args.toList.map (ev env) ++ caps = al := by rfl)
    (hb : u.all (fun x => Nat.blt x.1 (nx + D * (i + 1))) = true := by rfl) (hs : SoundE P D g al (get st) (nx + D * i) ⟨v, u, rd⟩) : opsW P T D ops nx (o :: r) i env st acc K :=
  opsW_callE hs hw ho hf ha hb h
section
variable {base : Nat} {Q : PostA} {env : List AV} {st : Stores} {nx : Nat}
theorem regA {id : Nat} {ops : List Oper} (D : Nat) (h : ∀ K : List AV → Stores → Nat → Prop, (∀ env st nx, Q .normal env st nx → K env st nx) → opsW Try.prog tab D ops nx ops 0 env st [] fun env' st' acc => K env' st' (nx + D * ops.length)) (hD : 0 < D := by decide) :
    WP Try.prog base (.region id ops.toArray false) Q env st nx := WP_R D hD h
theorem regD {id : Nat} {ops : List Oper} (D : Nat) (h : ∀ K : List AV → Stores → Nat → Prop, (∀ env st nx, Q .normal env st nx → K env st nx) → opsW Try.prog tab D ops nx ops 0 env st [] fun env' st' acc => effsOK D nx (befs ops []) (acc.reverse.map fun e => (e.upd.map (·.1), e.rd)) = true ∧ K env' st' (nx + D * ops.length))
    (hD : 0 < D := by decide) (hlex : lexOK ops.toArray (befs ops []) = true := by kernel_rfl) : WP Try.prog base (.region id ops.toArray true) Q env st nx := WP_D D hD hlex h
theorem condT {P : Program} {c : Operand} {x y : Code} (hc : ev env c = .p (.v (.bool true))) (h : WP P base x Q env st nx) : WP P base (.cond c x y) Q env st nx := WP_cond hc (by simpa using h)
theorem condF {P : Program} {c : Operand} {x y : Code} (hc : ev env c = .p (.v (.bool false))) (h : WP P base y Q env st nx) : WP P base (.cond c x y) Q env st nx := WP_cond hc (by simpa using h)
end
def mkE (n : Nat) (l : List (Nat × AV)) : List AV := l.foldl (fun e x => e.set x.1 x.2) (List.replicate n .any)
/-- The result at a walk's end. -/
theorem endA {p : Prop} (h : p := by simp only [List.take_take, Nat.min_self, List.nil_append, Int.toNat_natCast, take_set_len, get, dropI, takeI, List.drop_zero, List.take_length, Nat.mul_one, Nat.reduceBEq, cond_true, cond_false, beq_self_eq_true, Option.map_some, Option.bind_some, Res, resAll, resOne, Fin, pack, frz, frzs, nrm1, nrm, Option.bind, Option.map, List.getD_cons_succ, List.getD_cons_zero, List.map, true_and, and_self, and_true]; first | exact ⟨_, rfl⟩ | (refine ⟨_, Option.some_inj.2 (Prod.ext ?_ rfl)⟩; simp only [List.take_take, Nat.min_self, List.nil_append, List.take_length, List.length_take, List.length_set, List.length_append, List.length_replicate, List.length_cons, List.length_nil, takeI, repI, setI, PV.tup.injEq, PV.lst.injEq, List.cons.injEq, and_true, true_and, *] <;> first | done | omega | (refine ⟨?_, ?_⟩ <;> first | rfl | omega))) : p := h
/-- A loop's head, out of what a round leaves. -/
theorem wkA {p : Prop} (h : p := by refine Wk.auto _ rfl rfl ?_ ?_ <;> simp only [nilA, Bool.false_eq_true, reduceCtorEq, false_or, or_false, Nat.le_refl, fitS, fitE, Stands, ren, rens, rho, renB, findR, get, Blk.cells, mkE, List.replicate, List.foldl, List.set, List.any_nil, List.any_cons, Bool.or_false, Bool.false_or, beq_self_eq_true, Nat.reduceBEq, Nat.blt_eq, Nat.not_lt_zero, decide_false, cond_true, cond_false, if_true, if_false, reduceIte, Nat.reduceEqDiff, Nat.reduceLT, List.length_set, List.length_append, List.length_replicate, List.length_cons, List.length_nil, List.map, true_or, or_true, and_true, true_and, and_self, Nat.reduceLeDiff, *] <;> (try (first | done | (simp; done) | omega))) : p := h
end Go.Proofs.Ytiondkijgpjgcaa.Pw
namespace Go.Proofs.Ytiondkijgpjgcaa.Px
open Go.Proofs.Ytiondkijgpjgcaa.Wd
set_option linter.unusedVariables false
def nat_Valid.l0 : Nat → List Int → Int → Int → Option (Bool)
  | 0, _, _, _ => none
  | k + 1, x0, x8, x9 => if x9 < x8 then (if 0 ≤ x9 then (if x9 < (x0.length : Int) then (if (rd x0 x9) < 0 then (some false) else (if (rd x0 x9) ≥ 1000000000 then (some false) else (nat_Valid.l0 k x0 x8 (wrap64 (x9 + 1))))) else (none)) else (none)) else (if (x0.length : Int) = 0 then (some true) else (if 0 ≤ (wrap64 ((x0.length : Int) - 1)) then (if (wrap64 ((x0.length : Int) - 1)) < (x0.length : Int) then (some ((rd x0 (wrap64 ((x0.length : Int) - 1))) != 0)) else (none)) else (none)))
def nat_Valid.f (k : Nat) (l0 : List Int) : Option (Bool) := if (l0.length : Int) > 48 then (some false) else (nat_Valid.l0 k l0 (l0.length : Int) 0)
def nat_trimmed.l0 : Nat → List Int → Int → Option (List Int)
  | 0, _, _ => none
  | k + 1, x0, x3 => if x3 > 0 then (if 0 ≤ (wrap64 (x3 - 1)) then (if (wrap64 (x3 - 1)) < (x0.length : Int) then (if (rd x0 (wrap64 (x3 - 1))) = 0 then (nat_trimmed.l0 k x0 (wrap64 (x3 - 1))) else (if 0 ≤ x3 then (if x3 ≤ (x0.length : Int) then (some (x0.take (x3 : Int).toNat)) else (none)) else (none))) else (none)) else (none)) else (if 0 ≤ x3 then (if x3 ≤ (x0.length : Int) then (some (x0.take (x3 : Int).toNat)) else (none)) else (none))
def nat_trimmed.f (k : Nat) (l0 : List Int) : Option (List Int) := nat_trimmed.l0 k l0 (l0.length : Int)
def nat_fitted.f (k : Nat) (l0 : List Int) : Option (List Int × Int) := (nat_trimmed.f k l0).bind fun t111 => (if (t111.length : Int) > 48 then (some (([] : List Int), 2)) else (some (t111, 0)))
def nat_padded.f (l0 : List Int) (a1 : Int) : Option (List Int) :=
  if (mx a1 (l0.length : Int)).toNat ≤ 35184372088832 then some (l0 ++ List.replicate (a1.toNat - l0.length) 0) else none
def nat_compare.l0 : Nat → List Int → List Int → Int → Option (Int)
  | 0, _, _, _ => none
  | k + 1, x0, x1, x5 => if x5 ≥ 0 then (if 0 ≤ x5 then (if x5 < (x0.length : Int) then (if x5 < (x1.length : Int) then (if (rd x0 x5) < (rd x1 x5) then (some (-1)) else (if (rd x0 x5) > (rd x1 x5) then (some 1) else (nat_compare.l0 k x0 x1 (wrap64 (x5 - 1))))) else (none)) else (none)) else (none)) else (some 0)
def nat_compare.f (k : Nat) (l0 : List Int) (l1 : List Int) : Option (Int) := if (l0.length : Int) = (l1.length : Int) then (nat_compare.l0 k l0 l1 (wrap64 ((l0.length : Int) - 1))) else (if (l0.length : Int) < (l1.length : Int) then (some (-1)) else (some 1))
mutual
def nat_Add.j0 : Nat → List Int → List Int → Bool → Option (List Int × Int)
  | 0, _, _, _ => none
  | k + 1, x0, x1, x17 => if x17 = true then (some (([] : List Int), 3)) else ((nat_padded.f x0 (wrap64 ((mx (x0.length : Int) (x1.length : Int)) + 1))).bind fun t116 => (nat_Add.l0 k x1 t116 0 (t116.length : Int) 0))
def nat_Add.l0 : Nat → List Int → List Int → Int → Int → Int → Option (List Int × Int)
  | 0, _, _, _, _, _ => none
  | k + 1, x1, x6, x7, x27, x28 => if x28 < x27 then (if 0 ≤ x28 then (if x28 < (x6.length : Int) then (if x28 < (x1.length : Int) then (nat_Add.l0 k x1 (x6.set (x28 : Int).toNat (Int.tmod (wrap64 ((wrap64 ((rd x6 x28) + x7)) + (rd x1 x28))) 1000000000)) (wrap64 (Int.tdiv (wrap64 ((wrap64 ((rd x6 x28) + x7)) + (rd x1 x28))) 1000000000)) x27 (wrap64 (x28 + 1))) else (nat_Add.l0 k x1 (x6.set (x28 : Int).toNat (Int.tmod (wrap64 ((rd x6 x28) + x7)) 1000000000)) (wrap64 (Int.tdiv (wrap64 ((rd x6 x28) + x7)) 1000000000)) x27 (wrap64 (x28 + 1)))) else (none)) else (none)) else ((nat_fitted.f k x6).bind fun bt123 => (some (bt123.1, bt123.2)))
end
def nat_Add.f (k : Nat) (l0 : List Int) (l1 : List Int) : Option (List Int × Int) := (nat_Valid.f k l0).bind fun t114 => (if t114 = true then ((nat_Valid.f k l1).bind fun t115 => (nat_Add.j0 k l0 l1 (!t115))) else (nat_Add.j0 k l0 l1 true))
mutual
def nat_Sub.j0 : Nat → List Int → List Int → Bool → Option (List Int × Int)
  | 0, _, _, _ => none
  | k + 1, x0, x1, x17 => if x17 = true then (some (([] : List Int), 3)) else ((nat_compare.f k x0 x1).bind fun t133 => (if t133 < 0 then (some (([] : List Int), 1)) else ((nat_padded.f x0 (x0.length : Int)).bind fun t134 => (nat_Sub.l0 k x1 t134 0 (t134.length : Int) 0))))
def nat_Sub.l0 : Nat → List Int → List Int → Int → Int → Int → Option (List Int × Int)
  | 0, _, _, _, _, _ => none
  | k + 1, x1, x6, x7, x27, x28 => if x28 < x27 then (if 0 ≤ x28 then (if x28 < (x6.length : Int) then (if x28 < (x1.length : Int) then (if (wrap64 ((wrap64 ((rd x6 x28) - x7)) - (rd x1 x28))) < 0 then (nat_Sub.l0 k x1 (x6.set (x28 : Int).toNat (wrap64 ((wrap64 ((wrap64 ((rd x6 x28) - x7)) - (rd x1 x28))) + 1000000000))) 1 x27 (wrap64 (x28 + 1))) else (nat_Sub.l0 k x1 (x6.set (x28 : Int).toNat (wrap64 ((wrap64 ((rd x6 x28) - x7)) - (rd x1 x28)))) 0 x27 (wrap64 (x28 + 1)))) else (if (wrap64 ((rd x6 x28) - x7)) < 0 then (nat_Sub.l0 k x1 (x6.set (x28 : Int).toNat (wrap64 ((wrap64 ((rd x6 x28) - x7)) + 1000000000))) 1 x27 (wrap64 (x28 + 1))) else (nat_Sub.l0 k x1 (x6.set (x28 : Int).toNat (wrap64 ((rd x6 x28) - x7))) 0 x27 (wrap64 (x28 + 1))))) else (none)) else (none)) else ((nat_trimmed.f k x6).bind fun t137 => (some (t137, 0)))
end
def nat_Sub.f (k : Nat) (l0 : List Int) (l1 : List Int) : Option (List Int × Int) := (nat_Valid.f k l0).bind fun t131 => (if t131 = true then ((nat_Valid.f k l1).bind fun t132 => (nat_Sub.j0 k l0 l1 (!t132))) else (nat_Sub.j0 k l0 l1 true))
mutual
def nat_Mul.j0 : Nat → List Int → List Int → Bool → Option (List Int × Int)
  | 0, _, _, _ => none
  | k + 1, x0, x1, x18 => if x18 = true then (some (([] : List Int), 3)) else (if 0 ≤ (wrap64 ((wrap64 ((x0.length : Int) + (x1.length : Int))) + 1)) then (if (wrap64 ((wrap64 ((x0.length : Int) + (x1.length : Int))) + 1) : Int).toNat ≤ 35184372088832 then (nat_Mul.l0 k x0 x1 (List.replicate (wrap64 ((wrap64 ((x0.length : Int) + (x1.length : Int))) + 1) : Int).toNat 0) (x0.length : Int) 0) else (none)) else (none))
def nat_Mul.l0 : Nat → List Int → List Int → List Int → Int → Int → Option (List Int × Int)
  | 0, _, _, _, _, _ => none
  | k + 1, x0, x1, x6, x27, x28 => if x28 < x27 then (nat_Mul.l1 k x0 x1 x6 x28 0 x27 x28 (x1.length : Int) 0) else ((nat_fitted.f k x6).bind fun bt151 => (some (bt151.1, bt151.2)))
def nat_Mul.l1 : Nat → List Int → List Int → List Int → Int → Int → Int → Int → Int → Int → Option (List Int × Int)
  | 0, _, _, _, _, _, _, _, _, _ => none
  | k + 1, x0, x1, x6, x7, x8, x27, x28, x32, x33 => if x33 < x32 then (if 0 ≤ (wrap64 (x7 + x33)) then (if (wrap64 (x7 + x33)) < (x6.length : Int) then (if 0 ≤ x7 then (if x7 < (x0.length : Int) then (if 0 ≤ x33 then (if x33 < (x1.length : Int) then (nat_Mul.l1 k x0 x1 (x6.set ((wrap64 (x7 + x33)) : Int).toNat (Int.tmod (wrap64 ((wrap64 ((rd x6 (wrap64 (x7 + x33))) + (wrap64 ((rd x0 x7) * (rd x1 x33))))) + x8)) 1000000000)) x7 (wrap64 (Int.tdiv (wrap64 ((wrap64 ((rd x6 (wrap64 (x7 + x33))) + (wrap64 ((rd x0 x7) * (rd x1 x33))))) + x8)) 1000000000)) x27 x28 x32 (wrap64 (x33 + 1))) else (none)) else (none)) else (none)) else (none)) else (none)) else (none)) else (if 0 ≤ (wrap64 (x7 + (x1.length : Int))) then (if (wrap64 (x7 + (x1.length : Int))) < (x6.length : Int) then (nat_Mul.l0 k x0 x1 (x6.set ((wrap64 (x7 + (x1.length : Int))) : Int).toNat x8) x27 (wrap64 (x28 + 1))) else (none)) else (none))
end
def nat_Mul.f (k : Nat) (l0 : List Int) (l1 : List Int) : Option (List Int × Int) := (nat_Valid.f k l0).bind fun t146 => (if t146 = true then ((nat_Valid.f k l1).bind fun t147 => (nat_Mul.j0 k l0 l1 (!t147))) else (nat_Mul.j0 k l0 l1 true))
def nat_short.l0 : Nat → List Int → Int → List Int → Int → Int → Option (List Int × List Int)
  | 0, _, _, _, _, _ => none
  | k + 1, x0, x1, x6, x7, x8 => if x8 ≥ 0 then (if 0 ≤ x8 then (if x8 < (x0.length : Int) then (if x1 = 0 then (none) else (if x8 < (x6.length : Int) then (nat_short.l0 k x0 x1 (x6.set (x8 : Int).toNat (wrap64 (Int.tdiv (wrap64 ((wrap64 (x7 * 1000000000)) + (rd x0 x8))) x1))) (Int.tmod (wrap64 ((wrap64 (x7 * 1000000000)) + (rd x0 x8))) x1) (wrap64 (x8 - 1))) else (none))) else (none)) else (none)) else ((nat_trimmed.f k x6).bind fun t165 => ((nat_trimmed.f k (([x7] : List Int))).bind fun t171 => (some (t165, t171))))
def nat_short.f (k : Nat) (l0 : List Int) (a1 : Int) : Option (List Int × List Int) := if 0 ≤ (l0.length : Int) then (if ((l0.length : Int) : Int).toNat ≤ 35184372088832 then (nat_short.l0 k l0 a1 (List.replicate ((l0.length : Int) : Int).toNat 0) 0 (wrap64 ((l0.length : Int) - 1))) else (none)) else (none)
def nat_scaled.l0 : Nat → List Int → Int → List Int → Int → Int → Int → Option (List Int)
  | 0, _, _, _, _, _, _ => none
  | k + 1, x0, x1, x5, x6, x14, x15 => if x15 < x14 then (if 0 ≤ x15 then (if x15 < (x0.length : Int) then (if x15 < (x5.length : Int) then (nat_scaled.l0 k x0 x1 (x5.set (x15 : Int).toNat (Int.tmod (wrap64 ((wrap64 ((rd x0 x15) * x1)) + x6)) 1000000000)) (wrap64 (Int.tdiv (wrap64 ((wrap64 ((rd x0 x15) * x1)) + x6)) 1000000000)) x14 (wrap64 (x15 + 1))) else (none)) else (none)) else (none)) else (if 0 ≤ (x0.length : Int) then (if (x0.length : Int) < (x5.length : Int) then (some (x5.set ((x0.length : Int) : Int).toNat x6)) else (none)) else (none))
def nat_scaled.f (k : Nat) (l0 : List Int) (a1 : Int) : Option (List Int) := if 0 ≤ (wrap64 ((l0.length : Int) + 1)) then (if (wrap64 ((l0.length : Int) + 1) : Int).toNat ≤ 35184372088832 then (nat_scaled.l0 k l0 a1 (List.replicate (wrap64 ((l0.length : Int) + 1) : Int).toNat 0) 0 (l0.length : Int) 0) else (none)) else (none)
def nat_Of.l0 : Nat → Int → List Int → Option (List Int × Int)
  | 0, _, _ => none
  | k + 1, x0, x4 => if x0 > 0 then (if x4.length < 17592186044416 then (nat_Of.l0 k (wrap64 (Int.tdiv x0 1000000000)) (x4 ++ [Int.tmod x0 1000000000])) else (none)) else (some (x4, 0))
def nat_Of.f (k : Nat) (a0 : Int) : Option (List Int × Int) := if a0 < 0 then (some (([] : List Int), 1)) else (nat_Of.l0 k a0 ([] : List Int))
def nat_small.l0 : Nat → List Int → Int → Int → Option (Int)
  | 0, _, _, _ => none
  | k + 1, x0, x3, x4 => if x4 ≥ 0 then (if 0 ≤ x4 then (if x4 < (x0.length : Int) then (nat_small.l0 k x0 (wrap64 ((wrap64 (x3 * 1000000000)) + (rd x0 x4))) (wrap64 (x4 - 1))) else (none)) else (none)) else (some x3)
def nat_small.f (k : Nat) (l0 : List Int) : Option (Int) := nat_small.l0 k l0 0 (wrap64 ((l0.length : Int) - 1))
def nat_reduce.l0 : Nat → List Int → List Int → Int → Int → Int → Int → Option (Bool × List Int)
  | 0, _, _, _, _, _, _ => none
  | k + 1, x0, x1, x2, x7, x11, x12 => if x12 < x11 then (if 0 ≤ x12 then (if x12 < (x0.length : Int) then (if x12 < (x1.length : Int) then (if (wrap64 ((wrap64 ((rd x0 x12) - x7)) - (wrap64 (x2 * (rd x1 x12))))) < 0 then (nat_reduce.l0 k (x0.set (x12 : Int).toNat (wrap64 ((wrap64 ((wrap64 ((rd x0 x12) - x7)) - (wrap64 (x2 * (rd x1 x12))))) + (wrap64 ((wrap64 (Int.tdiv (wrap64 ((wrap64 ((wrap64 (-(wrap64 ((wrap64 ((rd x0 x12) - x7)) - (wrap64 (x2 * (rd x1 x12))))))) + 1000000000)) - 1)) 1000000000)) * 1000000000))))) x1 x2 (wrap64 (Int.tdiv (wrap64 ((wrap64 ((wrap64 (-(wrap64 ((wrap64 ((rd x0 x12) - x7)) - (wrap64 (x2 * (rd x1 x12))))))) + 1000000000)) - 1)) 1000000000)) x11 (wrap64 (x12 + 1))) else (nat_reduce.l0 k (x0.set (x12 : Int).toNat (wrap64 ((wrap64 ((rd x0 x12) - x7)) - (wrap64 (x2 * (rd x1 x12)))))) x1 x2 0 x11 (wrap64 (x12 + 1)))) else (if (wrap64 ((rd x0 x12) - x7)) < 0 then (nat_reduce.l0 k (x0.set (x12 : Int).toNat (wrap64 ((wrap64 ((rd x0 x12) - x7)) + (wrap64 ((wrap64 (Int.tdiv (wrap64 ((wrap64 ((wrap64 (-(wrap64 ((rd x0 x12) - x7)))) + 1000000000)) - 1)) 1000000000)) * 1000000000))))) x1 x2 (wrap64 (Int.tdiv (wrap64 ((wrap64 ((wrap64 (-(wrap64 ((rd x0 x12) - x7)))) + 1000000000)) - 1)) 1000000000)) x11 (wrap64 (x12 + 1))) else (nat_reduce.l0 k (x0.set (x12 : Int).toNat (wrap64 ((rd x0 x12) - x7))) x1 x2 0 x11 (wrap64 (x12 + 1))))) else (none)) else (none)) else (some (decide (x7 > 0), x0))
def nat_reduce.f (k : Nat) (l0 : List Int) (l1 : List Int) (a2 : Int) : Option (Bool × List Int) := nat_reduce.l0 k l0 l1 a2 0 (l0.length : Int) 0
def nat_restore.l0 : Nat → List Int → List Int → Int → Int → Int → Option (List Int)
  | 0, _, _, _, _, _ => none
  | k + 1, x0, x1, x4, x8, x9 => if x9 < x8 then (if 0 ≤ x9 then (if x9 < (x0.length : Int) then (if x9 < (x1.length : Int) then (nat_restore.l0 k (x0.set (x9 : Int).toNat (Int.tmod (wrap64 ((wrap64 ((rd x0 x9) + x4)) + (rd x1 x9))) 1000000000)) x1 (wrap64 (Int.tdiv (wrap64 ((wrap64 ((rd x0 x9) + x4)) + (rd x1 x9))) 1000000000)) x8 (wrap64 (x9 + 1))) else (nat_restore.l0 k (x0.set (x9 : Int).toNat (Int.tmod (wrap64 ((rd x0 x9) + x4)) 1000000000)) x1 (wrap64 (Int.tdiv (wrap64 ((rd x0 x9) + x4)) 1000000000)) x8 (wrap64 (x9 + 1)))) else (none)) else (none)) else (some x0)
def nat_restore.f (k : Nat) (l0 : List Int) (l1 : List Int) : Option (List Int) := nat_restore.l0 k l0 l1 0 (l0.length : Int) 0
mutual
def nat_digit.l0 : Nat → List Int → List Int → Int → Int → Int → Int → Option (Int)
  | 0, _, _, _, _, _, _ => none
  | k + 1, x0, x1, x5, x6, x8, x9 => if x8 ≥ 1000000000 then (nat_digit.j1 k x0 x1 x5 x6 x8 x9 true) else (if 0 ≤ (wrap64 (x6 - 1)) then (if (wrap64 (x6 - 1)) < (x1.length : Int) then (if 0 ≤ (wrap64 (x5 - 2)) then (if (wrap64 (x5 - 2)) < (x0.length : Int) then (nat_digit.j1 k x0 x1 x5 x6 x8 x9 (decide ((wrap64 (x8 * (rd x1 (wrap64 (x6 - 1))))) > (wrap64 ((wrap64 (x9 * 1000000000)) + (rd x0 (wrap64 (x5 - 2)))))))) else (none)) else (none)) else (none)) else (none))
def nat_digit.j1 : Nat → List Int → List Int → Int → Int → Int → Int → Bool → Option (Int)
  | 0, _, _, _, _, _, _, _ => none
  | k + 1, x0, x1, x5, x6, x8, x9, x58 => if x58 = true then (if 0 ≤ x6 then (if x6 < (x1.length : Int) then (if (wrap64 (x9 + (rd x1 x6))) ≥ 1000000000 then (some (wrap64 (x8 - 1))) else (nat_digit.l0 k x0 x1 x5 x6 (wrap64 (x8 - 1)) (wrap64 (x9 + (rd x1 x6))))) else (none)) else (none)) else (some x8)
end
def nat_digit.f (k : Nat) (l0 : List Int) (l1 : List Int) : Option (Int) := if 0 ≤ (wrap64 ((l0.length : Int) - 1)) then (if (wrap64 ((l0.length : Int) - 1)) < (l0.length : Int) then (if 0 ≤ (wrap64 ((wrap64 ((l0.length : Int) - 1)) - 1)) then (if (wrap64 ((wrap64 ((l0.length : Int) - 1)) - 1)) < (l0.length : Int) then (if 0 ≤ (wrap64 ((l1.length : Int) - 1)) then (if (wrap64 ((l1.length : Int) - 1)) < (l1.length : Int) then (if (rd l1 (wrap64 ((l1.length : Int) - 1))) = 0 then (none) else (nat_digit.l0 k l0 l1 (wrap64 ((l0.length : Int) - 1)) (wrap64 ((l1.length : Int) - 1)) (wrap64 (Int.tdiv (wrap64 ((wrap64 ((rd l0 (wrap64 ((l0.length : Int) - 1))) * 1000000000)) + (rd l0 (wrap64 ((wrap64 ((l0.length : Int) - 1)) - 1))))) (rd l1 (wrap64 ((l1.length : Int) - 1))))) (Int.tmod (wrap64 ((wrap64 ((rd l0 (wrap64 ((l0.length : Int) - 1))) * 1000000000)) + (rd l0 (wrap64 ((wrap64 ((l0.length : Int) - 1)) - 1))))) (rd l1 (wrap64 ((l1.length : Int) - 1)))))) else (none)) else (none)) else (none)) else (none)) else (none)) else (none)
def nat_divide.l0 : Nat → List Int → List Int → List Int → Int → Option (List Int × List Int)
  | 0, _, _, _, _ => none
  | k + 1, v, u, out, i =>
    if 0 ≤ i then
      (nat_digit.f k ((u.drop i.toNat).take (v.length + 1)) v).bind fun q =>
      (nat_reduce.f k ((u.drop i.toNat).take (v.length + 1)) v q).bind fun b =>
      if b.1 = true then
        (nat_restore.f k b.2 v).bind fun p =>
          nat_divide.l0 k v (u.take i.toNat ++ p ++ u.drop (i.toNat + (v.length + 1))) (out.set i.toNat (wrap64 (q - 1))) (i - 1)
      else nat_divide.l0 k v (u.take i.toNat ++ b.2 ++ u.drop (i.toNat + (v.length + 1))) (out.set i.toNat q) (i - 1)
    else some (u, out)
def nat_divide.f (k : Nat) (l0 l1 : List Int) : Option (List Int × List Int) :=
  if l0.length ≤ 1000000 ∧ l1.length ≤ l0.length ∧ 2 ≤ l1.length ∧ 0 ≤ rd l1 ((l1.length : Int) - 1) ∧ rd l1 ((l1.length : Int) - 1) < 1000000000 then
    (nat_scaled.f k l0 (1000000000 / (rd l1 ((l1.length : Int) - 1) + 1))).bind fun u =>
    (nat_scaled.f k l1 (1000000000 / (rd l1 ((l1.length : Int) - 1) + 1))).bind fun v =>
    if u.length = l0.length + 1 ∧ v.length = l1.length + 1 then
      (nat_divide.l0 k (v.take l1.length) u (List.replicate (l0.length - l1.length + 1) 0) ((l0.length : Int) - l1.length)).bind fun s =>
      (nat_trimmed.f k (s.1.take l1.length)).bind fun t =>
      (nat_short.f k t (1000000000 / (rd l1 ((l1.length : Int) - 1) + 1))).bind fun d =>
      (nat_trimmed.f k s.2).bind fun q => some (q, d.1)
    else none
  else none
def nat_divided.f (k : Nat) (l0 : List Int) (l1 : List Int) : Option (List Int × List Int) := (nat_compare.f k l0 l1).bind fun t197 => (if t197 < 0 then ((nat_padded.f l0 (l0.length : Int)).bind fun t198 => ((nat_trimmed.f k t198).bind fun t201 => (some (([] : List Int), t201)))) else (if (l1.length : Int) = 1 then (if 0 < (l1.length : Int) then ((nat_short.f k l0 (rd l1 0)).bind fun bt205 => (some (bt205.1, bt205.2))) else (none)) else ((nat_divide.f k l0 l1).bind fun bt211 => (some (bt211.1, bt211.2)))))
def nat_DivMod.j0 : Nat → List Int → List Int → Bool → Option (List Int × List Int × Int)
  | 0, _, _, _ => none
  | k + 1, x0, x1, x16 => if x16 = true then (some (([] : List Int), ([] : List Int), 3)) else (if (x1.length : Int) = 0 then (some (([] : List Int), ([] : List Int), 16)) else ((nat_divided.f k x0 x1).bind fun bt219 => (some (bt219.1, bt219.2, 0))))
def nat_DivMod.f (k : Nat) (l0 : List Int) (l1 : List Int) : Option (List Int × List Int × Int) := (nat_Valid.f k l0).bind fun t217 => (if t217 = true then ((nat_Valid.f k l1).bind fun t218 => (nat_DivMod.j0 k l0 l1 (!t218))) else (nat_DivMod.j0 k l0 l1 true))
mutual
def nat_Gcd.j0 : Nat → List Int → List Int → Bool → Option (List Int × Int)
  | 0, _, _, _ => none
  | k + 1, x0, x1, x17 => if x17 = true then (some (([] : List Int), 3)) else (nat_Gcd.l0 k x0 x1)
def nat_Gcd.j2 : Nat → List Int → List Int → Option (List Int × Int)
  | 0, _, _ => none
  | k + 1, x0, x1 => if (x1.length : Int) = 0 then ((nat_padded.f x0 (x0.length : Int)).bind fun t243 => ((nat_trimmed.f k t243).bind fun t246 => (some (t246, 0)))) else ((nat_small.f k x0).bind fun t249 => ((nat_small.f k x1).bind fun t250 => (nat_Gcd.l1 k t249 t250)))
def nat_Gcd.l1 : Nat → Int → Int → Option (List Int × Int)
  | 0, _, _ => none
  | k + 1, x8, x9 => if x9 > 0 then (if x9 = 0 then (none) else (nat_Gcd.l1 k x9 (Int.tmod x8 x9))) else ((nat_Of.f k x8).bind fun bt251 => (some (bt251.1, bt251.2)))
def nat_Gcd.l0 : Nat → List Int → List Int → Option (List Int × Int)
  | 0, _, _ => none
  | k + 1, x0, x1 => if (x1.length : Int) > 0 then (if (x0.length : Int) > 2 then ((nat_divided.f k x0 x1).bind fun bt231 => (nat_Gcd.l0 k x1 bt231.2)) else (if (x1.length : Int) > 2 then ((nat_divided.f k x0 x1).bind fun bt237 => (nat_Gcd.l0 k x1 bt237.2)) else (nat_Gcd.j2 k x0 x1))) else (nat_Gcd.j2 k x0 x1)
end
def nat_Gcd.f (k : Nat) (l0 : List Int) (l1 : List Int) : Option (List Int × Int) := (nat_Valid.f k l0).bind fun t229 => (if t229 = true then ((nat_Valid.f k l1).bind fun t230 => (nat_Gcd.j0 k l0 l1 (!t230))) else (nat_Gcd.j0 k l0 l1 true))
def nat_Cmp.f (k : Nat) (l0 : List Int) (l1 : List Int) : Option (Int × Int) := (nat_Valid.f k l0).bind fun t255 => (if t255 = true then ((nat_Valid.f k l1).bind fun t256 => (if t256 = true then ((nat_compare.f k l0 l1).bind fun t257 => (some (t257, 0))) else (some (0, 3)))) else (some (0, 3)))
end Go.Proofs.Ytiondkijgpjgcaa.Px
