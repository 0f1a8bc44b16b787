/- The functions of the program as functions of values, part 9: a proof's lemmas, with no condition of their own. -/
import Derived.Lib.ItoaNum
import Derived.Lib.Repeat
import Derived.Lib.ItoaMem
import Derived.Test.YtalklhbdpmggjaaDoorRows
import Derived.WalkKit
import Derived.ProofKit
import Derived.Handed
import Derived.LaidLaws
import Derived.LaidHandle
import Derived.Lib.LaidIn
import Derived.Lib.LaidTab
import Derived.Lib.SmallJoins
import Derived.Test.YtalklhbdpmggjaaDoorNec
import Derived.Test.YtalklhbdpmggjaaDoorNed
import Derived.Test.YtalklhbdpmggjaaDoorNee
import Derived.Test.YtalklhbdpmggjaaDoorNef
import Derived.Test.YtalklhbdpmggjaaDoorNeg
import Derived.Test.YtalklhbdpmggjaaDoorNeh
set_option linter.unusedVariables false
set_option linter.unusedSimpArgs false
namespace Go.Proofs.YtalklhbdpmggjaaDoor.Pw
open Go Go.RowKit
mutual
def refs : AV → List Nat
  | .any | .p _ => []
  | .own b _ => [b]
  | .sl b _ _ _ => [b]
  | .agg cs => refsL cs
  | .tup cs => refsL cs
  | .fn _ cs => refsL cs
def refsL : List AV → List Nat
  | [] => []
  | x :: r => refs x ++ refsL r
end
def blkRefs : Blk → List Nat | .pc _ _ => [] | .mc _ cs => refsL cs
def reach : Nat → Stores → List Nat → List Nat → List Nat
  | 0, _, _, seen => seen
  | _ + 1, _, [], seen => seen
  | n + 1, st, b :: todo, seen => if seen.contains b then reach n st todo seen else match get st b with
    | some k => reach n st (blkRefs k ++ todo) (b :: seen)
    | none => reach n st todo seen
def pickS (st : Stores) : List Nat → Stores
  | [] => []
  | b :: r => match get st b with | some k => (b, k) :: pickS st r | none => pickS st r
theorem get_pickS (st : Stores) : ∀ (l : List Nat) b k, get (pickS st l) b = some k → get st b = some k ∧ b ∈ l
  | [], b, k, h => by simp [pickS, get] at h
  | a :: r, b, k, h => by
    simp only [pickS] at h
    split at h
    · rename_i k' hk
      simp only [get] at h
      by_cases e : a = b
      · subst e
        simp only [beq_self_eq_true, cond_true, Option.some.injEq] at h
        subst h; exact ⟨hk, by simp⟩
      · rw [show (a == b) = false by simpa using e] at h
        have := get_pickS st r b k h
        exact ⟨this.1, by simp [this.2]⟩
    · have := get_pickS st r b k h
      exact ⟨this.1, by simp [this.2]⟩
theorem mem_of_get : ∀ (l : Stores) b k, get l b = some k → (b, k) ∈ l
  | [], b, k, h => by simp [get] at h
  | (i, x) :: r, b, k, h => by
    simp only [get] at h
    by_cases e : i = b
    · subst e
      simp only [beq_self_eq_true, cond_true, Option.some.injEq] at h
      subst h; simp
    · rw [show (i == b) = false by simpa using e] at h
      exact List.mem_cons_of_mem _ (mem_of_get r b k h)
def ltB (n : Nat) : Blk → Bool | .pc _ _ => true | .mc _ cs => lts n cs
theorem lts_map_p (n : Nat) : ∀ cs : List PV, lts n (cs.map .p) = true
  | [] => rfl
  | x :: r => by simp [lts, AV.lt, lts_map_p n r]
theorem ltB_cells {n : Nat} {k : Blk} (h : ltB n k = true) : lts n k.cells = true := by
  cases k with
  | pc e cs => exact lts_map_p n cs
  | mc e cs => exact h
def resOneB (T : Tab) (env : List AV) (σ : Store) : ResultVar → Option AV
  | .tmp t => some (env.getD t .any)
  | .cell a t => (T t).bind fun y => if y.size == 0 then none else match env.getD a .any with
    | .own b o => (σ b).bind fun k => if Nat.ble (o + y.size) k.cells.length && (y.agg || y.size == 1) then some (cellsTo y.agg y.size o k) else none
    | _ => none
def resAllB (T : Tab) (env : List AV) (σ : Store) : List ResultVar → Option (List AV)
  | [] => some []
  | r :: rs => (resOneB T env σ r).bind fun a => (resAllB T env σ rs).map fun q => a :: q
theorem resOneB_spec {T : Tab} {env : List AV} {σ : Store} {r : ResultVar} {a : AV} (h : resOneB T env σ r = some a) : ∃ c, resOne T env σ r = some (a, c) ∧ c := by
  cases r with
  | tmp t => simp only [resOneB, Option.some.injEq] at h; subst h; exact ⟨_, rfl, trivial⟩
  | cell p t =>
    simp only [resOneB, Option.bind_eq_some_iff] at h
    obtain ⟨y, hy, h⟩ := h
    split at h
    · cases h
    · rename_i h0
      split at h
      · rename_i b o hp
        simp only [Option.bind_eq_some_iff] at h
        obtain ⟨k, hk, h⟩ := h
        split at h
        · rename_i hc
          injection h with h; subst h
          simp only [Bool.and_eq_true, Nat.ble_eq, Bool.or_eq_true, beq_iff_eq] at hc
          refine ⟨o + y.size ≤ k.cells.length ∧ (y.agg = false → y.size = 1), ?_, hc.1, fun hf => ?_⟩
          · simp only [resOne, hy, Option.bind_some, hp, hk]
            rw [if_neg h0]
          · rcases hc.2 with h1 | h1
            · rw [hf] at h1; cases h1
            · exact h1
        · cases h
      · cases h
theorem resAllB_spec {T : Tab} {env : List AV} {σ : Store} : ∀ {rs : List ResultVar} {avs : List AV}, resAllB T env σ rs = some avs → ∃ c, resAll T env σ rs = some (avs, c) ∧ c
  | [], avs, h => by simp only [resAllB, Option.some.injEq] at h; subst h; exact ⟨True, rfl, trivial⟩
  | r :: rs, avs, h => by
    simp only [resAllB, Option.bind_eq_some_iff, Option.map_eq_some_iff] at h
    obtain ⟨a, ha, q, hq, rfl⟩ := h
    obtain ⟨c1, h1, h2⟩ := resOneB_spec ha
    obtain ⟨c2, h3, h4⟩ := resAllB_spec hq
    exact ⟨c1 ∧ c2, by simp [resAll, h1, h3], h2, h4⟩
theorem opsX_inv {T : Tab} {D : Nat} {cx : CallX} {ops : List Oper} {nx : Nat} : ∀ (l : List Oper) (i : Nat) (env : List AV) (st : Stores) (acc : List Eff) (tp : List PV) (lg : List Told) (r : List AV × Stores × List Eff × List PV × List Told), opsX cx T D ops nx l i env st acc tp lg = some r →
    ∃ es, r.2.2.1 = es ++ acc ∧ ∀ b, (∀ e ∈ es, ∀ x ∈ e.upd, x.1 ≠ b) → get r.2.1 b = get st b
  | [], i, env, st, acc, tp, lg, r, h => by
    simp only [opsX, Option.some.injEq] at h; subst h; exact ⟨[], rfl, fun _ _ => rfl⟩
  | o :: l, i, env, st, acc, tp, lg, r, h => by
    simp only [opsX] at h
    split at h
    · rename_i e tp' l1 he
      split at h
      · obtain ⟨es, h1, h2⟩ := opsX_inv l _ _ _ _ _ _ r h
        refine ⟨es ++ [e], by rw [h1]; simp, fun b hb => ?_⟩
        rw [h2 b fun e' he' => hb e' (by simp [he']), get_puts]
        exact upds_other _ _ _ (hb e (by simp))
      · cases h
    · cases h
theorem foldW (B : Nat) : ∀ (u : List (Nat × Option Blk)) (w : List Nat), (∀ b, b ∈ w → b ∈ u.foldl (fun w x => if Nat.blt x.1 B && !w.contains x.1 then x.1 :: w else w) w) ∧
    ∀ x ∈ u, x.1 < B → x.1 ∈ u.foldl (fun w x => if Nat.blt x.1 B && !w.contains x.1 then x.1 :: w else w) w
  | [], w => ⟨fun _ h => h, fun x h => by cases h⟩
  | y :: u, w => by
    obtain ⟨h1, h2⟩ := foldW B u (if Nat.blt y.1 B && !w.contains y.1 then y.1 :: w else w)
    refine ⟨fun b hb => h1 b ?_, fun x hx hlt => ?_⟩
    · split
      · simp [hb]
      · exact hb
    · rcases List.mem_cons.1 hx with rfl | hx
      · refine h1 _ ?_
        split
        · simp
        · rename_i hc
          simp only [Nat.blt_eq, Bool.and_eq_true, Bool.not_eq_true', not_and, Bool.not_eq_false] at hc
          have := hc hlt
          simpa using this
      · exact h2 x hx hlt
theorem addW_spec (B : Nat) : ∀ (es : List Eff) (w : List Nat), (∀ b, b ∈ w → b ∈ addW B w es) ∧ ∀ e ∈ es, ∀ x ∈ e.upd, x.1 < B → x.1 ∈ addW B w es
  | [], w => ⟨fun _ h => h, fun x h => by cases h⟩
  | e :: es, w => by
    obtain ⟨h1, h2⟩ := addW_spec B es (e.upd.foldl (fun w x => if Nat.blt x.1 B && !w.contains x.1 then x.1 :: w else w) w)
    obtain ⟨h3, h4⟩ := foldW B e.upd w
    refine ⟨fun b hb => h1 b (h3 b hb), fun e' he' x hx hlt => ?_⟩
    rcases List.mem_cons.1 he' with rfl | he'
    · exact h1 _ (h4 x hx hlt)
    · exact h2 e' he' x hx hlt
theorem exec_inv {T : Tab} {D : Nat} {cx : CallX} {B : Nat} : ∀ (n : Nat) (c : Code) (env : List AV) (st : Stores) (nx : Nat) (wr : List Nat) (tp : List PV) (lg : List Told) (o : Out), exec T D B cx n c env st nx wr tp lg = some o →
    (∀ b, b ∈ wr → b ∈ o.wr) ∧ ∀ b, b < B → b ∉ o.wr → get o.st b = get st b := by
  intro n
  induction n with
  | zero => intro c env st nx wr tp lg o h; simp [exec] at h
  | succ n ih =>
    intro c env st nx wr tp lg o h
    have two : ∀ {c1 c2 : Code} {env1 st1 nx1 wr1 tp1 lg1 x}, exec T D B cx n c1 env st nx wr tp lg = some ⟨x, env1, st1, nx1, wr1, tp1, lg1⟩ → exec T D B cx n c2 env1 st1 nx1 wr1 tp1 lg1 = some o → (∀ b, b ∈ wr → b ∈ o.wr) ∧ ∀ b, b < B → b ∉ o.wr → get o.st b = get st b := fun h1 h2 => by
      obtain ⟨a1, a2⟩ := ih _ _ _ _ _ _ _ _ h1
      obtain ⟨b1, b2⟩ := ih _ _ _ _ _ _ _ _ h2
      exact ⟨fun b hb => b1 b (a1 b hb), fun b hb hn => (b2 b hb hn).trans (a2 b hb fun hm => hn (b1 b hm))⟩
    cases c with
    | skip => simp only [exec, Option.some.injEq] at h; subst h; exact ⟨fun _ h => h, fun _ _ _ => rfl⟩
    | exit id => simp only [exec, Option.some.injEq] at h; subst h; exact ⟨fun _ h => h, fun _ _ _ => rfl⟩
    | ret => simp only [exec, Option.some.injEq] at h; subst h; exact ⟨fun _ h => h, fun _ _ _ => rfl⟩
    | seq a b =>
      simp only [exec] at h
      split at h
      · rename_i h1; exact two h1 h
      · exact ih _ _ _ _ _ _ _ _ h
    | cond c a b =>
      simp only [exec] at h
      split at h
      · rename_i t hc
        cases t <;> exact ih _ _ _ _ _ _ _ _ h
      · cases h
    | block id c =>
      simp only [exec] at h
      split at h
      · rename_i i env1 st1 nx1 wr1 tp1 lg1 h1
        have := ih _ _ _ _ _ _ _ _ h1
        split at h <;> (injection h with h; subst h; exact this)
      · exact ih _ _ _ _ _ _ _ _ h
    | loop c =>
      simp only [exec] at h
      split at h
      · rename_i h1; exact two h1 h
      · exact ih _ _ _ _ _ _ _ _ h
    | region id ops draw =>
      simp only [exec] at h
      split at h
      · rename_i env1 st1 acc tp1 lg1 h1
        split at h
        · injection h with h; subst h
          obtain ⟨es, e1, e2⟩ := opsX_inv _ _ _ _ _ _ _ _ h1
          simp only [List.append_nil] at e1
          subst e1
          obtain ⟨w1, w2⟩ := addW_spec B acc wr
          exact ⟨w1, fun b hb hn => e2 b fun e he x hx hxb => hn (hxb ▸ w2 e he x hx (by omega))⟩
        · cases h
      · cases h
    | _ => simp [exec] at h
def Dl (l : Nat) : Nat := 2 ^ (32 * l)
theorem Dl_pos (l : Nat) : 0 < Dl l := Nat.pow_pos (by decide)
def finX (T : Tab) (fuel l : Nat) (fn : Func) (st0 : Stores) (keys : List Nat) (new : Nat) (o : Out) : Option Eff :=
  match o.x with
  | .exit _ => none
  | _ => if Nat.ble o.nx (new + Dl l) then match resAllB T o.env (get o.st) fn.results.toList with
    | some avs =>
      match (((reach fuel o.st (refsL avs ++ o.wr) []).filter (fun b => Nat.ble new b)) ++ o.wr).map fun b => (b, get o.st b) with
      | u => if u.all (fun x => ((get st0 x.1).isSome || Nat.ble new x.1) && Nat.blt x.1 (new + Dl l)) then some ⟨pack avs, u, keys⟩ else none
    | none => none
    else none
/-- Told: the functions whose answers are read off the tape. -/
def callX (P : Program) (T : Tab) (told : List Nat) (fuel : Nat) : Nat → CallX
  | 0, _, _, _, _, _ => none
  | l + 1, g, args, st, new, tp => if told.contains g then match tp with
      | r :: tp => match frzs (get st) 99 args with
        | some (ps, rd) => some (⟨.p r, if r.flat then [] else rd.map fun b => (b, none), rd⟩, tp, [(g, ps, r)])
        | none => none
      | [] => none
    else match P.funcs[g]? with
    | none => none
    | some fn => if fn.name == "runtime.NumGoroutine" then none else match fn.body with
      | none => none
      | some c => match reach fuel st (refsL args) [] with
        | keys => match pickS st keys with
          | st0 => if lts new args && st0.all (fun x => Nat.blt x.1 new && ltB new x.2) then
            match exec T (Dl l) new (callX P T told fuel l) fuel c (args0 fn.ntmps args) st0 new [] tp [] with
            | some o => match finX T fuel (l + 1) fn st0 keys new o with
              | some e => some (e, o.tp, o.lg)
              | none => none
            | none => none
            else none
theorem upds_self (σ τ : Store) : ∀ (l : List Nat) b k, upds σ (l.map fun b => (b, τ b)) b = some k → τ b = some k ∨ (b ∉ l ∧ σ b = some k)
  | [], b, k, h => .inr ⟨by simp, h⟩
  | a :: r, b, k, h => by
    have h' : upds (upd1 σ a (τ a)) (r.map fun b => (b, τ b)) b = some k := h
    rcases upds_self _ τ r b k h' with h1 | ⟨h1, h2⟩
    · exact .inl h1
    · unfold upd1 at h2
      split at h2
      · rename_i e; subst e; exact .inl h2
      · rename_i e; exact .inr ⟨by simp [e, h1], h2⟩
theorem callX_sound {P : Program} {T : Tab} (hT : TOK P T) (hm : P.follows .mixedOrders = true) (told : List Nat) (fuel : Nat) : ∀ (l : Nat), CallOK P (Dl l) (callX P T told fuel l) := by
  intro l
  induction l with
  | zero => intro g args st new tp r h; simp [callX] at h
  | succ l ih =>
    intro g args st new tp r h hg
    simp only [callX] at h
    split at h
    · split at h
      · split at h
        · rename_i x tp' _ ps rd hf
          injection h with h; subst h
          exact SoundE.of hf (hg (g, ps, x) (List.mem_singleton.2 rfl))
        · cases h
      · cases h
    split at h
    · cases h
    · rename_i fn hf
      split at h
      · cases h
      · rename_i hnm
        split at h
        · cases h
        · rename_i c hb
          split at h
          · rename_i hc
            split at h
            · rename_i o ho
              simp only [Bool.and_eq_true, List.all_eq_true, Nat.blt_eq] at hc
              obtain ⟨hargs, hc⟩ := hc
              split at h
              rotate_left
              · cases h
              rename_i e he
              injection h with h; subst h
              replace h := he
              clear he
              unfold finX at h
              have key : o.x ≠ .normal ∧ o.x ≠ .ret → False := by
                intro ⟨h1, h2⟩
                cases hx : o.x with
                | normal => exact h1 hx
                | ret => exact h2 hx
                | exit i => rw [hx] at h; cases h
              split at h
              · cases h
              · split at h
                · rename_i hnx
                  split at h
                  · rename_i avs has
                    dsimp only at h
                    split at h
                    · rename_i hu
                      injection h with h; subst h
                      simp only [List.all_eq_true, Bool.and_eq_true, Bool.or_eq_true, Nat.ble_eq, Nat.blt_eq] at hu
                      refine SoundE.of_WP hT hf hb (by simpa using hnm) (pickS st (reach fuel st (refsL args) [])) (fun b k hk => ?_) hargs (fun x hx => ?_) ?_
                      · obtain ⟨h1, h2⟩ := get_pickS _ _ _ _ hk
                        have := hc (b, k) (mem_of_get _ _ _ hk)
                        exact ⟨h1, h2, this.1, ltB_cells this.2⟩
                      · have := hu x hx
                        refine ⟨this.1.imp (fun h => ?_) id, this.2⟩
                        intro h0; rw [h0] at h; cases h
                      · refine (exec_sound hT hm (Dl_pos l) ih fuel).1 c _ _ _ _ _ _ o _ ho hg ⟨by simpa using hnx, ?_⟩
                        obtain ⟨cc, hr, hcc⟩ := resAllB_spec has
                        have res : Res T fn.results.toList o.env o.st fun a => a = pack avs ∧ ∀ b k, upds (get (pickS st (reach fuel st (refsL args) []))) ((((reach fuel o.st (refsL avs ++ o.wr) []).filter (fun b => Nat.ble new b)) ++ o.wr).map fun b => (b, get o.st b)) b = some k → get o.st b = some k := by
                          unfold Res
                          rw [hr]
                          refine ⟨hcc, rfl, fun b k hk => ?_⟩
                          rcases upds_self _ _ _ _ _ hk with h1 | ⟨h1, h2⟩
                          · exact h1
                          · have hlt := (hc (b, k) (mem_of_get _ _ _ h2)).1
                            rw [(exec_inv _ _ _ _ _ _ _ _ _ ho).2 b hlt fun hw => h1 (by simp [hw])]
                            exact h2
                        cases hx : o.x with
                        | normal => exact res
                        | ret => exact res
                        | exit i => exact (key ⟨by simp [hx], by simp [hx]⟩).elim
                    · cases h
                  · cases h
                · cases h
            · cases h
          · cases h
/-- A run of a function at certain values. -/
def runX (P : Program) (T : Tab) (told : List Nat) (fuel l f : Nat) (args : List PV) (tp : List PV) : Option (PV × List Told) :=
  match P.funcs[f]? with
  | none => none
  | some fn => if fn.name == "runtime.NumGoroutine" then none else match fn.body with
    | none => none
    | some c => match exec T (Dl l) 0 (callX P T told fuel l) fuel c (args0 fn.ntmps (args.map .p)) [] 0 [] tp [] with
      | some o => match o.x with
        | .exit _ => none
        | _ => match resAllB T o.env (get o.st) fn.results.toList with
          | some avs => match frz (get o.st) 99 (pack avs) with
            | some (p, _) => some (p, o.lg)
            | none => none
          | none => none
      | none => none
theorem runX_sound {P : Program} {T : Tab} (hT : TOK P T) (hm : P.follows .mixedOrders = true) {told : List Nat} {fuel l f : Nat} {args : List PV} {tp : List PV} {res : PV} {lg : List Told} (h : runX P T told fuel l f args tp = some (res, lg)) (hg : ∀ c ∈ lg, Good P c) : Sound P f args res := by
  unfold runX at h
  split at h
  · cases h
  · rename_i fn hf
    split at h
    · cases h
    · rename_i hnm
      split at h
      · cases h
      · rename_i c hb
        split at h
        · rename_i o ho
          have key : o.x ≠ .normal ∧ o.x ≠ .ret → False := by
            intro ⟨h1, h2⟩
            cases hx : o.x with
            | normal => exact h1 hx
            | ret => exact h2 hx
            | exit i => rw [hx] at h; cases h
          split at h
          · cases h
          · split at h
            · rename_i avs has
              split at h
              · rename_i p rd hp
                injection h with h; injection h with h1 h2; subst h1; subst h2
                refine Sound.of_WP99 hT hf hb (by simpa using hnm) ?_
                refine (exec_sound hT hm (Dl_pos l) (callX_sound hT hm told fuel l) fuel).1 c _ _ _ _ _ _ o _ ho hg ?_
                obtain ⟨cc, hr, hcc⟩ := resAllB_spec has
                have res : Res T fn.results.toList o.env o.st fun a => ∃ rd, frz (get o.st) 99 a = some (p, rd) := by
                  unfold Res
                  rw [hr]
                  exact ⟨hcc, rd, hp⟩
                cases hx : o.x with
                | normal => exact res
                | ret => exact res
                | exit i => exact (key ⟨by simp [hx], by simp [hx]⟩).elim
              · cases h
            · cases h
        · cases h
theorem runL {P : Program} {T : Tab} (hT : TOK P T) (hm : P.follows .mixedOrders = true) {f : Nat} {args : List PV} {res : PV} {lg : List Told} (told : List Nat) (fuel l : Nat) (hg : ∀ c ∈ lg, Good P c) (h : runX P T told fuel l f args (lg.map fun c => c.2.2) = some (res, lg)) : Sound P f args res :=
  runX_sound hT hm h hg
theorem Res_of {T : Tab} {rs : List ResultVar} {env : List AV} {st : Stores} {K : AV → Prop} {avs : List AV} {c : Prop} (h : resAll T env (get st) rs = some (avs, c)) (hc : c) (hk : K (pack avs)) : Res T rs env st K := by
  unfold Res; rw [h]; exact ⟨hc, hk⟩
theorem Good.nil {P : Program} : ∀ c ∈ ([] : List Told), Good P c := fun c h => by cases h
theorem Good.cons {P : Program} {g : Nat} {ps : List PV} {r : PV} {l : List Told} (h : Sound P g ps r) (k : ∀ c ∈ l, Good P c) : ∀ c ∈ (g, ps, r) :: l, Good P c := fun c hc => by
  rcases List.mem_cons.1 hc with rfl | hc
  · exact h
  · exact k c hc
end Go.Proofs.YtalklhbdpmggjaaDoor.Pw
namespace Go.Proofs.YtalklhbdpmggjaaDoor.Pw
open Go Wd Px Mat
set_option linter.unusedVariables false
set_option linter.unusedSimpArgs false
set_option maxRecDepth 100000
set_option maxHeartbeats 8000000
attribute [local irreducible] Int.tmod Int.tdiv
theorem parse_007 : Sound Tryd.prog 31 [bytes [48, 48, 55]] (.tup [N [], I 3]) :=
  runL tok mixed [] 100 3 Good.nil (by kernel_rfl)
theorem dg1 (n : Int) (h : 0 < n) (h' : n < 1000000000) : dg n = [n] := by
  rw [dg_pos h, show n / 1000000000 = 0 by omega, show n % 1000000000 = n by omega, dg_zero]
theorem dg2 (n : Int) (h : 1000000000 ≤ n) (h' : n < 1000000000000000000) : dg n = [n % 1000000000, n / 1000000000] := by
  rw [dg_pos (by omega), dg1 (n / 1000000000) (by omega) (by omega)]
theorem n_of : ofS 1000000007 = ([7, 1], 0) := by
  unfold ofS; rw [if_neg (by decide), dg2 _ (by decide) (by decide)]; rfl
theorem n_mul : mulS [7, 1] [3] = ([21, 3], 0) := by
  unfold mulS; rw [if_pos (by decide), show val [7, 1] * val [3] = 3000000021 by decide]
  unfold Px.fitS; rw [if_pos (by decide), dg2 _ (by decide) (by decide)]; rfl
theorem n_div : divS [21, 3] [4] = ([750000005], [1], 0) := by
  unfold divS; rw [if_pos (by decide), if_neg (by decide), show val [21, 3] = 3000000021 by decide, show val [4] = 4 by decide, show (3000000021 / 4 : Int) = 750000005 by decide, show (3000000021 % 4 : Int) = 1 by decide, dg1 _ (by decide) (by decide), dg1 _ (by decide) (by decide)]
theorem n_gcd : gcdS [12] [18] = ([6], 0) := by
  unfold gcdS; rw [if_pos (by decide), show val [12] = 12 by decide, show val [18] = 18 by decide, show gcdI 12 18 = 6 by decide, dg1 _ (by decide) (by decide)]
theorem awake02.c : Sound Tryd.prog 21 [] (B true) := by
  have c1 := nat_Of.c 1000000007 (by decide)
  rw [n_of] at c1
  have c2 := nat_Mul.c [7, 1] [3]
  rw [n_mul] at c2
  have c3 := nat_DivMod.c [21, 3] [4]
  rw [n_div] at c3
  have c4 := nat_Gcd.c [12] [18]
  rw [n_gcd] at c4
  have s : ∀ a, Sound Tryd.prog 24 [N a, N a] (B true) := fun a => by
    have := ref_Same.c a a
    rwa [decide_eq_true rfl] at this
  exact runL tok mixed [34, 22, 25, 27, 30, 31, 24] 200 3 (Good.cons c1 (Good.cons c2 (Good.cons c3 (Good.cons c4 (Good.cons text_two (Good.cons parse_007 (Good.cons (s [21, 3]) (Good.cons (s [750000005]) (Good.cons (s [1]) (Good.cons (s [6]) Good.nil)))))))))) (by kernel_rfl)
end Go.Proofs.YtalklhbdpmggjaaDoor.Pw
namespace Go.Proofs.YtalklhbdpmggjaaDoor.Pw
open Go Wd Px Mat
set_option linter.unusedVariables false
set_option linter.unusedSimpArgs false
set_option maxRecDepth 100000
set_option maxHeartbeats 8000000
attribute [local irreducible] Int.tmod Int.tdiv
def fewS (a b : List Int) : Bool := decide ((a.length : Int) ≤ 100) && decide ((b.length : Int) ≤ 100)
theorem few02.c (a b : List Int) : Sound Tryd.prog 20 [N a, N b] (B (fewS a b)) := by
  unfold fewS
  by_cases h1 : (a.length : Int) ≤ 100 <;> by_cases h2 : (b.length : Int) ≤ 100
  all_goals
    simp only [h1, h2, decide_true, decide_false, Bool.false_and, Bool.true_and]
    refine Sound.of_WP tok Tryd.func20 rfl rfl ?_; simp only [Tryd.f20, args0, List.map, List.length_cons, List.length_nil, Nat.reduceAdd, Nat.reduceSub, List.replicate, List.cons_append, List.nil_append]
    repeat' (first | refine WP_seq ?_ | refine WP_block ?_ | refine regA 64 fun KQ hKQ => ?_ | refine regD 64 fun KQ hKQ => ?_ | refine opsA rfl rfl rfl rfl (nrmA ?_) | refine opsW_skip rfl (nrmA ?_) | (refine opsW_nil ⟨by kernel_rfl, hKQ _ _ _ (nrmB ?_)⟩; clear hKQ KQ) | (refine opsW_nil (hKQ _ _ _ (nrmB ?_)); clear hKQ KQ) | refine condT rfl ?_ | refine condF rfl ?_ | refine WP_skip (nrmB ?_) | refine WP_ret (nrmC ?_) | refine WP_exit (nrmC ?_))
    exact endA
theorem mul_cases (a b : List Int) : (mulS a b).2 = 0 ∨ (mulS a b).2 = 2 ∨ (mulS a b).2 = 3 := by
  unfold mulS Px.fitS; split <;> (try split) <;> simp
theorem add_cases (a b : List Int) : (addS a b).2 = 0 ∨ (addS a b).2 = 2 ∨ (addS a b).2 = 3 := by
  unfold addS Px.fitS; split <;> (try split) <;> simp
theorem sub_cases (a b : List Int) : (subS a b).2 = 0 ∨ (subS a b).2 = 1 ∨ (subS a b).2 = 3 := by
  unfold subS; split <;> (try split) <;> simp
theorem gcd_cases (a b : List Int) : (gcdS a b).2 = 0 ∨ (gcdS a b).2 = 3 := by
  unfold gcdS; split <;> simp
theorem div_cases (a b : List Int) : (divS a b).2.2 = 0 ∨ (divS a b).2.2 = 16 ∨ (divS a b).2.2 = 3 := by
  unfold divS; split <;> (try split) <;> simp
theorem cmp_cases (a b : List Int) : ncmpS a b = (-1, 0) ∨ ncmpS a b = (0, 0) ∨ ncmpS a b = (1, 0) ∨ ncmpS a b = (0, 3) := by
  unfold ncmpS cmpS; split <;> (try split) <;> (try split) <;> simp
theorem same02 (a : List Int) : Sound Tryd.prog 24 [N a, N a] (B true) := by
  have := ref_Same.c a a
  rwa [decide_eq_true rfl] at this
theorem NatProducts.c (a b : List Int) : Sound Tryd.prog 3 [N a, N b] (B true) := by
  have c0 := few02.c a b
  cases hf : fewS a b <;> rw [hf] at c0
  · exact runL tok mixed [20, 21] 100 3 (Good.cons c0 (Good.cons awake02.c Good.nil)) (by kernel_rfl)
  · have c1 := nat_Mul.c a b
    have c2 := ref_Mul.c a b
    have h := mul_cases a b
    generalize mulS a b = z at *
    obtain ⟨z, e⟩ := z
    have s := same02 z
    dsimp only at h
    rcases h with rfl | rfl | rfl
    all_goals exact runL tok mixed [20, 22, 23, 24, 21] 100 3 (Good.cons c0 (Good.cons c1 (Good.cons c2 (Good.cons s (Good.cons awake02.c Good.nil))))) (by kernel_rfl)
theorem NatQuotients.c (a b : List Int) : Sound Tryd.prog 4 [N a, N b] (B true) := by
  have c0 := few02.c a b
  cases hf : fewS a b <;> rw [hf] at c0
  · exact runL tok mixed [20, 21] 100 3 (Good.cons c0 (Good.cons awake02.c Good.nil)) (by kernel_rfl)
  · have c1 := nat_DivMod.c a b
    have c2 := ref_DivMod.c a b
    have h := div_cases a b
    generalize divS a b = z at *
    obtain ⟨q, r, e⟩ := z
    have s := same02 q
    have t := same02 r
    dsimp only at h
    rcases h with rfl | rfl | rfl
    all_goals exact runL tok mixed [20, 25, 26, 24, 21] 100 3 (Good.cons c0 (Good.cons c1 (Good.cons c2 (Good.cons s (Good.cons t (Good.cons awake02.c Good.nil)))))) (by kernel_rfl)
theorem NatCompares.c (a b : List Int) : Sound Tryd.prog 7 [N a, N b] (B true) := by
  have c0 := few02.c a b
  cases hf : fewS a b <;> rw [hf] at c0
  · exact runL tok mixed [20, 21] 100 3 (Good.cons c0 (Good.cons awake02.c Good.nil)) (by kernel_rfl)
  · have c1 := nat_Cmp.c a b
    have c2 := ref_Cmp.c a b
    rcases cmp_cases a b with h | h | h | h
    all_goals
      rw [h] at c1 c2
      exact runL tok mixed [20, 32, 33, 24, 21] 100 3 (Good.cons c0 (Good.cons c1 (Good.cons c2 (Good.cons awake02.c Good.nil)))) (by kernel_rfl)
theorem NatSums.c (a b : List Int) : Sound Tryd.prog 10 [N a, N b] (B true) := by
  have c0 := few02.c a b
  cases hf : fewS a b <;> rw [hf] at c0
  · exact runL tok mixed [20, 21] 100 3 (Good.cons c0 (Good.cons awake02.c Good.nil)) (by kernel_rfl)
  · have c1 := nat_Add.c a b
    have c2 := ref_Add.c a b
    have h := add_cases a b
    have c3 := nat_Sub.c a b
    have c4 := ref_Sub.c a b
    have h' := sub_cases a b
    generalize addS a b = z at *
    obtain ⟨z, e⟩ := z
    generalize subS a b = y at *
    obtain ⟨y, f⟩ := y
    have s := same02 z
    have t := same02 y
    dsimp only at h h'
    rcases h with rfl | rfl | rfl <;> rcases h' with rfl | rfl | rfl
    all_goals exact runL tok mixed [20, 41, 42, 43, 44, 24, 21] 100 3 (Good.cons c0 (Good.cons c1 (Good.cons c2 (Good.cons c3 (Good.cons c4 (Good.cons s (Good.cons t (Good.cons awake02.c Good.nil)))))))) (by kernel_rfl)
theorem NatDivisors.c (a b : List Int) : Sound Tryd.prog 5 [N a, N b] (B true) := by
  have c1 := nat_Gcd.c a b
  have c2 := ref_Gcd.c a b
  have h := gcd_cases a b
  generalize gcdS a b = z at *
  obtain ⟨z, e⟩ := z
  have s := same02 z
  dsimp only at h
  by_cases h1 : 12 < (a.length : Int)
  · refine Sound.of_WP tok Tryd.func5 rfl rfl ?_; simp only [Tryd.f5, args0, List.map, List.length_cons, List.length_nil, Nat.reduceAdd, Nat.reduceSub, List.replicate, List.cons_append, List.nil_append]
    repeat' (first | refine WP_seq ?_ | refine WP_block ?_ | refine regA 64 fun KQ hKQ => ?_ | refine regD 64 fun KQ hKQ => ?_ | refine opsA rfl rfl rfl rfl (nrmA ?_) | refine callA rfl rfl rfl (nrmA ?_) (hs := awake02.c) | refine opsW_skip rfl (nrmA ?_) | (refine opsW_nil ⟨by kernel_rfl, hKQ _ _ _ (nrmB ?_)⟩; clear hKQ KQ) | (refine opsW_nil (hKQ _ _ _ (nrmB ?_)); clear hKQ KQ) | refine condT rfl ?_ | refine condF rfl ?_ | refine WP_skip (nrmB ?_) | refine WP_ret (nrmC ?_) | refine WP_exit (nrmC ?_))
    exact endA
  · by_cases h2 : 12 < (b.length : Int)
    · refine Sound.of_WP tok Tryd.func5 rfl rfl ?_; simp only [Tryd.f5, args0, List.map, List.length_cons, List.length_nil, Nat.reduceAdd, Nat.reduceSub, List.replicate, List.cons_append, List.nil_append]
      repeat' (first | refine WP_seq ?_ | refine WP_block ?_ | refine regA 64 fun KQ hKQ => ?_ | refine regD 64 fun KQ hKQ => ?_ | refine opsA rfl rfl rfl rfl (nrmA ?_) | refine callA rfl rfl rfl (nrmA ?_) (hs := awake02.c) | refine opsW_skip rfl (nrmA ?_) | (refine opsW_nil ⟨by kernel_rfl, hKQ _ _ _ (nrmB ?_)⟩; clear hKQ KQ) | (refine opsW_nil (hKQ _ _ _ (nrmB ?_)); clear hKQ KQ) | refine condT rfl ?_ | refine condF rfl ?_ | refine WP_skip (nrmB ?_) | refine WP_ret (nrmC ?_) | refine WP_exit (nrmC ?_))
      exact endA
    · rcases h with rfl | rfl
      all_goals
        refine Sound.of_WP tok Tryd.func5 rfl rfl ?_; simp only [Tryd.f5, args0, List.map, List.length_cons, List.length_nil, Nat.reduceAdd, Nat.reduceSub, List.replicate, List.cons_append, List.nil_append]
        repeat' (first | refine WP_seq ?_ | refine WP_block ?_ | refine regA 64 fun KQ hKQ => ?_ | refine regD 64 fun KQ hKQ => ?_ | refine opsA rfl rfl rfl rfl (nrmA ?_) | refine callA rfl rfl rfl (nrmA ?_) (hs := c1) | refine callA rfl rfl rfl (nrmA ?_) (hs := c2) | refine callA rfl rfl rfl (nrmA ?_) (hs := s) | refine callA rfl rfl rfl (nrmA ?_) (hs := awake02.c) | refine opsW_skip rfl (nrmA ?_) | (refine opsW_nil ⟨by kernel_rfl, hKQ _ _ _ (nrmB ?_)⟩; clear hKQ KQ) | (refine opsW_nil (hKQ _ _ _ (nrmB ?_)); clear hKQ KQ) | refine condT rfl ?_ | refine condF rfl ?_ | refine WP_skip (nrmB ?_) | refine WP_ret (nrmC ?_) | refine WP_exit (nrmC ?_))
        exact endA
end Go.Proofs.YtalklhbdpmggjaaDoor.Pw
namespace Go.Proofs.YtalklhbdpmggjaaDoor.Pw
open Go Wd Px Mat
set_option linter.unusedVariables false
set_option linter.unusedSimpArgs false
set_option maxRecDepth 100000
set_option maxHeartbeats 8000000
attribute [local irreducible] Int.tmod Int.tdiv
def refInt_l0 : Nat → List Int → Int → Int → Option (Int × Int)
  | 0, _, _, _ => none
  | k + 1, a, n, i => if i ≥ 0 then (if n > 1125899 then some (0, 2) else (if 0 ≤ i then (if i < (a.length : Int) then refInt_l0 k a (wrap64 ((wrap64 (n * 1000000000)) + (rd a i))) (wrap64 (i - 1)) else none) else none)) else (if n > 1125899906842624 then some (0, 2) else some (n, 0))
def intS (a : List Int) : Int × Int := if okN a = true then (if 1125899906842624 < val a then (0, 2) else (val a, 0)) else (0, 3)
theorem ev_refInt (a : List Int) (ha : Ok a) : ∀ (d : Nat), d ≤ a.length → val (a.drop d) ≤ 1125899906842624 ∨ val (a.drop d) ≤ 1125900000000000000 → Ev (fun k => refInt_l0 k a (val (a.drop d)) ((d : Int) - 1)) (if 1125899906842624 < val a then (0, 2) else (val a, 0)) := by
  intro d
  induction d with
  | zero =>
    intro hd hb
    refine Ev.step (f := fun _ => some _) (fun k => ?_) (Ev.now _)
    simp only [refInt_l0]
    rw [if_neg (by omega), List.drop_zero]
    split <;> rfl
  | succ d ih =>
    intro hd hb
    have e1 : (((d + 1 : Nat) : Int) - 1) = d := by omega
    have hda := val_drop (l := a) (i := (d : Int)) (by omega) (by omega)
    have ed : ((d : Int)).toNat = d := by omega
    rw [ed] at hda
    have h1 := val_nonneg (ha.2.1.drop (d + 1))
    have hr := ha.2.1.rd d
    have hl := ha.1
    by_cases hn : val (a.drop (d + 1)) > 1125899
    · have hs := val_split a (d + 1) (by omega)
      have h0 := val_nonneg (ha.2.1.take (d + 1))
      have hp : (1000000000 : Int) ≤ pw (d + 1) := by have := pw_le (m := 1) (n := d + 1) (by omega); rwa [pw_one] at this
      have hm : 1000000000 * 1125900 ≤ pw (d + 1) * val (a.drop (d + 1)) := Int.mul_le_mul hp (by omega) (by omega) (by omega)
      refine Ev.step (f := fun _ => some _) (fun k => ?_) (Ev.now _)
      simp only [refInt_l0]
      rw [e1, if_pos (by omega), if_pos hn, if_pos (by omega)]
    · refine Ev.step (fun k => ?_) (ih (by omega) (.inr (by omega)))
      simp only [refInt_l0]
      rw [e1, if_pos (by omega), if_neg hn, if_pos (by omega), if_pos (by omega), w64 (x := val (a.drop (d + 1)) * 1000000000) (by omega) (by omega), w64 (by omega) (by omega), w64 (x := (d : Int) - 1) (by omega) (by omega), hda]
      congr 1; omega
theorem ref_Int.snd (k : Nat) (a : List Int) (r e : Int) (h : refInt_l0 k a 0 (wrap64 ((a.length : Int) - 1)) = some (r, e)) (hv : okN a = true) : Sound Tryd.prog 37 [N a] (.tup [I r, I e]) := by
  have c1 := ref_Valid.c a
  rw [hv] at c1
  refine Sound.of_WP tok Tryd.func37 rfl rfl ?_; simp only [Tryd.f37, args0, List.map, List.length_cons, List.length_nil, Nat.reduceAdd, Nat.reduceSub, List.replicate, List.cons_append, List.nil_append]
  repeat' (first | refine WP_seq ?_ | refine WP_block ?_ | refine regA 64 fun KQ hKQ => ?_ | refine regD 64 fun KQ hKQ => ?_ | refine opsA rfl rfl rfl rfl (nrmA ?_) | refine callA rfl rfl rfl (nrmA ?_) (hs := c1) | refine opsW_skip rfl (nrmA ?_) | (refine opsW_nil ⟨by kernel_rfl, hKQ _ _ _ (nrmB ?_)⟩; clear hKQ KQ) | (refine opsW_nil (hKQ _ _ _ (nrmB ?_)); clear hKQ KQ) | refine condT rfl ?_ | refine condF rfl ?_ | refine WP_skip (nrmB ?_) | refine WP_ret (nrmC ?_) | refine WP_exit (nrmC ?_))
  refine WP_loop (WPL_weaken ?_ (WPL_rec (α := Int × Int) (fun k x => refInt_l0 k a x.1 x.2) (r, e) (fun x => (mkE 28 [(0, .p (N a)), (4, .p (I x.1)), (5, .p (I x.2))], [], 0)) ?_ k (_, _) h))
  · exact wkA
  · clear h; try clear k
    intro k ⟨x1, x2⟩ K ih h
    simp only [mkE, List.replicate, List.foldl, List.set]
    cases k with
    | zero => simp [refInt_l0] at h
    | succ k =>
      simp only [refInt_l0] at h
      repeat' (first | (simp only [if_true, if_false, Bool.false_eq_true, Bool.not_true, Bool.not_false, reduceIte] at h) | (split at h) | (rw [Option.bind_eq_some_iff] at h; obtain ⟨_, hbb, h⟩ := h; try (simp only [Option.some.injEq] at hbb; subst hbb)) | (cases h; done) | (simp only [Option.some.injEq, Prod.mk.injEq] at h; subst h) | (simp only [Option.some.injEq, Prod.mk.injEq] at h; (have h1 := h.1; have h2 := h.2; clear h; subst h1; first | subst h2 | (obtain ⟨h3, h4⟩ := h2; subst h3; subst h4))))
      all_goals
        repeat' (first | refine WP_seq ?_ | refine WP_block ?_ | refine regA 64 fun KQ hKQ => ?_ | refine regD 64 fun KQ hKQ => ?_ | refine opsA rfl rfl rfl rfl (nrmA ?_) | refine opsW_skip rfl (nrmA ?_) | (refine opsW_nil ⟨by kernel_rfl, hKQ _ _ _ (nrmB ?_)⟩; clear hKQ KQ) | (refine opsW_nil (hKQ _ _ _ (nrmB ?_)); clear hKQ KQ) | refine condT rfl ?_ | refine condF rfl ?_ | refine WP_skip (nrmB ?_) | refine WP_ret (nrmC ?_) | refine WP_exit (nrmC ?_))
        first
        | exact endA
        | (refine ih _ _ _ _ (_, _) (Nat.lt_succ_self _) h ?_; exact wkA)
theorem ref_Int.c (a : List Int) : Sound Tryd.prog 37 [N a] (.tup [I (intS a).1, I (intS a).2]) := by
  unfold intS
  by_cases ha : okN a = true
  · rw [if_pos ha]
    have hk := okN_iff.1 ha
    have e := ev_refInt a hk a.length (Nat.le_refl _) (.inl (by simp [val]))
    rw [List.drop_length] at e
    have hl := hk.1
    rw [show (a.length : Int) - 1 = wrap64 ((a.length : Int) - 1) from (w64 (by omega) (by omega)).symm] at e
    exact e.rounds.elim fun k h => ref_Int.snd k a _ _ h ha
  · rw [if_neg ha]
    have c1 := ref_Valid.c a
    replace ha : okN a = false := by simpa using ha
    rw [ha] at c1
    refine Sound.of_WP tok Tryd.func37 rfl rfl ?_; simp only [Tryd.f37, args0, List.map, List.length_cons, List.length_nil, Nat.reduceAdd, Nat.reduceSub, List.replicate, List.cons_append, List.nil_append]
    repeat' (first | refine WP_seq ?_ | refine WP_block ?_ | refine regA 64 fun KQ hKQ => ?_ | refine regD 64 fun KQ hKQ => ?_ | refine opsA rfl rfl rfl rfl (nrmA ?_) | refine callA rfl rfl rfl (nrmA ?_) (hs := c1) | refine opsW_skip rfl (nrmA ?_) | (refine opsW_nil ⟨by kernel_rfl, hKQ _ _ _ (nrmB ?_)⟩; clear hKQ KQ) | (refine opsW_nil (hKQ _ _ _ (nrmB ?_)); clear hKQ KQ) | refine condT rfl ?_ | refine condF rfl ?_ | refine WP_skip (nrmB ?_) | refine WP_ret (nrmC ?_) | refine WP_exit (nrmC ?_))
    exact endA
end Go.Proofs.YtalklhbdpmggjaaDoor.Pw
namespace Go.Proofs.YtalklhbdpmggjaaDoor.Pw
open Go Wd Px Mat
set_option linter.unusedVariables false
set_option linter.unusedSimpArgs false
set_option maxRecDepth 100000
set_option maxHeartbeats 8000000
attribute [local irreducible] Int.tmod Int.tdiv
theorem nat_small.c (a : List Int) (ha : Dig a) (hl : a.length ≤ 2) : Sound Tryd.prog 83 [N a] (I (val a)) := (ev_small a ha hl).rounds.elim fun k h => nat_small.snd k a _ h
theorem nat_Int.c (a : List Int) : Sound Tryd.prog 36 [N a] (.tup [I (intS a).1, I (intS a).2]) := by
  have c1 := nat_Valid.c a
  unfold intS
  by_cases ha : okN a = true
  · rw [ha] at c1
    rw [if_pos ha]
    by_cases hl : 2 < a.length
    · have hl' : (2 : Int) < a.length := by omega
      have hb : 1125899906842624 < val a := by
        have := len_le (okN_iff.1 ha).2 (n := 2)
        rw [pw_two] at this; omega
      rw [if_pos hb]
      refine Sound.of_WP tok Tryd.func36 rfl rfl ?_; simp only [Tryd.f36, args0, List.map, List.length_cons, List.length_nil, Nat.reduceAdd, Nat.reduceSub, List.replicate, List.cons_append, List.nil_append]
      repeat' (first | refine WP_seq ?_ | refine WP_block ?_ | refine regA 64 fun KQ hKQ => ?_ | refine regD 64 fun KQ hKQ => ?_ | refine opsA rfl rfl rfl rfl (nrmA ?_) | refine callA rfl rfl rfl (nrmA ?_) (hs := c1) | refine opsW_skip rfl (nrmA ?_) | (refine opsW_nil ⟨by kernel_rfl, hKQ _ _ _ (nrmB ?_)⟩; clear hKQ KQ) | (refine opsW_nil (hKQ _ _ _ (nrmB ?_)); clear hKQ KQ) | refine condT rfl ?_ | refine condF rfl ?_ | refine WP_skip (nrmB ?_) | refine WP_ret (nrmC ?_) | refine WP_exit (nrmC ?_))
      exact endA
    · have hl' : ¬ (2 : Int) < a.length := by omega
      have c2 := nat_small.c a (okN_iff.1 ha).2.1 (by omega)
      by_cases hv : 1125899906842624 < val a
      · rw [if_pos hv]
        refine Sound.of_WP tok Tryd.func36 rfl rfl ?_; simp only [Tryd.f36, args0, List.map, List.length_cons, List.length_nil, Nat.reduceAdd, Nat.reduceSub, List.replicate, List.cons_append, List.nil_append]
        repeat' (first | refine WP_seq ?_ | refine WP_block ?_ | refine regA 64 fun KQ hKQ => ?_ | refine regD 64 fun KQ hKQ => ?_ | refine opsA rfl rfl rfl rfl (nrmA ?_) | refine callA rfl rfl rfl (nrmA ?_) (hs := c1) | refine callA rfl rfl rfl (nrmA ?_) (hs := c2) | refine opsW_skip rfl (nrmA ?_) | (refine opsW_nil ⟨by kernel_rfl, hKQ _ _ _ (nrmB ?_)⟩; clear hKQ KQ) | (refine opsW_nil (hKQ _ _ _ (nrmB ?_)); clear hKQ KQ) | refine condT rfl ?_ | refine condF rfl ?_ | refine WP_skip (nrmB ?_) | refine WP_ret (nrmC ?_) | refine WP_exit (nrmC ?_))
        exact endA
      · rw [if_neg hv]
        refine Sound.of_WP tok Tryd.func36 rfl rfl ?_; simp only [Tryd.f36, args0, List.map, List.length_cons, List.length_nil, Nat.reduceAdd, Nat.reduceSub, List.replicate, List.cons_append, List.nil_append]
        repeat' (first | refine WP_seq ?_ | refine WP_block ?_ | refine regA 64 fun KQ hKQ => ?_ | refine regD 64 fun KQ hKQ => ?_ | refine opsA rfl rfl rfl rfl (nrmA ?_) | refine callA rfl rfl rfl (nrmA ?_) (hs := c1) | refine callA rfl rfl rfl (nrmA ?_) (hs := c2) | refine opsW_skip rfl (nrmA ?_) | (refine opsW_nil ⟨by kernel_rfl, hKQ _ _ _ (nrmB ?_)⟩; clear hKQ KQ) | (refine opsW_nil (hKQ _ _ _ (nrmB ?_)); clear hKQ KQ) | refine condT rfl ?_ | refine condF rfl ?_ | refine WP_skip (nrmB ?_) | refine WP_ret (nrmC ?_) | refine WP_exit (nrmC ?_))
        exact endA
  · rw [if_neg ha]
    replace ha : okN a = false := by simpa using ha
    rw [ha] at c1
    refine Sound.of_WP tok Tryd.func36 rfl rfl ?_; simp only [Tryd.f36, args0, List.map, List.length_cons, List.length_nil, Nat.reduceAdd, Nat.reduceSub, List.replicate, List.cons_append, List.nil_append]
    repeat' (first | refine WP_seq ?_ | refine WP_block ?_ | refine regA 64 fun KQ hKQ => ?_ | refine regD 64 fun KQ hKQ => ?_ | refine opsA rfl rfl rfl rfl (nrmA ?_) | refine callA rfl rfl rfl (nrmA ?_) (hs := c1) | refine opsW_skip rfl (nrmA ?_) | (refine opsW_nil ⟨by kernel_rfl, hKQ _ _ _ (nrmB ?_)⟩; clear hKQ KQ) | (refine opsW_nil (hKQ _ _ _ (nrmB ?_)); clear hKQ KQ) | refine condT rfl ?_ | refine condF rfl ?_ | refine WP_skip (nrmB ?_) | refine WP_ret (nrmC ?_) | refine WP_exit (nrmC ?_))
    exact endA
end Go.Proofs.YtalklhbdpmggjaaDoor.Pw
namespace Go.Proofs.YtalklhbdpmggjaaDoor.Pw
open Go Go.RowKit
/-- What a run leans on: a call's contract, or a condition's truth (the n-th condition behind what was told before). -/
inductive Ob where
  | call (g : Nat) (ps : List PV) (r : PV)
  | br (n : Nat) (t v : Bool)
  | enter
  | own (g : Nat) (ps : List PV) (e : Nat → Eff)
  | val (n : Nat) (t z : Int)
inductive Tk where
  | r (x : PV)
  | b (k n : Nat) (v : Bool)
  | e
  | f (e : Nat → Eff)
  | z (k n : Nat) (z : Int)
def Ob.holds (P : Program) : Ob → Prop
  | .call g ps r => Sound P g ps r
  | .br _ t v => t = v
  | .enter => True
  | .val _ t z => t = z
  | .own g ps e => ∀ (σ : Store) (new : Nat), SoundE P 64 g (ps.map .p) σ new (e new)
def Ob.tk : Ob → Tk
  | .call _ _ r => .r r
  | .br n _ v => .b n n v
  | .enter => .e
  | .own _ _ e => .f e
  | .val n _ z => .z n n z
abbrev CallY := Nat → List AV → Stores → Nat → List Tk → Option (Eff × List Tk × List Ob)
def CallYK (P : Program) (D : Nat) (cx : CallY) : Prop := ∀ g args st new tp r, cx g args st new tp = some r → (∀ c ∈ r.2.2, c.holds P) → SoundE P D g args (get st) new r.1
def isBin : Op → Bool
  | .binOp .. => true
  | _ => false
/-- A comparison's truth may be told. -/
def asks (op : Op) (e : Eff) (tp : List Tk) : Eff × List Tk × List Ob :=
  match isBin op, e.val, tp with
  | true, .p (.v (.bool t)), .b 0 n v :: tp => (⟨.p (.v (.bool v)), e.upd, e.rd⟩, tp, [.br n t v])
  | true, .p (.v (.bool _)), .b (k + 1) n v :: tp => (e, .b k n v :: tp, [])
  | true, .p (.v (.int kd t)), .z 0 n z :: tp => (⟨.p (.v (.int kd z)), e.upd, e.rd⟩, tp, [.val n t z])
  | true, .p (.v (.int _ _)), .z (k + 1) n z :: tp => (e, .z k n z :: tp, [])
  | _, _, tp => (e, tp, [])
theorem asks_same {P : Program} {op : Op} {e : Eff} {tp : List Tk} (h : ∀ c ∈ (asks op e tp).2.2, c.holds P) : (asks op e tp).1 = e := by
  unfold asks at *
  split
  · rename_i t n v tp' hb hv
    rw [hb] at h
    simp only [hv] at h
    have e1 : t = v := h (.br n t v) (by simp)
    subst e1
    cases e; simp only at hv; subst hv; rfl
  · rfl
  · rename_i kd t n z tp' hb hv
    rw [hb] at h
    simp only [hv] at h
    have e1 : t = z := h (.val n t z) (by simp)
    subst e1
    cases e; simp only at hv; subst hv; rfl
  · rfl
  · rfl
def stepY (cx : CallY) (T : Tab) (ops : List Oper) (o : Oper) (new : Nat) (env : List AV) (st : Stores) (tp : List Tk) : Option (Eff × List Tk × List Ob) :=
  match wantA ops env o with
  | some true => match o.op with
    | .call { callee := .value f, args, argTypes := _ } => match ev env f with
      | .fn g caps => cx g (args.toList.map (ev env) ++ caps) st new tp
      | _ => none
    | op => match popB T op (ev env) (get st) new with
      | some (e, true) => some (asks op e tp)
      | _ => none
  | some false => some (⟨.p (.tup []), [], []⟩, tp, [])
  | none => none
def opsY (cx : CallY) (T : Tab) (D : Nat) (ops : List Oper) (nx : Nat) : List Oper → Nat → List AV → Stores → List Eff → List Tk → List Ob → Option (List AV × Stores × List Eff × List Tk × List Ob)
  | [], _, env, st, acc, tp, lg => some (env, st, acc, tp, lg)
  | o :: r, i, env, st, acc, tp, lg => match stepY cx T ops o (nx + D * i) env st tp with
    | some (e, tp, l1) => if e.upd.all (fun x => Nat.blt x.1 (nx + D * (i + 1))) then opsY cx T D ops nx r (i + 1) (setD env o.dst e.val) (puts st e.upd) (e :: acc) tp (lg ++ l1) else none
    | none => none
theorem stepY_sound {P : Program} {T : Tab} {D : Nat} {cx : CallY} (hcx : CallYK P D cx) {ops : List Oper} {o : Oper} {new : Nat} {env : List AV} {st : Stores} {tp : List Tk} {r : Eff × List Tk × List Ob}
    (h : stepY cx T ops o new env st tp = some r) (hg : ∀ c ∈ r.2.2, c.holds P) {K : Eff → Prop} (hK : K r.1) : stepW P T D ops o new env (get st) K := by
  unfold stepY at h
  unfold stepW
  split at h
  · rename_i hw
    rw [hw]
    dsimp only
    split at h
    · rename_i f args ts ho
      split at h
      · rename_i g caps hf
        rw [ho]
        simp only [hf]
        exact ⟨r.1, hcx _ _ _ _ _ _ h hg, hK⟩
      · cases h
    · rename_i hno
      split at h
      · rename_i e' hp
        injection h with h; subst h
        rw [asks_same hg] at hK
        split
        · rename_i f args ts ho; exact absurd ho (hno _ _ _)
        · rw [pop_eq, hp]
          exact ⟨rfl, hK⟩
      · cases h
  · rename_i hw
    rw [hw]
    injection h with h; subst h; exact hK
  · cases h
theorem opsY_log {T : Tab} {D : Nat} {cx : CallY} {ops : List Oper} {nx : Nat} : ∀ (l : List Oper) (i : Nat) (env : List AV) (st : Stores) (acc : List Eff) (tp : List Tk) (lg : List Ob) (r : List AV × Stores × List Eff × List Tk × List Ob),
    opsY cx T D ops nx l i env st acc tp lg = some r → ∀ c ∈ lg, c ∈ r.2.2.2.2
  | [], i, env, st, acc, tp, lg, r, h => by
    simp only [opsY, Option.some.injEq] at h; subst h; exact fun _ h => h
  | o :: l, i, env, st, acc, tp, lg, r, h => by
    simp only [opsY] at h
    split at h
    · split at h
      · exact fun c hc => opsY_log l _ _ _ _ _ _ r h c (List.mem_append_left _ hc)
      · cases h
    · cases h
theorem opsY_sound {P : Program} {T : Tab} {D : Nat} {cx : CallY} (hcx : CallYK P D cx) {ops : List Oper} {nx : Nat} {K : List AV → Stores → List Eff → Prop} :
    ∀ (l : List Oper) (i : Nat) (env : List AV) (st : Stores) (acc : List Eff) (tp : List Tk) (lg : List Ob) (r : List AV × Stores × List Eff × List Tk × List Ob), opsY cx T D ops nx l i env st acc tp lg = some r → (∀ c ∈ r.2.2.2.2, c.holds P) → K r.1 r.2.1 r.2.2.1 → opsW P T D ops nx l i env st acc K
  | [], i, env, st, acc, tp, lg, r, h, hg, hK => by
    simp only [opsY, Option.some.injEq] at h; subst h; exact hK
  | o :: l, i, env, st, acc, tp, lg, r, h, hg, hK => by
    simp only [opsY] at h
    split at h
    · rename_i e tp' l1 he
      split at h
      · rename_i hb
        exact stepY_sound hcx he (fun c hc => hg c (opsY_log l _ _ _ _ _ _ r h c (List.mem_append_right _ hc))) ⟨hb, opsY_sound hcx l _ _ _ _ _ _ r h hg hK⟩
      · cases h
    · cases h
structure OutY where
  x : X
  env : List AV
  st : Stores
  nx : Nat
  wr : List Nat
  tp : List Tk
  lg : List Ob
def execY (T : Tab) (D base : Nat) (cx : CallY) : Nat → Code → List AV → Stores → Nat → List Nat → List Tk → List Ob → Option OutY
  | 0, _, _, _, _, _, _, _ => none
  | n + 1, c, env, st, nx, wr, tp, lg => match c with
    | .skip => some ⟨.normal, env, st, nx, wr, tp, lg⟩
    | .exit id => some ⟨.exit id, env, st, nx, wr, tp, lg⟩
    | .ret => some ⟨.ret, env, st, nx, wr, tp, lg⟩
    | .seq a b => match execY T D base cx n a env st nx wr tp lg with
      | some ⟨.normal, env, st, nx, wr, tp, lg⟩ => execY T D base cx n b env st nx wr tp lg
      | r => r
    | .cond c a b => match ev env c with
      | .p (.v (.bool t)) => match t with
        | true => execY T D base cx n a env st nx wr tp lg
        | false => execY T D base cx n b env st nx wr tp lg
      | _ => none
    | .block id c => match execY T D base cx n c env st nx wr tp lg with
      | some ⟨.exit i, env, st, nx, wr, tp, lg⟩ => if i = id then some ⟨.normal, env, st, nx, wr, tp, lg⟩ else some ⟨.exit i, env, st, nx, wr, tp, lg⟩
      | r => r
    | .loop c => match execY T D base cx n c env st nx wr tp lg with
      | some ⟨.normal, env, st, nx, wr, tp, lg⟩ => execY T D base cx n (.loop c) env st nx wr tp lg
      | r => r
    | .region _ ops draw => match opsY cx T D ops.toList nx ops.toList 0 env st [] tp lg with
      | some (env, st, acc, tp, lg) => if !draw || (lexOK ops (befs ops.toList []) && effsOK D nx (befs ops.toList []) (acc.reverse.map fun e => (e.upd.map (·.1), e.rd))) then some ⟨.normal, env, st, nx + D * ops.size, addW base wr acc, tp, lg⟩ else none
      | none => none
    | _ => none
theorem execY_log {T : Tab} {D : Nat} {cx : CallY} {B : Nat} : ∀ (n : Nat) (c : Code) (env : List AV) (st : Stores) (nx : Nat) (wr : List Nat) (tp : List Tk) (lg : List Ob) (o : OutY), execY T D B cx n c env st nx wr tp lg = some o → ∀ c ∈ lg, c ∈ o.lg := by
  intro n
  induction n with
  | zero => intro c env st nx wr tp lg o h; simp [execY] at h
  | succ n ih =>
    intro c env st nx wr tp lg o h
    cases c with
    | skip => simp only [execY, Option.some.injEq] at h; subst h; exact fun _ h => h
    | exit id => simp only [execY, Option.some.injEq] at h; subst h; exact fun _ h => h
    | ret => simp only [execY, Option.some.injEq] at h; subst h; exact fun _ h => h
    | seq a b =>
      simp only [execY] at h
      split at h
      · rename_i h1; exact fun c hc => ih _ _ _ _ _ _ _ _ h c (ih _ _ _ _ _ _ _ _ h1 c hc)
      · exact ih _ _ _ _ _ _ _ _ h
    | cond c a b =>
      simp only [execY] at h
      split at h
      · rename_i t hc
        cases t <;> exact ih _ _ _ _ _ _ _ _ h
      · cases h
    | block id c =>
      simp only [execY] at h
      split at h
      · rename_i h1
        have := ih _ _ _ _ _ _ _ _ h1
        split at h <;> (injection h with h; subst h; exact this)
      · exact ih _ _ _ _ _ _ _ _ h
    | loop c =>
      simp only [execY] at h
      split at h
      · rename_i h1; exact fun c hc => ih _ _ _ _ _ _ _ _ h c (ih _ _ _ _ _ _ _ _ h1 c hc)
      · exact ih _ _ _ _ _ _ _ _ h
    | region id ops draw =>
      simp only [execY] at h
      split at h
      · rename_i h1
        split at h
        · injection h with h; subst h
          exact opsY_log _ _ _ _ _ _ _ _ h1
        · cases h
      · cases h
    | _ => simp [execY] at h
section
variable {P : Program} {T : Tab} {D base : Nat} {cx : CallY}
theorem execY_sound (hT : TOK P T) (hm : P.follows .mixedOrders = true) (hD : 0 < D) (hcx : CallYK P D cx) {B : Nat} :
    ∀ (n : Nat), (∀ (c : Code) (env : List AV) (st : Stores) (nx : Nat) (wr : List Nat) (tp : List Tk) (lg : List Ob) (o : OutY) (Q : PostA), execY T D B cx n c env st nx wr tp lg = some o → (∀ c ∈ o.lg, c.holds P) → Q o.x o.env o.st o.nx → WP P base c Q env st nx) ∧
      ∀ (c : Code) (env : List AV) (st : Stores) (nx : Nat) (wr : List Nat) (tp : List Tk) (lg : List Ob) (o : OutY) (Q : PostA), execY T D B cx n (.loop c) env st nx wr tp lg = some o → (∀ c ∈ o.lg, c.holds P) → Q o.x o.env o.st o.nx → WPL P base c Q env st nx := by
  intro n
  induction n with
  | zero => exact ⟨fun c env st nx wr tp lg o Q h => by simp [execY] at h, fun c env st nx wr tp lg o Q h => by simp [execY] at h⟩
  | succ n ihh =>
    obtain ⟨ih, ihL⟩ := ihh
    have loop : ∀ (c : Code) (env : List AV) (st : Stores) (nx : Nat) (wr : List Nat) (tp : List Tk) (lg : List Ob) (o : OutY) (Q : PostA), execY T D B cx (n + 1) (.loop c) env st nx wr tp lg = some o → (∀ c ∈ o.lg, c.holds P) → Q o.x o.env o.st o.nx → WPL P base c Q env st nx := by
      intro c env st nx wr tp lg o Q h hg hQ
      simp only [execY] at h
      split at h
      · rename_i env1 st1 nx1 wr1 tp1 lg1 h1
        exact WPL_unroll (ih _ _ _ _ _ _ _ _ _ h1 (fun c hc => hg c (execY_log _ _ _ _ _ _ _ _ _ h c hc)) (ihL _ _ _ _ _ _ _ _ _ h hg hQ))
      · rename_i hno
        refine WPL_unroll (ih _ _ _ _ _ _ _ _ _ h hg ?_)
        unfold loopK
        split
        · rename_i hx
          obtain ⟨x, e1, s1, n1, w1, t1, g1⟩ := o
          simp only at hx; subst hx
          exact absurd h (hno _ _ _ _ _ _)
        · exact hQ
    refine ⟨?_, loop⟩
    intro c env st nx wr tp lg o Q h hg hQ
    cases c with
    | skip => simp only [execY, Option.some.injEq] at h; subst h; exact WP_skip hQ
    | exit id => simp only [execY, Option.some.injEq] at h; subst h; exact WP_exit hQ
    | ret => simp only [execY, Option.some.injEq] at h; subst h; exact WP_ret hQ
    | seq a b =>
      simp only [execY] at h
      split at h
      · rename_i env1 st1 nx1 wr1 tp1 lg1 h1
        exact WP_seq (ih _ _ _ _ _ _ _ _ _ h1 (fun c hc => hg c (execY_log _ _ _ _ _ _ _ _ _ h c hc)) (ih _ _ _ _ _ _ _ _ _ h hg hQ))
      · rename_i hno
        refine WP_seq (ih _ _ _ _ _ _ _ _ _ h hg ?_)
        unfold seqK
        split
        · rename_i hx
          obtain ⟨x, e1, s1, n1, w1, t1, g1⟩ := o
          simp only at hx; subst hx
          exact absurd h (hno _ _ _ _ _ _)
        · exact hQ
    | cond c a b =>
      simp only [execY] at h
      split at h
      · rename_i t hc
        cases t
        · exact WP_cond hc (by simpa using ih _ _ _ _ _ _ _ _ _ h hg hQ)
        · exact WP_cond hc (by simpa using ih _ _ _ _ _ _ _ _ _ h hg hQ)
      · cases h
    | block id c =>
      simp only [execY] at h
      split at h
      · rename_i i env1 st1 nx1 wr1 tp1 lg1 h1
        refine WP_block (ih _ _ _ _ _ _ _ _ _ h1 ?_ ?_)
        · split at h <;> (injection h with h; subst h; exact hg)
        simp only [blockK]
        split at h
        · rename_i e; rw [if_pos e]; injection h with h; subst h; exact hQ
        · rename_i e; rw [if_neg e]; injection h with h; subst h; exact hQ
      · rename_i hno
        refine WP_block (ih _ _ _ _ _ _ _ _ _ h hg ?_)
        unfold blockK
        split
        · rename_i i hx
          obtain ⟨x, e1, s1, n1, w1, t1, g1⟩ := o
          simp only at hx; subst hx
          exact absurd h (hno _ _ _ _ _ _ _)
        · exact hQ
    | loop c => exact WP_loop (loop _ _ _ _ _ _ _ _ _ h hg hQ)
    | region id ops draw =>
      simp only [execY] at h
      split at h
      · rename_i env1 st1 acc tp1 lg1 h1
        split at h
        · rename_i hb
          injection h with h; subst h
          simp only [Bool.or_eq_true, Bool.not_eq_true', Bool.and_eq_true] at hb
          refine WP_region hT hm hD (fun hd => ?_) (opsY_sound hcx _ _ _ _ _ _ _ _ h1 hg ⟨fun hd => ?_, hQ⟩)
          · rcases hb with hb | hb
            · rw [hd] at hb; cases hb
            · exact hb.1
          · rcases hb with hb | hb
            · rw [hd] at hb; cases hb
            · exact hb.2
        · cases h
      · cases h
    | _ => simp [execY] at h
end
end Go.Proofs.YtalklhbdpmggjaaDoor.Pw
namespace Go.Proofs.YtalklhbdpmggjaaDoor.Pw
open Go Go.RowKit
theorem opsY_inv {T : Tab} {D : Nat} {cx : CallY} {ops : List Oper} {nx : Nat} : ∀ (l : List Oper) (i : Nat) (env : List AV) (st : Stores) (acc : List Eff) (tp : List Tk) (lg : List Ob) (r : List AV × Stores × List Eff × List Tk × List Ob), opsY cx T D ops nx l i env st acc tp lg = some r →
    ∃ es, r.2.2.1 = es ++ acc ∧ ∀ b, (∀ e ∈ es, ∀ x ∈ e.upd, x.1 ≠ b) → get r.2.1 b = get st b
  | [], i, env, st, acc, tp, lg, r, h => by
    simp only [opsY, Option.some.injEq] at h; subst h; exact ⟨[], rfl, fun _ _ => rfl⟩
  | o :: l, i, env, st, acc, tp, lg, r, h => by
    simp only [opsY] at h
    split at h
    · rename_i e tp' l1 he
      split at h
      · obtain ⟨es, h1, h2⟩ := opsY_inv l _ _ _ _ _ _ r h
        refine ⟨es ++ [e], by rw [h1]; simp, fun b hb => ?_⟩
        rw [h2 b fun e' he' => hb e' (by simp [he']), get_puts]
        exact upds_other _ _ _ (hb e (by simp))
      · cases h
    · cases h
theorem execY_inv {T : Tab} {D : Nat} {cx : CallY} {B : Nat} : ∀ (n : Nat) (c : Code) (env : List AV) (st : Stores) (nx : Nat) (wr : List Nat) (tp : List Tk) (lg : List Ob) (o : OutY), execY T D B cx n c env st nx wr tp lg = some o →
    (∀ b, b ∈ wr → b ∈ o.wr) ∧ ∀ b, b < B → b ∉ o.wr → get o.st b = get st b := by
  intro n
  induction n with
  | zero => intro c env st nx wr tp lg o h; simp [execY] at h
  | succ n ih =>
    intro c env st nx wr tp lg o h
    have two : ∀ {c1 c2 : Code} {env1 st1 nx1 wr1 tp1 lg1 x}, execY T D B cx n c1 env st nx wr tp lg = some ⟨x, env1, st1, nx1, wr1, tp1, lg1⟩ → execY T D B cx n c2 env1 st1 nx1 wr1 tp1 lg1 = some o → (∀ b, b ∈ wr → b ∈ o.wr) ∧ ∀ b, b < B → b ∉ o.wr → get o.st b = get st b := fun h1 h2 => by
      obtain ⟨a1, a2⟩ := ih _ _ _ _ _ _ _ _ h1
      obtain ⟨b1, b2⟩ := ih _ _ _ _ _ _ _ _ h2
      exact ⟨fun b hb => b1 b (a1 b hb), fun b hb hn => (b2 b hb hn).trans (a2 b hb fun hm => hn (b1 b hm))⟩
    cases c with
    | skip => simp only [execY, Option.some.injEq] at h; subst h; exact ⟨fun _ h => h, fun _ _ _ => rfl⟩
    | exit id => simp only [execY, Option.some.injEq] at h; subst h; exact ⟨fun _ h => h, fun _ _ _ => rfl⟩
    | ret => simp only [execY, Option.some.injEq] at h; subst h; exact ⟨fun _ h => h, fun _ _ _ => rfl⟩
    | seq a b =>
      simp only [execY] at h
      split at h
      · rename_i h1; exact two h1 h
      · exact ih _ _ _ _ _ _ _ _ h
    | cond c a b =>
      simp only [execY] at h
      split at h
      · rename_i t hc
        cases t <;> exact ih _ _ _ _ _ _ _ _ h
      · cases h
    | block id c =>
      simp only [execY] at h
      split at h
      · rename_i i env1 st1 nx1 wr1 tp1 lg1 h1
        have := ih _ _ _ _ _ _ _ _ h1
        split at h <;> (injection h with h; subst h; exact this)
      · exact ih _ _ _ _ _ _ _ _ h
    | loop c =>
      simp only [execY] at h
      split at h
      · rename_i h1; exact two h1 h
      · exact ih _ _ _ _ _ _ _ _ h
    | region id ops draw =>
      simp only [execY] at h
      split at h
      · rename_i env1 st1 acc tp1 lg1 h1
        split at h
        · injection h with h; subst h
          obtain ⟨es, e1, e2⟩ := opsY_inv _ _ _ _ _ _ _ _ h1
          simp only [List.append_nil] at e1
          subst e1
          obtain ⟨w1, w2⟩ := addW_spec B acc wr
          exact ⟨w1, fun b hb hn => e2 b fun e he x hx hxb => hn (hxb ▸ w2 e he x hx (by omega))⟩
        · cases h
      · cases h
    | _ => simp [execY] at h
def finY (T : Tab) (fuel l : Nat) (fn : Func) (st0 : Stores) (keys : List Nat) (new : Nat) (o : OutY) : Option Eff :=
  match o.x with
  | .exit _ => none
  | _ => if Nat.ble o.nx (new + Dl l) then match resAllB T o.env (get o.st) fn.results.toList with
    | some avs =>
      match (((reach fuel o.st (refsL avs ++ o.wr) []).filter (fun b => Nat.ble new b)) ++ o.wr).map fun b => (b, get o.st b) with
      | u => if u.all (fun x => ((get st0 x.1).isSome || Nat.ble new x.1) && Nat.blt x.1 (new + Dl l)) then some ⟨pack avs, u, keys⟩ else none
    | none => none
    else none
theorem SoundE.mono {P : Program} {D D' f : Nat} {args : List AV} {σ : Store} {new : Nat} {e : Eff} (hD : D ≤ D') (h : SoundE P D f args σ new e) : SoundE P D' f args σ new e :=
  ⟨h.1, fun F μ st W vs hrd hS hG hnew hl hv => (h.2 F μ st W vs hrd hS hG (fun i hi => hnew i (Nat.lt_of_lt_of_le hi hD)) hl hv).mono fun en W' ⟨v, μ', h1, h2, h3, h4, h5⟩ => ⟨v, μ', h1, h2, h3, h4, fun b hb => h5 b (hb.imp id fun h => by omega)⟩⟩
/-- Into the body of a function. -/
def intoY (P : Program) (T : Tab) (fuel l : Nat) (cx : CallY) (g : Nat) (args : List AV) (st : Stores) (new : Nat) (tp : List Tk) : Option (Eff × List Tk × List Ob) :=
  match P.funcs[g]? with
  | none => none
  | some fn => if fn.name == "runtime.NumGoroutine" then none else match fn.body with
    | none => none
    | some c => match reach fuel st (refsL args) [] with
      | keys => match pickS st keys with
        | st0 => if lts new args && st0.all (fun x => Nat.blt x.1 new && ltB new x.2) then
          match execY T (Dl l) new cx fuel c (args0 fn.ntmps args) st0 new [] tp [] with
          | some o => match finY T fuel (l + 1) fn st0 keys new o with
            | some e => some (e, o.tp, o.lg)
            | none => none
          | none => none
          else none
/-- Told: the functions whose answers are read off the tape. -/
def callY (P : Program) (T : Tab) (told : List Nat) (fuel : Nat) : Nat → CallY
  | 0, _, _, _, _, _ => none
  | l + 1, g, args, st, new, tp => match told.contains g, tp with
    | true, .r r :: tp => match frzs (get st) 99 args with
      | some (ps, rd) => some (⟨.p r, if r.flat then [] else rd.map fun b => (b, none), rd⟩, tp, [.call g ps r])
      | none => none
    | true, .f e :: tp => match allP args with
      | some ps => some (e new, tp, [.own g ps e])
      | none => none
    | true, .e :: tp => match intoY P T fuel l (callY P T told fuel l) g args st new tp with
      | some (e, tp, lg) => some (e, tp, .enter :: lg)
      | none => none
    | true, _ => none
    | false, tp => intoY P T fuel l (callY P T told fuel l) g args st new tp
theorem intoY_sound {P : Program} {T : Tab} (hT : TOK P T) (hm : P.follows .mixedOrders = true) (fuel l : Nat) {cx : CallY} (ih : CallYK P (Dl l) cx) : CallYK P (Dl (l + 1)) (intoY P T fuel l cx) := by
  intro g args st new tp r h hg
  unfold intoY at h
  dsimp only at h
  split at h
  · cases h
  · rename_i fn hf
    split at h
    · cases h
    · rename_i hnm
      split at h
      · cases h
      · rename_i c hb
        split at h
        · rename_i hc
          split at h
          · rename_i o ho
            simp only [Bool.and_eq_true, List.all_eq_true, Nat.blt_eq] at hc
            obtain ⟨hargs, hc⟩ := hc
            split at h
            rotate_left
            · cases h
            rename_i e he
            injection h with h; subst h
            replace h := he
            clear he
            unfold finY at h
            have key : o.x ≠ .normal ∧ o.x ≠ .ret → False := by
              intro ⟨h1, h2⟩
              cases hx : o.x with
              | normal => exact h1 hx
              | ret => exact h2 hx
              | exit i => rw [hx] at h; cases h
            split at h
            · cases h
            · split at h
              · rename_i hnx
                split at h
                · rename_i avs has
                  dsimp only at h
                  split at h
                  · rename_i hu
                    injection h with h; subst h
                    simp only [List.all_eq_true, Bool.and_eq_true, Bool.or_eq_true, Nat.ble_eq, Nat.blt_eq] at hu
                    refine SoundE.of_WP hT hf hb (by simpa using hnm) (pickS st (reach fuel st (refsL args) [])) (fun b k hk => ?_) hargs (fun x hx => ?_) ?_
                    · obtain ⟨h1, h2⟩ := get_pickS _ _ _ _ hk
                      have := hc (b, k) (mem_of_get _ _ _ hk)
                      exact ⟨h1, h2, this.1, ltB_cells this.2⟩
                    · have := hu x hx
                      refine ⟨this.1.imp (fun h => ?_) id, this.2⟩
                      intro h0; rw [h0] at h; cases h
                    · refine (execY_sound hT hm (Dl_pos l) ih fuel).1 c _ _ _ _ _ _ o _ ho hg ⟨by simpa using hnx, ?_⟩
                      obtain ⟨cc, hr, hcc⟩ := resAllB_spec has
                      have res : Res T fn.results.toList o.env o.st fun a => a = pack avs ∧ ∀ b k, upds (get (pickS st (reach fuel st (refsL args) []))) ((((reach fuel o.st (refsL avs ++ o.wr) []).filter (fun b => Nat.ble new b)) ++ o.wr).map fun b => (b, get o.st b)) b = some k → get o.st b = some k := by
                        unfold Res
                        rw [hr]
                        refine ⟨hcc, rfl, fun b k hk => ?_⟩
                        rcases upds_self _ _ _ _ _ hk with h1 | ⟨h1, h2⟩
                        · exact h1
                        · have hlt := (hc (b, k) (mem_of_get _ _ _ h2)).1
                          rw [(execY_inv _ _ _ _ _ _ _ _ _ ho).2 b hlt fun hw => h1 (by simp [hw])]
                          exact h2
                      cases hx : o.x with
                      | normal => exact res
                      | ret => exact res
                      | exit i => exact (key ⟨by simp [hx], by simp [hx]⟩).elim
                  · cases h
                · cases h
              · cases h
          · cases h
        · cases h
theorem callY_sound {P : Program} {T : Tab} (hT : TOK P T) (hm : P.follows .mixedOrders = true) (told : List Nat) (fuel : Nat) : ∀ (l : Nat), CallYK P (Dl l) (callY P T told fuel l) := by
  intro l
  induction l with
  | zero => intro g args st new tp r h; simp [callY] at h
  | succ l ih =>
    intro g args st new tp r h hg
    simp only [callY] at h
    split at h
    · split at h
      · rename_i ps rd hf
        injection h with h; subst h
        exact SoundE.of hf (hg (.call g ps _) (List.mem_singleton.2 rfl))
      · cases h
    · split at h
      · rename_i ps hp
        injection h with h; subst h
        rw [allP_spec hp]
        refine SoundE.mono ?_ (hg (.own g ps _) (List.mem_singleton.2 rfl) _ _)
        unfold Dl
        exact Nat.le_trans (by decide : 64 ≤ 2 ^ 32) (Nat.pow_le_pow_right (by decide) (by omega))
      · cases h
    · split at h
      · rename_i e tp' lg he
        injection h with h; subst h
        exact intoY_sound hT hm fuel l ih _ _ _ _ _ (e, tp', lg) he fun c hc => hg c (List.mem_cons_of_mem _ hc)
      · cases h
    · cases h
    · exact intoY_sound hT hm fuel l ih _ _ _ _ _ _ h hg
/-- A run of a function at certain values. -/
def runY (P : Program) (T : Tab) (told : List Nat) (fuel l f : Nat) (args : List PV) (tp : List Tk) : Option (PV × List Ob) :=
  match P.funcs[f]? with
  | none => none
  | some fn => if fn.name == "runtime.NumGoroutine" then none else match fn.body with
    | none => none
    | some c => match execY T (Dl l) 0 (callY P T told fuel l) fuel c (args0 fn.ntmps (args.map .p)) [] 0 [] tp [] with
      | some o => match o.x with
        | .exit _ => none
        | _ => match resAllB T o.env (get o.st) fn.results.toList with
          | some avs => match frz (get o.st) 99 (pack avs) with
            | some (p, _) => some (p, o.lg)
            | none => none
          | none => none
      | none => none
theorem runY_sound {P : Program} {T : Tab} (hT : TOK P T) (hm : P.follows .mixedOrders = true) {told : List Nat} {fuel l f : Nat} {args : List PV} {tp : List Tk} {res : PV} {lg : List Ob} (h : runY P T told fuel l f args tp = some (res, lg)) (hg : ∀ c ∈ lg, c.holds P) : Sound P f args res := by
  unfold runY at h
  split at h
  · cases h
  · rename_i fn hf
    split at h
    · cases h
    · rename_i hnm
      split at h
      · cases h
      · rename_i c hb
        split at h
        · rename_i o ho
          have key : o.x ≠ .normal ∧ o.x ≠ .ret → False := by
            intro ⟨h1, h2⟩
            cases hx : o.x with
            | normal => exact h1 hx
            | ret => exact h2 hx
            | exit i => rw [hx] at h; cases h
          split at h
          · cases h
          · split at h
            · rename_i avs has
              split at h
              · rename_i p rd hp
                injection h with h; injection h with h1 h2; subst h1; subst h2
                refine Sound.of_WP99 hT hf hb (by simpa using hnm) ?_
                refine (execY_sound hT hm (Dl_pos l) (callY_sound hT hm told fuel l) fuel).1 c _ _ _ _ _ _ o _ ho hg ?_
                obtain ⟨cc, hr, hcc⟩ := resAllB_spec has
                have res : Res T fn.results.toList o.env o.st fun a => ∃ rd, frz (get o.st) 99 a = some (p, rd) := by
                  unfold Res
                  rw [hr]
                  exact ⟨hcc, rd, hp⟩
                cases hx : o.x with
                | normal => exact res
                | ret => exact res
                | exit i => exact (key ⟨by simp [hx], by simp [hx]⟩).elim
              · cases h
            · cases h
        · cases h
theorem runO {P : Program} {T : Tab} (hT : TOK P T) (hm : P.follows .mixedOrders = true) {f : Nat} {args : List PV} {res : PV} {lg : List Ob} (told : List Nat) (fuel l : Nat) (hg : ∀ c ∈ lg, c.holds P) (h : runY P T told fuel l f args (lg.map Ob.tk) = some (res, lg)) : Sound P f args res :=
  runY_sound hT hm h hg
theorem Obs.nil {P : Program} : ∀ c ∈ ([] : List Ob), c.holds P := fun c h => by cases h
theorem Obs.cons {P : Program} {g : Nat} {ps : List PV} {r : PV} {l : List Ob} (h : Sound P g ps r) (k : ∀ c ∈ l, c.holds P) : ∀ c ∈ Ob.call g ps r :: l, c.holds P := fun c hc => by
  rcases List.mem_cons.1 hc with rfl | hc
  · exact h
  · exact k c hc
theorem Obs.br {P : Program} {t v : Bool} {l : List Ob} (n : Nat) (h : t = v) (k : ∀ c ∈ l, c.holds P) : ∀ c ∈ Ob.br n t v :: l, c.holds P := fun c hc => by
  rcases List.mem_cons.1 hc with rfl | hc
  · exact h
  · exact k c hc
theorem Obs.val {P : Program} {t z : Int} {l : List Ob} (n : Nat) (h : t = z) (k : ∀ c ∈ l, c.holds P) : ∀ c ∈ Ob.val n t z :: l, c.holds P := fun c hc => by
  rcases List.mem_cons.1 hc with rfl | hc
  · exact h
  · exact k c hc
theorem Obs.enter {P : Program} {l : List Ob} (k : ∀ c ∈ l, c.holds P) : ∀ c ∈ Ob.enter :: l, c.holds P := fun c hc => by
  rcases List.mem_cons.1 hc with rfl | hc
  · trivial
  · exact k c hc
theorem Obs.own {P : Program} {g : Nat} {ps : List PV} {l : List Ob} (e : Nat → Eff) (h : ∀ (σ : Store) (new : Nat), SoundE P 64 g (ps.map .p) σ new (e new)) (k : ∀ c ∈ l, c.holds P) : ∀ c ∈ Ob.own g ps e :: l, c.holds P := fun c hc => by
  rcases List.mem_cons.1 hc with rfl | hc
  · exact h
  · exact k c hc
end Go.Proofs.YtalklhbdpmggjaaDoor.Pw
namespace Go.Proofs.YtalklhbdpmggjaaDoor.Pw
open Go.RowKit hiding wrap64
open Go Wd
theorem ltT {a b : Int} (h : a < b) : ltI a b = true := by rw [ltI_eq]; simpa using h
theorem ltF {a b : Int} (h : ¬ a < b) : ltI a b = false := by rw [ltI_eq]; simpa using h
theorem leT {a b : Int} (h : a ≤ b) : (!ltI b a) = true := by rw [leI_eq]; simpa using h
theorem leF {a b : Int} (h : ¬ a ≤ b) : (!ltI b a) = false := by rw [leI_eq]; simpa using h
theorem wI {n : Int} (h : -9223372036854775808 ≤ n) (h' : n ≤ 9223372036854775807) : IntKind.i64.wrap n = n := by rw [wrap_i64]; exact w64 h h'
theorem eqT {a b : Int} (h : a = b) : decide (a = b) = true := by simpa using h
theorem eqF {a b : Int} (h : a ≠ b) : decide (a = b) = false := by simpa using h
theorem neF {a b : Int} (h : a = b) : (!decide (a = b)) = false := by simpa using h
theorem neT {a b : Int} (h : a ≠ b) : (!decide (a = b)) = true := by simpa using h
end Go.Proofs.YtalklhbdpmggjaaDoor.Pw
namespace Go.Proofs.YtalklhbdpmggjaaDoor.Pw
open Go Wd Px Mat
set_option linter.unusedVariables false
set_option linter.unusedSimpArgs false
set_option maxRecDepth 100000
set_option maxHeartbeats 8000000
attribute [local irreducible] Int.tmod Int.tdiv
theorem ofS_small {x : Int} (h0 : 0 < x) (h1 : x < 1000000000) : ofS x = ([x], 0) := by unfold ofS; rw [if_neg (by omega), dg1 x h0 h1]
theorem int_dg {n : Int} (h0 : 0 ≤ n) (h1 : n ≤ 1000000000000) : intS (dg n) = (n, 0) := by
  have hl : (dg n).length ≤ 2 := (dg_len h0).2 (by rw [pw_two]; omega)
  have hk : okN (dg n) = true := okN_iff.2 (ok_dg h0 (by have := pw_le (m := 2) (n := 48) (by decide); rw [pw_two] at this; omega))
  unfold intS
  rw [if_pos hk, val_dg h0, if_neg (by omega)]
theorem add_dg {x y : Int} (hx : 0 ≤ x) (hy : 0 ≤ y) (h : x + y < pw 48) : addS (dg x) (dg y) = (dg (x + y), 0) := by
  unfold addS
  rw [if_pos ⟨okN_iff.2 (ok_dg hx (by omega)), okN_iff.2 (ok_dg hy (by omega))⟩, val_dg hx, val_dg hy, fit_ok' h]
where fit_ok' {n : Int} (h : n < pw 48) : Px.fitS n = (dg n, 0) := by unfold Px.fitS; rw [if_pos h]
theorem mul_dg {x y : Int} (hx : 0 ≤ x) (hy : 0 ≤ y) (h1 : x < pw 48) (h2 : y < pw 48) (h : x * y < pw 48) : mulS (dg x) (dg y) = (dg (x * y), 0) := by
  unfold mulS
  rw [if_pos ⟨okN_iff.2 (ok_dg hx h1), okN_iff.2 (ok_dg hy h2)⟩, val_dg hx, val_dg hy]
  unfold Px.fitS; rw [if_pos h]
theorem NatInts.c (x y : Int) : Sound Tryd.prog 9 [I x, I y] (B true) := by
  by_cases x0 : x < 0
  · exact runO tok mixed [21] 100 3 (Obs.br 0 (ltT x0) (Obs.cons awake02.c Obs.nil)) (by kernel_rfl)
  by_cases x1 : 1000000 < x
  · exact runO tok mixed [21] 100 3 (Obs.br 0 (ltF x0) (Obs.br 0 (ltT x1) (Obs.cons awake02.c Obs.nil))) (by kernel_rfl)
  by_cases y0 : y < 0
  · exact runO tok mixed [21] 100 3 (Obs.br 0 (ltF x0) (Obs.br 0 (ltF x1) (Obs.br 0 (ltT y0) (Obs.cons awake02.c Obs.nil)))) (by kernel_rfl)
  by_cases y1 : 1000000 < y
  · exact runO tok mixed [21] 100 3 (Obs.br 0 (ltF x0) (Obs.br 0 (ltF x1) (Obs.br 0 (ltF y0) (Obs.br 0 (ltT y1) (Obs.cons awake02.c Obs.nil))))) (by kernel_rfl)
  have hp : (1000000000000000000 : Int) ≤ pw 48 := by have := pw_le (m := 2) (n := 48) (by decide); rwa [pw_two] at this
  have m0 : 0 ≤ x * y := Int.mul_nonneg (by omega) (by omega)
  have m1 : x * y ≤ 1000000000000 := by
    have := Int.mul_le_mul (a := x) (b := y) (c := 1000000) (d := 1000000) (by omega) (by omega) (by omega) (by omega)
    omega
  have eo : ∀ z : Int, 0 ≤ z → ofS z = (dg z, 0) := fun z hz => by unfold ofS; rw [if_neg (by omega)]
  have c1 := nat_Of.c x (by omega)
  have c2 := nat_Of.c y (by omega)
  have c3 := nat_Add.c (dg x) (dg y)
  have c4 := nat_Mul.c (dg x) (dg y)
  have c5 := nat_Int.c (dg (x + y))
  have c6 := nat_Int.c (dg (x * y))
  rw [add_dg (by omega) (by omega) (by omega)] at c3
  rw [mul_dg (by omega) (by omega) (by omega) (by omega) (by omega)] at c4
  rw [int_dg (by omega) (by omega)] at c5
  rw [int_dg m0 m1] at c6
  rw [eo x (by omega)] at c1
  rw [eo y (by omega)] at c2
  dsimp only at c1 c2 c3 c4 c5 c6
  have n1 := neF (wI (n := x + y) (by omega) (by omega)).symm
  have n2 := neF (wI (n := x * y) (by omega) (by omega)).symm
  have v2 := nat_Valid.c []
  rw [show okN [] = true by decide] at v2
  generalize dg y = Y at *
  generalize dg (x + y) = S at *
  generalize dg (x * y) = P at *
  by_cases hx : 0 < x
  · rw [dg1 x hx (by omega)] at c1 c3 c4
    have v1 := nat_Valid.c [x]
    rw [show okN [x] = true from okN_iff.2 ⟨by simp, nrm_one ⟨hx, by omega⟩⟩] at v1
    have w1 := wI (n := x + 0) (by omega) (by omega)
    rw [Int.add_zero] at w1
    have w2 : Int.tmod x 1000000000 = x := by rw [Int.tmod_eq_emod_of_nonneg (by omega)]; omega
    have w3 : IntKind.i64.wrap (Int.tdiv x 1000000000) = 0 := by rw [Int.tdiv_eq_ediv_of_nonneg (by omega), show x / 1000000000 = 0 by omega]; decide
    have w1' : IntKind.i64.wrap (x + 0) = x := by rw [Int.add_zero]; exact w1
    have hne := eqF (show x ≠ 0 by omega)
    exact runO tok mixed [34, 41, 22, 36, 29, 24, 21] 200 5
      (Obs.br 0 (ltF x0) (Obs.br 0 (ltF x1) (Obs.br 0 (ltF y0) (Obs.br 0 (ltF y1) (Obs.cons c1 (Obs.cons c2 (Obs.cons c3 (Obs.cons c4 (Obs.cons c5 (Obs.cons c6 (Obs.br 6 n1 (Obs.br 0 n2
        (Obs.enter (Obs.cons v1 (Obs.cons v2 (Obs.val 1 w1' (Obs.val 0 w2 (Obs.val 0 w3 (Obs.br 6 hne (Obs.cons (same02 [x]) (Obs.cons awake02.c Obs.nil))))))))))))))))))))) (by kernel_rfl)
  · obtain rfl : x = 0 := by omega
    rw [dg_zero] at c1 c3 c4
    exact runO tok mixed [34, 41, 22, 36, 29, 24, 21] 200 5
      (Obs.br 0 (ltF x0) (Obs.br 0 (ltF x1) (Obs.br 0 (ltF y0) (Obs.br 0 (ltF y1) (Obs.cons c1 (Obs.cons c2 (Obs.cons c3 (Obs.cons c4 (Obs.cons c5 (Obs.cons c6 (Obs.br 6 n1 (Obs.br 0 n2
        (Obs.enter (Obs.cons v2 (Obs.cons v2 (Obs.cons (same02 []) (Obs.cons awake02.c Obs.nil))))))))))))))))) (by kernel_rfl)
end Go.Proofs.YtalklhbdpmggjaaDoor.Pw
namespace Go.Proofs.YtalklhbdpmggjaaDoor.Px
open Go Go.Proofs.YtalklhbdpmggjaaDoor.Wd Go.Proofs.YtalklhbdpmggjaaDoor.Mat
set_option linter.unusedVariables false
/-- k digits of r. -/
def padk : Nat → Nat → List UInt8
  | 0, _ => []
  | k + 1, r => padk k (r / 10) ++ [UInt8.ofNat (48 + r % 10)]
theorem padk_len : ∀ k r, (padk k r).length = k
  | 0, _ => rfl
  | k + 1, r => by rw [padk, List.length_append, padk_len k]; rfl
theorem padk_zero : ∀ k, padk k 0 = List.replicate k 48
  | 0 => rfl
  | k + 1 => by rw [padk, show 0 / 10 = 0 from rfl, padk_zero k, List.replicate_succ']; rfl
theorem rep48 (c : Nat) : Lib.repeatL [48] c = List.replicate c 48 := by
  induction c with
  | zero => rfl
  | succ c ih => rw [Lib.repeatL, ih, List.replicate_succ]; rfl
theorem dec_small {u : Nat} (h : u < 10) : Lib.decDigits u = [UInt8.ofNat (48 + u)] := by rw [Lib.decDigits, dif_pos h]
theorem dec_big {u : Nat} (h : ¬ u < 10) : Lib.decDigits u = Lib.decDigits (u / 10) ++ [UInt8.ofNat (48 + u % 10)] := by rw [Lib.decDigits, dif_neg h]
theorem pad_dec : ∀ (k r : Nat), r < 10 ^ (k + 1) → (Lib.decDigits r).length ≤ k + 1 ∧ List.replicate (k + 1 - (Lib.decDigits r).length) 48 ++ Lib.decDigits r = padk (k + 1) r
  | 0, r, h => by
    have h' : r < 10 := by simpa using h
    rw [dec_small h', padk, padk, show r % 10 = r by omega]
    exact ⟨Nat.le_refl _, rfl⟩
  | k + 1, r, h => by
    by_cases hr : r < 10
    · rw [dec_small hr, padk, show r / 10 = 0 by omega, padk_zero, show r % 10 = r by omega]
      exact ⟨by simp, rfl⟩
    · obtain ⟨h1, h2⟩ := pad_dec k (r / 10) (by rw [Nat.pow_succ] at h; omega)
      rw [dec_big hr, padk, ← h2]
      refine ⟨by simp; omega, ?_⟩
      rw [List.length_append, List.append_assoc, show [UInt8.ofNat (48 + r % 10)].length = 1 from rfl, show k + 1 + 1 - ((Lib.decDigits (r / 10)).length + 1) = k + 1 - (Lib.decDigits (r / 10)).length by omega]
theorem dec_cat : ∀ (k u r : Nat), 0 < u → r < 10 ^ k → Lib.decDigits (u * 10 ^ k + r) = Lib.decDigits u ++ padk k r
  | 0, u, r, hu, hr => by
    have : r = 0 := by simpa using hr
    subst this; rw [padk]; simp
  | k + 1, u, r, hu, hr => by
    have e : u * 10 ^ (k + 1) + r = (u * 10 ^ k) * 10 + r := by rw [Nat.pow_succ, Nat.mul_assoc]
    have hp : 0 < 10 ^ k := Nat.pow_pos (by decide)
    have h1 : 1 ≤ u * 10 ^ k := Nat.mul_pos hu hp
    rw [e, dec_big (by omega), show (u * 10 ^ k * 10 + r) / 10 = u * 10 ^ k + r / 10 by omega, show (u * 10 ^ k * 10 + r) % 10 = r % 10 by omega, dec_cat k u (r / 10) hu (by rw [Nat.pow_succ] at hr; omega), padk, List.append_assoc]
def pad9 (d : Int) : List UInt8 := Lib.repeatL [48] (9 - (Lib.itoa d).length) ++ Lib.itoa d
/-- The text of the limbs x 0 .. x n, from the limb n - j on. -/
def lowT (x : Nat → Int) (n : Nat) : Nat → List UInt8
  | 0 => Lib.itoa (x n)
  | j + 1 => lowT x n j ++ pad9 (x (n - (j + 1)))
theorem itoa_nat {d : Int} (h : 0 ≤ d) : Lib.itoa d = Lib.decDigits d.toNat := by
  obtain ⟨u, rfl⟩ : ∃ u : Nat, d = u := ⟨d.toNat, by omega⟩
  rw [Lib.itoa_nonneg]; rfl
theorem pad9_k {d : Int} (h0 : 0 ≤ d) (h1 : d < 1000000000) : pad9 d = padk 9 d.toNat := by
  unfold pad9
  rw [itoa_nat h0, rep48]
  exact (pad_dec 8 d.toNat (by omega)).2
def textL (a : List Int) : List UInt8 := if a = [] then [48] else lowT (fun j => rd a j) (a.length - 1) (a.length - 1)
theorem lowT_dec (a : List Int) (ha : Nrm a) (h0 : a ≠ []) : ∀ j, j ≤ a.length - 1 → 0 < val (a.drop (a.length - 1 - j)) ∧ lowT (fun j => rd a j) (a.length - 1) j = Lib.decDigits (val (a.drop (a.length - 1 - j))).toNat := by
  have hl := List.length_pos_iff.2 h0
  intro j
  induction j with
  | zero =>
    intro _
    have hv := val_drop (l := a) (i := ((a.length - 1 : Nat) : Int)) (by omega) (by omega)
    rw [show ((a.length - 1 : Nat) : Int).toNat = a.length - 1 by omega, show a.length - 1 + 1 = a.length by omega, List.drop_length] at hv
    have hd := ha.1.rd ((a.length - 1 : Nat) : Int)
    have hn := nrm_last ha (i := ((a.length - 1 : Nat) : Int)) (by omega) (by omega)
    simp only [val, Int.mul_zero, Int.add_zero] at hv
    rw [Nat.sub_zero, hv, lowT]
    exact ⟨by omega, itoa_nat hd.1⟩
  | succ j ih =>
    intro hj
    obtain ⟨i1, i2⟩ := ih (by omega)
    have hv := val_drop (l := a) (i := ((a.length - 1 - (j + 1) : Nat) : Int)) (by omega) (by omega)
    rw [show ((a.length - 1 - (j + 1) : Nat) : Int).toNat = a.length - 1 - (j + 1) by omega, show a.length - 1 - (j + 1) + 1 = a.length - 1 - j by omega] at hv
    have hd := ha.1.rd ((a.length - 1 - (j + 1) : Nat) : Int)
    rw [hv, lowT, i2, pad9_k hd.1 hd.2]
    refine ⟨by omega, ?_⟩
    rw [← dec_cat 9 _ _ (by omega) (by omega)]
    congr 1
    omega
theorem textL_dec {a : List Int} (ha : okN a = true) : textL a = Lib.decDigits (val a).toNat := by
  unfold textL
  by_cases h0 : a = []
  · subst h0; rw [if_pos rfl, show (val []).toNat = 0 from rfl, dec_small (by decide)]; rfl
  · rw [if_neg h0, (lowT_dec a (okN_iff.1 ha).2 h0 (a.length - 1) (Nat.le_refl _)).2, Nat.sub_self, List.drop_zero]
/-- The value of digits. -/
def decV : List UInt8 → Nat := fun l => l.foldl (fun v c => 10 * v + (c.toNat - 48)) 0
def digs (l : List UInt8) : Bool := l.all fun c => decide (48 ≤ c.toNat) && decide (c.toNat ≤ 57)
theorem decV_snoc (l : List UInt8) (c : UInt8) : decV (l ++ [c]) = 10 * decV l + (c.toNat - 48) := by unfold decV; rw [List.foldl_append]; rfl
theorem digit_of {d : Nat} (h : d < 10) : (UInt8.ofNat (48 + d)).toNat = 48 + d := by rw [UInt8.toNat_ofNat']; omega
theorem dec_facts : ∀ (n u : Nat), u ≤ n → decV (Lib.decDigits u) = u ∧ digs (Lib.decDigits u) = true ∧ (0 < u → ∀ c r, Lib.decDigits u = c :: r → c ≠ 48)
  | 0, u, h => by
    have : u = 0 := by omega
    subst this
    rw [dec_small (by decide)]
    exact ⟨by decide, by decide, fun h => absurd h (by decide)⟩
  | n + 1, u, h => by
    by_cases hu : u < 10
    · have hd := digit_of hu
      rw [dec_small hu]
      refine ⟨?_, ?_, fun h0 c r e => ?_⟩
      · show 10 * 0 + ((UInt8.ofNat (48 + u)).toNat - 48) = u
        rw [hd]; omega
      · show (decide (48 ≤ (UInt8.ofNat (48 + u)).toNat) && decide ((UInt8.ofNat (48 + u)).toNat ≤ 57) && true) = true
        rw [hd]; simp; omega
      · injection e with e _
        subst e
        intro h
        have := congrArg UInt8.toNat h
        rw [hd] at this
        have h48 : (48 : UInt8).toNat = 48 := rfl
        omega
    · obtain ⟨i1, i2, i3⟩ := dec_facts n (u / 10) (by omega)
      have hd := digit_of (d := u % 10) (by omega)
      rw [dec_big hu]
      refine ⟨?_, ?_, fun h0 c r e => ?_⟩
      · rw [decV_snoc, i1, hd]; omega
      · unfold digs at *
        rw [List.all_append, i2]
        show (true && (decide (48 ≤ (UInt8.ofNat (48 + u % 10)).toNat) && decide ((UInt8.ofNat (48 + u % 10)).toNat ≤ 57) && true)) = true
        rw [hd]; simp; omega
      · cases hD : Lib.decDigits (u / 10) with
        | nil => rw [Lib.decDigits] at hD; split at hD <;> simp at hD
        | cons c' r' =>
          rw [hD] at e
          injection e with e _
          subst e
          exact i3 (by omega) _ _ hD
/-- Digits without a zero ahead are the text of their value. -/
theorem dec_unique : ∀ (n : Nat) (l : List UInt8), l.length = n → l ≠ [] → digs l = true → (l.length = 1 ∨ ∀ c r, l = c :: r → c ≠ 48) → Lib.decDigits (decV l) = l := by
  intro n
  induction n with
  | zero => intro l hl h0; exact absurd (List.eq_nil_of_length_eq_zero hl) h0
  | succ n ih =>
    intro l hl h0 hd hz
    obtain ⟨l', c, rfl⟩ : ∃ l' c, l = l' ++ [c] := ⟨l.dropLast, l.getLast h0, (List.dropLast_concat_getLast h0).symm⟩
    have hc : 48 ≤ c.toNat ∧ c.toNat ≤ 57 := by
      unfold digs at hd; rw [List.all_append] at hd; simpa using (Bool.and_eq_true_iff.1 hd).2
    have hd' : digs l' = true := by unfold digs at *; rw [List.all_append] at hd; exact (Bool.and_eq_true_iff.1 hd).1
    have ec : UInt8.ofNat (48 + (c.toNat - 48)) = c := by
      rw [show 48 + (c.toNat - 48) = c.toNat by omega]; exact UInt8.ofNat_toNat
    rw [decV_snoc]
    by_cases hl' : l' = []
    · subst hl'
      rw [show 10 * decV [] + (c.toNat - 48) = c.toNat - 48 by simp [decV], dec_small (by omega), ec]; rfl
    · have hz' : ∀ c r, l' = c :: r → c ≠ 48 := fun c' r e => by
        rcases hz with h | h
        · rw [List.length_append] at h; have := List.length_pos_iff.2 hl'; have e1 : [c].length = 1 := rfl; omega
        · exact h c' (r ++ [c]) (by rw [e]; rfl)
      have i1 := ih l' (by simpa using hl) hl' hd' (.inr hz')
      have hpos : 0 < decV l' := by
        rcases Nat.eq_zero_or_pos (decV l') with h | h
        · rw [h, dec_small (by decide)] at i1
          cases l' with
          | nil => exact absurd rfl hl'
          | cons a r => injection i1 with e _; exact absurd e.symm (hz' a r rfl)
        · exact h
      rw [dec_big (by omega), show (10 * decV l' + (c.toNat - 48)) / 10 = decV l' by omega, show (10 * decV l' + (c.toNat - 48)) % 10 = c.toNat - 48 by omega, i1, ec]
theorem decV_lt : ∀ (n : Nat) (l : List UInt8), l.length = n → digs l = true → decV l < 10 ^ n := by
  intro n
  induction n with
  | zero => intro l hl _; rw [List.eq_nil_of_length_eq_zero hl]; decide
  | succ n ih =>
    intro l hl hd
    have h0 : l ≠ [] := fun e => by rw [e] at hl; cases hl
    obtain ⟨l', c, rfl⟩ : ∃ l' c, l = l' ++ [c] := ⟨l.dropLast, l.getLast h0, (List.dropLast_concat_getLast h0).symm⟩
    have hc : 48 ≤ c.toNat ∧ c.toNat ≤ 57 := by
      unfold digs at hd; rw [List.all_append] at hd; simpa using (Bool.and_eq_true_iff.1 hd).2
    have hd' : digs l' = true := by unfold digs at *; rw [List.all_append] at hd; exact (Bool.and_eq_true_iff.1 hd).1
    have := ih l' (by simpa using hl) hd'
    rw [decV_snoc, Nat.pow_succ]; omega
end Go.Proofs.YtalklhbdpmggjaaDoor.Px
namespace Go.Proofs.YtalklhbdpmggjaaDoor.Pw
open Go.RowKit hiding wrap64
open Go Wd Px Mat
set_option linter.unusedVariables false
set_option linter.unusedSimpArgs false
theorem dec_len : ∀ (k u : Nat), u < 10 ^ (k + 1) → (Lib.decDigits u).length ≤ k + 1
  | 0, u, h => by rw [Lib.decDigits, dif_pos (by omega)]; simp
  | k + 1, u, h => by
    rw [Lib.decDigits]
    split
    · simp
    · have := dec_len k (u / 10) (by rw [Nat.pow_succ] at h; omega)
      simp; omega
theorem dec_pos (u : Nat) : 0 < (Lib.decDigits u).length := by rw [Lib.decDigits]; split <;> simp
theorem itoa_len {d : Int} (h0 : 0 ≤ d) (h1 : d < 1000000000) : (Lib.itoa d).length ≤ 9 := by
  obtain ⟨u, rfl⟩ : ∃ u : Nat, d = u := ⟨d.toNat, by omega⟩
  rw [Lib.itoa_nonneg]; exact dec_len 8 u (by omega)
theorem RepL_len (c : Nat) : (Lib.repeatL [48] c).length = c := by
  induction c with
  | zero => rfl
  | succ c ih => rw [Lib.repeatL]; simp [ih]
theorem low_len (x : Nat → Int) (n : Nat) (hx : ∀ j, 0 ≤ x j ∧ x j < 1000000000) : ∀ j, (lowT x n j).length ≤ 432 * (j + 1)
  | 0 => by have := itoa_len (hx n).1 (hx n).2; rw [lowT]; omega
  | j + 1 => by
    have h1 := low_len x n hx j
    have h2 := itoa_len (hx (n - (j + 1))).1 (hx (n - (j + 1))).2
    rw [lowT, pad9, List.length_append, List.length_append, RepL_len]; omega
/-- A loop by a measure, at the machine's own states. -/
theorem LW.ind {P : Program} {c : Code} {Q : Exit → Act → World → Prop} {α : Type} (μ : α → Nat) (S : α → Act × World → Prop)
    (step : ∀ x a w, S x (a, w) → (∀ y a' w', μ y < μ x → S y (a', w') → LW P c Q a' w') → LW P c Q a w) : ∀ x a w, S x (a, w) → LW P c Q a w := by
  intro x
  generalize hn : μ x = k
  induction k using Nat.strongRecOn generalizing x with
  | _ k ih => exact fun a w h => step x a w h fun y a' w' hy hs => ih (μ y) (by omega) y rfl a' w' hs
/-- A fact laid aside, so that no step of a walk reads it. -/
structure Kp (p : Prop) : Prop where
  h : p
theorem below_grow (w : World) (k : Nat) (os : Array Obj) : Below w.heap.size w (Go.Sort.grow (w.drewN k) os) :=
  ⟨rfl, rfl, rfl, by show w.heap.size ≤ (w.heap ++ os).size; simp, fun b hb => by show (w.heap ++ os)[b]? = w.heap[b]?; rw [Array.getElem?_append_left hb]⟩
theorem itoa_b (d : Int) (h0 : -9223372036854775808 ≤ d) (h1 : d ≤ 9223372036854775807) (w : World) (htab : Lib.TabIs Tryd.prog w "internal/strconv.uint64pow10" .u64 Lib.pow10Tab) :
    Calls Tryd.prog 85 #[.int .i64 d] w fun e w' => e = .returned (.string ⟨(Lib.itoa d).toArray⟩) ∧ Below w.heap.size w w' :=
  (Tryd.strconv_Itoa d h0 h1 w htab).mono fun e w' ⟨h, k, os, hw⟩ => ⟨h, by subst hw; exact below_grow w k os⟩
set_option maxHeartbeats 1000000 in
set_option maxRecDepth 100000 in
theorem text_core (x : Nat → Int) (L n Bk o cap : Nat) (hL : Kp (L = n + 1)) (h48 : Kp (L ≤ 48)) (W : World) (hB : Bk < W.heap.size) (hc : Kp (∀ j, j < L → W.cell? ⟨Bk, o + j, none⟩ = some (.int .i64 (x j)))) (hx : Kp (∀ j, 0 ≤ x j ∧ x j < 1000000000))
    (htab : Kp (∀ w, Below W.heap.size W w → Lib.TabIs Tryd.prog w "internal/strconv.uint64pow10" .u64 Lib.pow10Tab))
    (cV : Calls Tryd.prog 29 #[.slice (some ⟨Bk, o, none⟩) L cap] W fun e W' => e = .returned (.bool true) ∧ Below W.heap.size W W') (P : Ending → World → Prop)
    (hP : Kp (∀ w, Below W.heap.size W w → P (.returned (.tuple #[.string ⟨(lowT x n n).toArray⟩, .int .i64 0])) w)) :
    Calls Tryd.prog 30 #[.slice (some ⟨Bk, o, none⟩) L cap] W P := by
  go_enter Tryd.func30, Tryd.ntmps30
  go_wp2_with (go_at_call 29; refine cV.mono ?_)
  rintro e w1 ⟨rfl, hb1⟩
  have i3 : ((L : Int) == 0) = false := by have := hL.h; simpa using (by omega : ¬ L = 0)
  have hw : RowKit.wrap64 ((L : Int) - 1) = (n : Int) := by have h1 := hL.h; have h2 := h48.h; unfold RowKit.wrap64; omega
  have hi : (0 : Int) ≤ (n : Int) ∧ (n : Int) < (L : Int) := by have := hL.h; omega
  obtain ⟨d, hd⟩ : ∃ d, x n = d := ⟨_, rfl⟩
  have hbA := hb1.alloc (by have := hb1.size; omega) (Obj.cells #[.pointer none, .slice none 0 0] 72)
  have g1 : (w1.alloc (Obj.cells #[.pointer none, .slice none 0 0] 72)).cell? ⟨Bk, o + n, none⟩ = some (.int .i64 d) := by
    rw [Below.cell (p := ⟨Bk, o + n, none⟩) hbA hB, ← hd]; exact hc.h n (by have := hL.h; omega)
  have hda : Kp (0 ≤ d ∧ d < 1000000000) := ⟨hd ▸ hx.h n⟩
  go_wp2_with (go_at_call 85; refine (itoa_b d (by have := hda.h; omega) (by have := hda.h; omega) _ (htab.h _ hbA)).mono ?_)
  rintro e w2 ⟨rfl, hb2⟩
  have hbB := hbA.trans (hb2.mono hbA.size)
  have hsz : (w1.alloc (Obj.cells #[.pointer none, .slice none 0 0] 72)).heap.size = w1.heap.size + 1 := by show (w1.heap.push _).size = _; exact Array.size_push _
  have hB2 : Lib.IsBuilder 72 5 W.heap.size w1.heap.size [] w2 := by
    refine .inl ⟨hb1.size, .slice none 0 0, ?_, ?_, by simp [Value.ownBlock]⟩
    · rw [hb2.block w1.heap.size (by rw [hsz]; omega)]
      exact Array.getElem?_push_size
    · exact ⟨rfl, .inl ⟨rfl, rfl⟩⟩
  obtain ⟨bs, hbs⟩ : ∃ bs, Lib.itoa d = bs := ⟨_, rfl⟩
  have hbl : Kp (bs.length ≤ 9) := ⟨by rw [← hbs]; exact itoa_len hda.h.1 hda.h.2⟩
  rw [hbs]
  have hlen : ([] : List Value).length + (ByteArray.mk bs.toArray).size ≤ 140737488355328 := by
    have := hbl.h
    simp only [List.length_nil, ByteArray.size, List.size_toArray]
    omega
  go_wp2_with (go_at_call 84; refine (Sb.writeString W.heap.size w1.heap.size [] _ _ hB2 hlen hbB.size).mono ?_)
  rintro e w3 ⟨rfl, hB3, hb3⟩
  have hw2 : RowKit.wrap64 ((L : Int) - 2) = (n : Int) - 1 := by have h1 := hL.h; have h2 := h48.h; unfold RowKit.wrap64; omega
  have hbC := hbB.trans hb3
  go_wp2
  rw [hw2]
  have hB3' : Lib.BuilderAt 72 5 W.heap.size w1.heap.size (.pointer (some ⟨w1.heap.size, 0, none⟩)) (Lib.byteCells (lowT x n 0)) w3 := by
    have e : lowT x n 0 = bs := by rw [lowT, hd, hbs]
    rw [e]; simpa [Lib.strCells, Lib.byteCells] using hB3
  refine LW.wp (LW.ind (fun m : Nat => m) (fun m aw => ∃ (z : Int) (g6 g24 g25 g26 g27 g28 g29 g30 g31 g32 g33 g34 g35 g36 g37 g38 g39 g40 : Value) (w : World) (j : Nat), j + m = n ∧ z = (m : Int) - 1 ∧
    aw = (⟨#[.slice (some ⟨Bk, o, none⟩) L cap, undef, .string ⟨#[]⟩, .int .i64 0, .pointer (some ⟨w1.heap.size, 0, none⟩), .int .i64 z, g6, .slice (some ⟨Bk, o, none⟩) L cap, .bool true, .bool false, .slice (some ⟨Bk, o, none⟩) L cap, .int .i64 L, .bool false, .slice (some ⟨Bk, o, none⟩) L cap, .slice (some ⟨Bk, o, none⟩) L cap, .int .i64 L, .int .i64 n, .pointer (some ⟨Bk, o + n, none⟩), .int .i64 d, .string ⟨bs.toArray⟩, .tuple #[.int .i64 bs.length, .nilIface], .slice (some ⟨Bk, o, none⟩) L cap, .int .i64 L, .int .i64 ((n : Int) - 1), g24, g25, g26, g27, g28, g29, g30, g31, g32, g33, g34, g35, g36, g37, g38, g39, g40], []⟩, w) ∧ Lib.BuilderAt 72 5 W.heap.size w1.heap.size (.pointer (some ⟨w1.heap.size, 0, none⟩)) (Lib.byteCells (lowT x n j)) w ∧ Below W.heap.size W w) ?_ n _ _
    ⟨(n : Int) - 1, _, _, _, _, _, _, _, _, _, _, _, _, _, _, _, _, _, _, w3, 0, by omega, rfl, rfl, hB3', hbC⟩)
  clear hB3' hbC hw2 hB3 hb3 hlen hB2 hsz hbB hb2 g1 hbA hi hw i3 cV hd hbs hda hbl hb1
  rintro m a w ⟨z, g6, g24, g25, g26, g27, g28, g29, g30, g31, g32, g33, g34, g35, g36, g37, g38, g39, g40, w', j, hj, hz, haw, hBd, hbw⟩ ih
  injection haw with h1 h2
  subst h1; subst h2
  refine LW.unroll ?_
  dsimp only
  cases m with
  | zero =>
    obtain rfl : z = -1 := by rw [hz]; rfl
    clear hz
    obtain rfl : j = n := by omega
    clear hj ih
    go_wp2_with (go_at_call 87; refine (Tryd.Builder_String_any W.heap.size w1.heap.size (lowT x j j) _ (.inr hBd) hbw.size).mono ?_)
    rintro e w7 ⟨rfl, hb7⟩
    go_wp2
    exact hP.h _ (hbw.trans hb7)
  | succ k =>
    obtain rfl : z = (k : Int) := by rw [hz]; omega
    clear hz
    have hk : Kp (j + (k + 1) = n) := ⟨hj⟩
    clear hj
    have hi' : (0 : Int) ≤ (k : Int) ∧ (k : Int) < (L : Int) := by have := hL.h; have := hk.h; omega
    obtain ⟨d', hd'⟩ : ∃ d', x k = d' := ⟨_, rfl⟩
    have hda' : Kp (0 ≤ d' ∧ d' < 1000000000) := ⟨hd' ▸ hx.h k⟩
    have g2 : w.cell? ⟨Bk, o + k, none⟩ = some (.int .i64 d') := by
      rw [Below.cell (p := ⟨Bk, o + k, none⟩) hbw hB, ← hd']; exact hc.h k (by have := hL.h; have := hk.h; omega)
    go_wp2_with (go_at_call 85; refine (itoa_b d' (by have := hda'.h; omega) (by have := hda'.h; omega) _ (htab.h _ hbw)).mono ?_)
    rintro e w2 rfl hb2
    have hbw2 := hbw.trans (hb2.mono hbw.size)
    obtain ⟨cs, hcs⟩ : ∃ cs, Lib.itoa d' = cs := ⟨_, rfl⟩
    have hcl : Kp (cs.length ≤ 9) := ⟨by rw [← hcs]; exact itoa_len hda'.h.1 hda'.h.2⟩
    rw [hcs]
    have hB2' := Lib.BuilderAt.below' hBd hb2
    have hw3 : RowKit.wrap64 (9 - (cs.length : Int)) = ((9 - cs.length : Nat) : Int) := by have h1 := hcl.h; unfold RowKit.wrap64; omega
    go_wp2_with (rw [hw3]; go_at_call 86; refine (Tryd.strings_Repeat ⟨#[48]⟩ (9 - cs.length) _ (by omega) (by show 1 * _ ≤ _; omega)).mono ?_)
    rintro e w4 rfl hb4
    have hbw4 := hbw2.trans (hb4.mono hbw2.size)
    have hB4 := Lib.BuilderAt.below' hB2' hb4
    have hlow : Kp ((lowT x n j).length ≤ 432 * (j + 1)) := ⟨low_len x n hx.h j⟩
    have hjn : Kp (j ≤ 48) := ⟨by have := hL.h; have := h48.h; have := hk.h; omega⟩
    have hl4 : (Lib.byteCells (lowT x n j)).length + (ByteArray.mk (Lib.repeatL [48] (9 - cs.length)).toArray).size ≤ 140737488355328 := by
      have h1 := hlow.h; have h2 := hjn.h
      simp only [Lib.byteCells_length, ByteArray.size, List.size_toArray, RepL_len]
      omega
    clear hl4
    go_wp2_with (go_at_call 84; refine (Sb.writeString W.heap.size w1.heap.size _ _ _ (.inr hB4) (by have h1 := hlow.h; have h2 := hjn.h; simp only [Lib.byteCells_length, ByteArray.size, List.size_toArray, RepL_len]; omega) hbw4.size).mono ?_)
    rintro e w5 ⟨rfl, hB5, hb5⟩
    have hbw5 := hbw4.trans hb5
    go_wp2_with (go_at_call 84; refine (Sb.writeString W.heap.size w1.heap.size _ _ _ (.inr hB5) (by have h1 := hlow.h; have h2 := hjn.h; have h3 := hcl.h; simp only [List.length_append, Lib.strCells_length, Lib.byteCells_length, ByteArray.size, List.size_toArray, RepL_len]; omega) hbw5.size).mono ?_)
    rintro e w6 ⟨rfl, hB6, hb6⟩
    have hbw6 := hbw5.trans hb6
    have hw4 : RowKit.wrap64 ((k : Int) - 1) = (k : Int) - 1 := by have h1 := hL.h; have h2 := h48.h; have h3 := hk.h; unfold RowKit.wrap64; omega
    go_wp2
    rw [hw4]
    have ek : n - (j + 1) = k := by have h3 := hk.h; omega
    have hB6' : Lib.BuilderAt 72 5 W.heap.size w1.heap.size (.pointer (some ⟨w1.heap.size, 0, none⟩)) (Lib.byteCells (lowT x n (j + 1))) w6 := by
      rw [lowT, pad9, ek, hd', hcs]
      simpa [Lib.strCells, Lib.byteCells] using hB6
    exact ih k _ _ (Nat.lt_succ_self k) ⟨(k : Int) - 1, _, _, _, _, _, _, _, _, _, _, _, _, _, _, _, _, _, _, w6, j + 1, by have h3 := hk.h; omega, rfl, rfl, hB6', hbw6⟩
end Go.Proofs.YtalklhbdpmggjaaDoor.Pw
namespace Go.Proofs.YtalklhbdpmggjaaDoor.Pw
open Go Go.RowKit Go.Lib
set_option linter.unusedVariables false
set_option linter.unusedSimpArgs false
def laid3 : List (String × DataW Unit) := [("math/bits.deBruijn32tab", Rows.laid_math_bits_deBruijn32tab), ("math/bits.deBruijn64tab", Rows.laid_math_bits_deBruijn64tab), ("internal/strconv.uint64pow10", Rows.laid_internal_strconv_uint64pow10)]
theorem gPow : Tryd.prog.globalNamed "internal/strconv.uint64pow10" = some 0 := by kernel_rfl
theorem g32 : Tryd.prog.globalNamed "math/bits.deBruijn32tab" = some 2 := by kernel_rfl
theorem g64 : Tryd.prog.globalNamed "math/bits.deBruijn64tab" = some 3 := by kernel_rfl
theorem tPow : (Tryd.prog.globals[0]?).map (·.type) = some 126 := by kernel_rfl
theorem uPow : Tryd.prog.underlying 126 = some (.array 20 115) ∧ Tryd.prog.underlying 115 = some (.int .u64) ∧ Tryd.prog.cellsOf 115 = 1 ∧ Tryd.prog.cellsOf 126 = 20 := ⟨by kernel_rfl, by kernel_rfl, by kernel_rfl, by kernel_rfl⟩
theorem pow_of_laid {W : World} (h : laidMetH Tryd.prog laid3 W) : TabIs Tryd.prog W "internal/strconv.uint64pow10" .u64 pow10 := by
  have h' : laidMet Tryd.prog laid3 W := h
  obtain ⟨ps, ⟨_, _, _, _, _, _, _, _, _, _, ⟨_, _, _, _, _, _, _, _, _, _, ⟨g', t', cs, fuel, p, q, hg', ht', hvar, hd, _, _⟩, _⟩, _⟩, _⟩ := h'
  obtain ⟨u1, u2, u3, u4⟩ := uPow
  obtain rfl := Option.some.inj (gPow.symm.trans hg')
  obtain rfl := Option.some.inj (tPow.symm.trans ht')
  unfold TabIs
  rw [hvar, ← cells_of_tab (zs := pow10) u1 u2 u3 u4 hd]
theorem gok_of_laid0 {W : World} (h : laidMetH Tryd.prog laid3 W) : ∀ g x, glob g = some x → RepP (fun _ => False) W x (.pointer (some ⟨g, 0, none⟩)) := fun g x hx => by
  have ht := pow_of_laid h
  unfold glob at hx
  split at hx
  · rename_i hg
    obtain rfl : g = 0 := by simpa using hg
    injection hx with hx
    subst hx
    have hc : ∀ i, i < 20 → W.cell? ⟨0, i, none⟩ = some (.int .u64 (pow10.getD i 0)) := fun i hi => ht.cell gPow i hi
    refine .pt _ 0 0 0 (fun j => .int .u64 (pow10.getD j 0)) ?_ (fun h => h) (fun j hj => ?_) ?_ (fun j pv hp => ?_)
    · have := hc 0 (by decide)
      unfold World.cell? at this
      split at this
      · rename_i c _ _ hh; exact lt_of_cells hh
      · cases this
    · simpa using hc j (by simpa [pow10] using hj)
    · exact fun j hj => rfl
    · rw [List.getElem?_map, Option.map_eq_some_iff] at hp
      obtain ⟨q, hq, rfl⟩ := hp
      show RepP _ W _ (.int .u64 (pow10.getD j 0))
      rw [List.getD_eq_getElem?_getD, hq]
      exact .v _ rfl
  · cases hx
theorem gok_of_laid {W : World} (h : laidMetH Tryd.prog laid3 W) : GOK (fun _ => False) W := ⟨gok_of_laid0 h, fun g cs hg => by
  have ht := pow_of_laid h
  unfold globRow at hg
  split at hg
  · rename_i hg0
    obtain rfl : g = 0 := by simpa using hg0
    injection hg with hg
    subst hg
    unfold TabIs World.var? at ht
    rw [gPow, Option.bind_some] at ht
    split at ht
    · rename_i c t fz he
      injection ht with ht
      subst ht
      exact ⟨lt_of_cells he, fun h => h, t, fz, he⟩
    · cases ht
  · cases hg⟩
def litCells (d : DataW Unit) : Array Value := match d with
  | .agg l => (l.map fun x => match x with | .lit (.int k z) => Value.int k z | _ => undef).toArray
  | _ => #[]
/-- A world that meets the condition: the settled one, the three tables laid. -/
noncomputable def laidWorld (os : Os) : World :=
  let w0 := World.holding Tryd.prog os ⟨#[], #[], []⟩
  { w0 with heap := ((w0.heap.modify 0 fun
      | .cells _ t frozen => .cells (litCells Rows.laid_internal_strconv_uint64pow10) t frozen
      | o => o).modify 2 fun
      | .cells _ t frozen => .cells (litCells Rows.laid_math_bits_deBruijn32tab) t frozen
      | o => o).modify 3 fun
      | .cells _ t frozen => .cells (litCells Rows.laid_math_bits_deBruijn64tab) t frozen
      | o => o }
theorem laid_met (os : Os) (args : Array Value) : laidMet Tryd.prog laid3 ((laidWorld os).forCall (fun _ _ => 0) ⟨#[], args, []⟩).memory :=
  (LaidIn.of_run [0, 2, 3] 8 (by kernel_rfl) (by kernel_rfl) (by kernel_rfl) (by kernel_rfl)).met
end Go.Proofs.YtalklhbdpmggjaaDoor.Pw
namespace Go.Proofs.YtalklhbdpmggjaaDoor.Pw
open Go.RowKit hiding wrap64
open Go Wd Px Mat
set_option linter.unusedVariables false
set_option linter.unusedSimpArgs false
theorem tab_of_gok {F : Nat → Prop} {W : World} (h : GOK F W) : Lib.TabIs Tryd.prog W "internal/strconv.uint64pow10" .u64 Lib.pow10Tab ∧ 0 < W.heap.size := by
  obtain ⟨a, _, t, fz, e⟩ := h.2 0 _ rfl
  refine ⟨?_, a⟩
  unfold Lib.TabIs World.var?
  rw [gPow, Option.bind_some, e]
  rfl
theorem text_gen (a : List Int) (ha : okN a = true) (h0 : a ≠ []) : Sound Tryd.prog 30 [N a] (.tup [bytes (textL a), I 0]) := by
  refine ⟨Entered.of Tryd.func30 rfl rfl, fun F W vs hF hG hl hv => ?_⟩
  obtain ⟨v, rfl⟩ : ∃ v, vs = [v] := by
    match vs, hl with
    | [v], _ => exact ⟨v, rfl⟩
  have hr := hv 0 (N a) v rfl rfl
  obtain ⟨Bk, o, cap, rfl, hB, hc⟩ := slice_cells hr h0
  have cV := (nat_Valid.c a).2 F W [.slice (some ⟨Bk, o, none⟩) a.length cap] hF hG rfl hv
  rw [ha] at cV
  have hpos := List.length_pos_iff.2 h0
  have hok := okN_iff.1 ha
  obtain ⟨ht, h00⟩ := tab_of_gok hG
  refine text_core (fun j => rd a j) a.length (a.length - 1) Bk o cap ⟨by omega⟩ ⟨hok.1⟩ W hB ⟨fun j hj => ?_⟩ ⟨fun j => hok.2.1.rd j⟩ ⟨fun w hb => Joins.tab_stays gPow ht hb (Nat.le_refl _)⟩ (cV.mono ?_) _ ⟨fun w hb => ?_⟩
  · rw [hc j hj, rd_lt (by omega)]; rfl
  · rintro e w1 ⟨u, rfl, hu, hb1⟩
    obtain rfl : u = .bool true := by cases hu; rfl
    exact ⟨rfl, hb1⟩
  · refine ⟨_, rfl, RepP.pair ?_ (RepP.v _ rfl), hb⟩
    unfold textL; rw [if_neg h0]
    exact RepP.v _ rfl
def textS (a : List Int) : List UInt8 × Int := if okN a = true then (textL a, 0) else ([], 3)
theorem nat_Text.c (a : List Int) : Sound Tryd.prog 30 [N a] (.tup [bytes (textS a).1, I (textS a).2]) := by
  unfold textS
  by_cases ha : okN a = true
  · rw [if_pos ha]
    by_cases h0 : a = []
    · subst h0
      have v := nat_Valid.c []
      rw [ha] at v
      rw [show textL [] = [48] from rfl]
      exact runO tok mixed [29] 300 6 (Obs.cons v Obs.nil) (by kernel_rfl)
    · exact text_gen a ha h0
  · rw [if_neg ha]
    have v := nat_Valid.c a
    replace ha : okN a = false := by simpa using ha
    rw [ha] at v
    exact runO tok mixed [29] 300 6 (Obs.cons v Obs.nil) (by kernel_rfl)
end Go.Proofs.YtalklhbdpmggjaaDoor.Pw
namespace Go.Proofs.YtalklhbdpmggjaaDoor.Px
open Go Go.Proofs.YtalklhbdpmggjaaDoor.Wd Go.Proofs.YtalklhbdpmggjaaDoor.Mat
set_option linter.unusedVariables false
def chr (b : ByteArray) (i : Int) : Int := ((b.data.toList.getD i.toNat 0).toNat : Int)
mutual
def parse_l1 : Nat → ByteArray → List Int → Int → Option (List Int × Int)
  | 0, _, _, _ => none
  | k + 1, b, out, e => if e > 0 then parse_l2 k b out e 0 (mx 0 (wrap64 (e - 9))) else (nat_trimmed.f k out).bind fun t => some (t, 0)
def parse_l2 : Nat → ByteArray → List Int → Int → Int → Int → Option (List Int × Int)
  | 0, _, _, _, _, _ => none
  | k + 1, b, out, e, l, i => if i < e then (if 0 ≤ i then (if i < (b.size : Int) then parse_l2 k b out e (wrap64 (wrap64 (l * 10) + wrap64 (IntKind.u8.wrap (chr b i - 48)))) (wrap64 (i + 1)) else none) else none) else (if out.length < 17592186044416 then parse_l1 k b (out ++ [l]) (wrap64 (e - 9)) else none)
end
def parse_l0 : Nat → ByteArray → Int → Option (List Int × Int)
  | 0, _, _ => none
  | k + 1, b, i => if i < (b.size : Int) then (if 0 ≤ i then (if chr b i < 48 then some ([], 3) else if chr b i > 57 then some ([], 3) else parse_l0 k b (wrap64 (i + 1))) else none) else (if (b.size : Int) > 432 then some ([], 2) else parse_l1 k b [] (b.size : Int))
theorem decV_cons (x : UInt8) (l : List UInt8) (v : Nat) : l.foldl (fun v c => 10 * v + (c.toNat - 48)) v = v * 10 ^ l.length + decV l := by
  induction l generalizing v with
  | nil => simp [decV]
  | cons c l ih =>
    unfold decV
    rw [List.foldl_cons, List.foldl_cons, ih, ih (10 * 0 + (c.toNat - 48)), List.length_cons, Nat.pow_succ]
    grind
theorem decV_append (a b : List UInt8) : decV (a ++ b) = decV a * 10 ^ b.length + decV b := by
  show (a ++ b).foldl _ 0 = _
  rw [List.foldl_append, decV_cons 0]; rfl
theorem digs_append {a b : List UInt8} : digs (a ++ b) = (digs a && digs b) := by unfold digs; rw [List.all_append]
theorem digs_take {l : List UInt8} (h : digs l = true) (n : Nat) : digs (l.take n) = true := by
  rw [← List.take_append_drop n l, digs_append, Bool.and_eq_true] at h; exact h.1
theorem digs_drop {l : List UInt8} (h : digs l = true) (n : Nat) : digs (l.drop n) = true := by
  rw [← List.take_append_drop n l, digs_append, Bool.and_eq_true] at h; exact h.2
theorem digs_at {l : List UInt8} (h : digs l = true) {i : Nat} (hi : i < l.length) : 48 ≤ l[i].toNat ∧ l[i].toNat ≤ 57 := by
  unfold digs at h; rw [List.all_eq_true] at h
  simpa using h l[i] (List.getElem_mem hi)
theorem pw_ten (m : Nat) : pw m = ((10 ^ (9 * m) : Nat) : Int) := by
  unfold pw; rw [Nat.pow_mul, Int.natCast_pow, show ((10 ^ 9 : Nat) : Int) = 1000000000 by decide]
theorem val_fits (m : Nat) {l : List UInt8} (hd : digs l = true) (hl : l.length ≤ 9 * m) : (decV l : Int) < pw m := by
  rw [pw_ten]; exact Int.ofNat_lt.2 (Nat.lt_of_lt_of_le (decV_lt _ l rfl hd) (Nat.pow_le_pow_right (by decide) hl))
theorem text_len (m : Nat) {n : Int} (h0 : 0 ≤ n) (h : n < pw m) (hm : 0 < m) : (Lib.decDigits n.toNat).length ≤ 9 * m := by
  rw [pw_ten] at h
  have h1 : n.toNat < 10 ^ (9 * m) := by rw [Int.toNat_lt h0]; exact h
  obtain ⟨k, hk⟩ : ∃ k, 9 * m = k + 1 := ⟨9 * m - 1, by omega⟩
  rw [hk] at h1 ⊢
  exact (pad_dec k n.toNat h1).1
theorem u8_digit {c : Int} (h0 : 48 ≤ c) (h1 : c ≤ 57) : wrap64 (IntKind.u8.wrap (c - 48)) = c - 48 := by
  have e : IntKind.u8.wrap (c - 48) = c - 48 := by rw [IntKind.wrap_u8]; omega
  rw [e]; exact w64 (by omega) (by omega)
theorem chr_at {b : ByteArray} {i : Nat} (hi : i < b.data.toList.length) : chr b (i : Int) = (b.data.toList[i].toNat : Int) := by
  unfold chr; rw [Int.toNat_natCast, List.getD_eq_getElem?_getD, List.getElem?_eq_getElem hi]; rfl
/-- The inner loop: the number of the digits from s on. -/
theorem ev_parse_l2 (b : ByteArray) (hd : digs b.data.toList = true) (hz : b.data.toList.length ≤ 432) (out : List Int) (ho : out.length ≤ 100) (e s : Nat) (he : e ≤ b.data.toList.length) (hs : e ≤ s + 9) (hse : s ≤ e) (r : List Int × Int)
    (hr : Ev (fun k => parse_l1 k b (out ++ [(decV ((b.data.toList.take e).drop s) : Int)]) ((e : Int) - 9)) r) :
    ∀ (d i : Nat), i + d = e → s ≤ i → Ev (fun k => parse_l2 k b out (e : Int) (decV ((b.data.toList.take i).drop s) : Int) (i : Int)) r := by
  intro d
  have hbs : b.size = b.data.toList.length := rfl
  induction d with
  | zero =>
    intro i hi hsi
    obtain rfl : i = e := by omega
    refine Ev.step (fun k => ?_) hr
    simp only [parse_l2]
    rw [if_neg (by omega), if_pos (by omega), w64 (by omega) (by omega)]
  | succ d ih =>
    intro i hi hsi
    have hil : i < b.data.toList.length := by omega
    have hc := digs_at hd hil
    refine Ev.step (fun k => ?_) (ih (i + 1) (by omega) (by omega))
    simp only [parse_l2]
    rw [if_pos (by omega), if_pos (by omega), if_pos (by omega), chr_at hil, u8_digit (by omega) (by omega)]
    have hlt := decV_lt _ ((b.data.toList.take i).drop s) rfl (digs_drop (digs_take hd i) s)
    have hll : ((b.data.toList.take i).drop s).length = i - s := by rw [List.length_drop, List.length_take]; omega
    rw [hll] at hlt
    have hp : 10 ^ (i - s) ≤ 10 ^ 9 := Nat.pow_le_pow_right (by decide) (by omega)
    have e1 : (b.data.toList.take (i + 1)).drop s = (b.data.toList.take i).drop s ++ [b.data.toList[i]] := by
      rw [List.take_succ_eq_append_getElem hil, List.drop_append_of_le_length (by rw [List.length_take]; omega)]
    rw [e1, decV_snoc, w64 (x := (decV ((b.data.toList.take i).drop s) : Int) * 10) (by omega) (by omega), w64 (by omega) (by omega), w64 (x := (i : Int) + 1) (by omega) (by omega)]
    congr 1
    · omega
theorem ev_parse_l1 (b : ByteArray) (hd : digs b.data.toList = true) (hz : b.data.toList.length ≤ 432) : ∀ (n : Nat) (out : List Int) (e : Int), e ≤ n → out.length ≤ 60 → Dig out → (0 ≤ e → e + 9 * out.length = b.data.toList.length) → (e ≤ 0 → out.length ≤ 49 ∧ -9 < e) →
    val out = (decV (b.data.toList.drop e.toNat) : Int) → Ev (fun k => parse_l1 k b out e) (dg (decV b.data.toList : Int), 0) := by
  intro n
  induction n with
  | zero =>
    intro out e hen ho hdg h1 h2 hv
    have ht := ev_trimmed out hdg (by omega)
    refine Ev.step (f := fun k => (nat_trimmed.f k out).bind fun t => some (t, 0)) (fun k => ?_) ?_
    · simp only [parse_l1]; rw [if_neg (by omega)]
    · rw [show e.toNat = 0 by omega, List.drop_zero] at hv
      rw [← hv]
      exact ht.bind (Ev.now _)
  | succ n ih =>
    intro out e hen ho hdg h1 h2 hv
    by_cases he : e > 0
    · obtain ⟨m, rfl⟩ : ∃ m : Nat, e = m := ⟨e.toNat, by omega⟩
      have hm := h1 (by omega)
      have hmx : mx 0 (wrap64 ((m : Int) - 9)) = ((m - 9 : Nat) : Int) := by rw [w64 (by omega) (by omega)]; unfold mx; split <;> omega
      have hlt := decV_lt _ ((b.data.toList.take m).drop (m - 9)) rfl (digs_drop (digs_take hd m) _)
      have hll : ((b.data.toList.take m).drop (m - 9)).length = m - (m - 9) := by rw [List.length_drop, List.length_take]; omega
      rw [hll] at hlt
      have hp : 10 ^ (m - (m - 9)) ≤ 10 ^ 9 := Nat.pow_le_pow_right (by decide) (by omega)
      have nx := ih (out ++ [(decV ((b.data.toList.take m).drop (m - 9)) : Int)]) ((m : Int) - 9) (by omega) (by rw [List.length_append, List.length_singleton]; omega) (hdg.append (Dig.cons (by omega) Dig.nil)) (fun h => by rw [List.length_append, List.length_singleton]; omega) (fun h => by rw [List.length_append, List.length_singleton]; omega) (by
        rw [val_append, hv, Int.toNat_natCast]
        have e2 : b.data.toList.drop ((m : Int) - 9).toNat = (b.data.toList.take m).drop (m - 9) ++ b.data.toList.drop m := by
          rw [show ((m : Int) - 9).toNat = m - 9 by omega]
          conv => lhs; rw [← List.take_append_drop m b.data.toList]
          rw [List.drop_append_of_le_length (by rw [List.length_take]; omega)]
        rw [e2, decV_append, pw_ten, List.length_drop, show b.data.toList.length - m = 9 * out.length by omega]
        simp only [val]
        push_cast
        rw [Int.add_zero, Int.mul_comm, Int.add_comm])
      have l2 := ev_parse_l2 b hd hz out (by omega) m (m - 9) (by omega) (by omega) (by omega) _ nx (m - (m - 9)) (m - 9) (by omega) (Nat.le_refl _)
      rw [show (b.data.toList.take (m - 9)).drop (m - 9) = [] from List.drop_eq_nil_of_le (by rw [List.length_take]; omega)] at l2
      refine Ev.step (fun k => ?_) l2
      simp only [parse_l1]
      rw [if_pos he, hmx]; rfl
    · have ht := ev_trimmed out hdg (by omega)
      refine Ev.step (f := fun k => (nat_trimmed.f k out).bind fun t => some (t, 0)) (fun k => ?_) ?_
      · simp only [parse_l1]; rw [if_neg (by omega)]
      · rw [show e.toNat = 0 by omega, List.drop_zero] at hv
        rw [← hv]
        exact ht.bind (Ev.now _)
/-- What Parse answers behind the first look. -/
def parseT (l : List UInt8) : List Int × Int := if digs l = true then (if 432 < l.length then ([], 2) else (dg (decV l : Int), 0)) else ([], 3)
theorem ev_parse_l0 (b : ByteArray) (hb : b.data.toList.length ≤ 9223372036854775806) : ∀ (d i : Nat), i + d = b.data.toList.length → digs (b.data.toList.take i) = true → Ev (fun k => parse_l0 k b (i : Int)) (parseT b.data.toList) := by
  have hbs : b.size = b.data.toList.length := rfl
  intro d
  induction d with
  | zero =>
    intro i hi hd
    rw [show i = b.data.toList.length by omega, List.take_length] at hd
    by_cases hl : 432 < b.data.toList.length
    · refine Ev.step (f := fun _ => some _) (fun k => ?_) (Ev.now _)
      simp only [parse_l0, parseT]
      rw [if_neg (by omega), if_pos (by omega), if_pos hd, if_pos hl]
    · have h := ev_parse_l1 b hd (by omega) b.data.toList.length [] (b.data.toList.length : Int) (Int.le_refl _) (by simp) Dig.nil (fun _ => by simp) (fun h => by simp; omega) (by rw [Int.toNat_natCast, List.drop_length]; rfl)
      refine Ev.step (fun k => ?_) (show Ev (fun k => parse_l1 k b [] (b.data.toList.length : Int)) (parseT b.data.toList) by unfold parseT; rw [if_pos hd, if_neg hl]; exact h)
      simp only [parse_l0]
      rw [if_neg (by omega), if_neg (by omega)]; rfl
  | succ d ih =>
    intro i hi hd
    have hil : i < b.data.toList.length := by omega
    have e1 : b.data.toList.take (i + 1) = b.data.toList.take i ++ [b.data.toList[i]] := List.take_succ_eq_append_getElem hil
    have bad : ¬ (48 ≤ b.data.toList[i].toNat ∧ b.data.toList[i].toNat ≤ 57) → parseT b.data.toList = ([], 3) := fun h => by
      unfold parseT; rw [if_neg fun hd => h (digs_at hd hil)]
    by_cases c1 : chr b (i : Int) < 48
    · rw [bad (by rw [chr_at hil] at c1; omega)]
      refine Ev.step (f := fun _ => some _) (fun k => ?_) (Ev.now _)
      simp only [parse_l0]
      rw [if_pos (by omega), if_pos (by omega), if_pos c1]
    · by_cases c2 : chr b (i : Int) > 57
      · rw [bad (by rw [chr_at hil] at c2; omega)]
        refine Ev.step (f := fun _ => some _) (fun k => ?_) (Ev.now _)
        simp only [parse_l0]
        rw [if_pos (by omega), if_pos (by omega), if_neg c1, if_pos c2]
      · refine Ev.step (fun k => ?_) (ih (i + 1) (by omega) (by
          rw [e1, digs_append, hd]
          rw [chr_at hil] at c1 c2
          show (decide (48 ≤ b.data.toList[i].toNat) && decide (b.data.toList[i].toNat ≤ 57) && true) = true
          rw [decide_eq_true (by omega), decide_eq_true (by omega)]; rfl))
        simp only [parse_l0]
        rw [if_pos (by omega), if_pos (by omega), if_neg c1, if_neg c2, w64 (by omega) (by omega)]; rfl
end Go.Proofs.YtalklhbdpmggjaaDoor.Px
