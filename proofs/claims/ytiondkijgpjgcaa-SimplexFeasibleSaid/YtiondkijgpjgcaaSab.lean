/- The functions of the program as functions of values, part 2: a proof's lemmas, with no condition of their own. -/
import Derived.Laws.Strings2
import Derived.Orders
import Derived.LoopN
import Derived.Test.YtiondkijgpjgcaaSaa
set_option linter.unusedVariables false
set_option linter.unusedSimpArgs false
namespace Go.Proofs.Ytiondkijgpjgcaa.Pw
open Go Go.RowKit
section ops
variable {P : Program} {T : Tab} {F : Nat → Prop} {μ : Nat → Option Nat} {st : Store} {W : World} {new : Nat}
theorem pure1_eq {x : AV} {e : Eff} {c : Prop} (h : pure1 x = some (e, c)) : e = ⟨x, [], []⟩ := by
  unfold pure1 at h; injection h with h; injection h with h _; exact h.symm
theorem Does.rd {s : Sem Next} {a : AV} {u : List (Nat × Option Blk)} {rd rd' : List Nat} (h : Does P F μ st W new s ⟨a, u, rd⟩) : Does P F μ st W new s ⟨a, u, rd'⟩ := h
theorem builtin_run {b : Builtin} {args : Array Operand} {ts : Array TypeId} {ρ : Operand → Value} {dst ty pos after guard} :
    execOp ρ { dst, op := .call { callee := .builtin b, args, argTypes := ts }, type := ty, pos, after, guard } = builtin b ts ty (args.map fun | .const _ => true | _ => false) (args.map ρ) := rfl
theorem ints_some {a : AV} {q : IntKind × Int} (h : ints a = some q) : a = .p (.v (.int q.1 q.2)) := by
  unfold ints at h
  split at h
  · injection h with h; subst h; rfl
  · cases h
theorem pop_call_sound (hT : TOK P T) (hS : RepS F μ st W) (hn : μ new = none) (hs : st new = none) {cl : Call} {dst : Option Tmp} {ty : TypeId} {pos : String} {after : Array Edge} {guard : Option (Nat × Bool)} {ρA : Operand → AV} {ρ : Operand → Value}
    (hρ : ∀ x ∈ cl.operands, RepA (Mut F μ st) μ W (ρA x) (ρ x)) {e : Eff} {c : Prop} (h : pop T (.call cl) ρA st new = some (e, c)) (hc : c) :
    Does P F μ st W new (execOp ρ { dst, op := .call cl, type := ty, pos, after, guard }) e := by
  obtain ⟨callee, args, ts⟩ := cl
  obtain ⟨args⟩ := args
  obtain ⟨ts⟩ := ts
  cases callee with
  | value f => simp [pop] at h
  | invoke r m => simp [pop] at h
  | builtin b =>
    have hρ' : ∀ x ∈ args, RepA (Mut F μ st) μ W (ρA x) (ρ x) := fun x hx => hρ x (by simp [Call.operands, hx])
    rw [builtin_run]
    cases b <;> simp only [pop, reduceCtorEq] at h
    case len =>
      split at h <;> try cases h
      rename_i x t
      simp only [Option.bind_eq_some_iff] at h
      obtain ⟨y, hy, h⟩ := h
      have hx := hρ' x (by simp)
      have len : ∀ (a : Option Addr) (n cap : Nat) el, y.elem = some el → ρ x = .slice a n cap → (builtin .len #[t] ty (#[x].map fun | .const _ => true | _ => false) (#[x].map ρ)).run P W = .ok (.value (.int .i64 n)) W := fun a n cap el hel hv => by
        have hu := (hT.facts hy).elem el hel
        simp [builtin, Builtin.len_, hv, run_underlying hu, goInt]
      split at h
      · rename_i el n cs hel hxa
        rw [hxa] at hx
        rw [pure1_eq h]
        obtain ⟨a, cap, hv, _⟩ := hx.p_inv.lst_inv
        exact .value hS (len a n cap el hel hv) (.p _ _ (.v _ rfl))
      · rename_i el b o n k hel hxa
        rw [hxa] at hx
        rw [pure1_eq h]
        rcases hx.sl_inv with ⟨hv, _, rfl⟩ | ⟨B, cap, _, _, hv, _⟩
        · exact .value hS (len none 0 0 el hel hv) (.p _ _ (.v _ rfl))
        · exact .value hS (len _ n cap el hel hv) (.p _ _ (.v _ rfl))
      · rename_i el hel hxa
        rw [hxa] at hx
        rw [pure1_eq h]
        exact .value hS (len none 0 0 el hel hx.v_inv) (.p _ _ (.v _ rfl))
      · rename_i s hel hxa
        split at h
        · rename_i hstr
          rw [hxa] at hx
          rw [pure1_eq h]
          have hu := (hT.facts hy).str hstr
          refine .value (v := .int .i64 s.size) hS ?_ (.p _ _ (.v _ rfl))
          simp [builtin, Builtin.len_, hx.v_inv, run_underlying hu, goInt]
        · cases h
      · cases h
    case max =>
      split at h <;> try cases h
      rename_i x y
      simp only [Option.bind_eq_some_iff] at h
      obtain ⟨a, ha, b, hb, h⟩ := h
      rw [pure1_eq h]
      have h1 := ints_inv ha (hρ' x (by simp)); have h2 := ints_inv hb (hρ' y (by simp))
      refine .value (v := .int a.1 (if b.2 > a.2 then b.2 else a.2)) hS ?_ (.p _ _ (.v _ rfl))
      simp [builtin, Builtin.max_, h1, h2, Builtin.max2]
    case min =>
      split at h <;> try cases h
      rename_i x y
      simp only [Option.bind_eq_some_iff] at h
      obtain ⟨a, ha, b, hb, h⟩ := h
      rw [pure1_eq h]
      have h1 := ints_inv ha (hρ' x (by simp)); have h2 := ints_inv hb (hρ' y (by simp))
      refine .value (v := .int a.1 (if b.2 < a.2 then b.2 else a.2)) hS ?_ (.p _ _ (.v _ rfl))
      simp [builtin, Builtin.min_, h1, h2, Builtin.min2]
    case append =>
      split at h <;> try cases h
      rename_i x y t t'
      split at h <;> try cases h
      rename_i htt
      simp only [beq_iff_eq] at htt; subst htt
      simp only [Option.bind_eq_some_iff] at h
      obtain ⟨u, hu, el, hel, z, hz, h⟩ := h
      split at h <;> try cases h
      rename_i h0
      simp only [Option.bind_eq_some_iff] at h
      obtain ⟨q, hq, h⟩ := h
      have hx := hρ' x (by simp)
      have hy := hρ' y (by simp)
      have h0' : z.size ≠ 0 := by simpa using h0
      split at h
      · rename_i hxa
        rw [hxa] at hx
        injection h with h; injection h with h1 h2; subst h1; subst h2
        have := (does_append (ty := ty) hT hS hn hs hu hel hz h0' hq hy hc.1).1 hx.v_inv hc.2.1 hc.2.2
        simpa [builtin] using this
      · rename_i b n k hxa
        split at h <;> try cases h
        rename_i hk
        simp only [Bool.and_eq_true, beq_iff_eq] at hk
        obtain ⟨rfl, _⟩ := hk
        simp only [Option.bind_eq_some_iff] at h
        obtain ⟨d, hd, h⟩ := h
        split at h <;> try cases h
        rename_i hde
        rw [hxa] at hx
        have := (does_append (ty := ty) hT hS hn hs hu hel hz h0' hq hy hc.2.1).2 n b d (b :: q.2.2.2) hd (by simpa using hde) hc.1 hx hc.2.2.1 hc.2.2.2
        simpa [builtin] using this
      · cases h
    case copy =>
      split at h <;> try cases h
      rename_i x y t t'
      simp only [Option.bind_eq_some_iff] at h
      obtain ⟨u, hu, el, hel, z, hz, h⟩ := h
      split at h <;> try cases h
      simp only [Option.bind_eq_some_iff] at h
      obtain ⟨q, hq, h⟩ := h
      have hx := hρ' x (by simp)
      have hy := hρ' y (by simp)
      split at h
      · rename_i b o n k hxa
        split at h <;> try cases h
        rename_i hk
        simp only [Bool.and_eq_true, beq_iff_eq] at hk
        obtain ⟨rfl, _⟩ := hk
        simp only [Option.bind_eq_some_iff] at h
        obtain ⟨d, hd, h⟩ := h
        injection h with h; injection h with h1 h2; subst h1; subst h2
        rw [hxa] at hx
        have := does_copy (new := new) (ty := ty) (t' := t') (rd := b :: q.2.2.2) hT hS hu hel hz hq hy hc.1 hd hc.2 hx
        simpa [builtin] using this
      · cases h
end ops
end Go.Proofs.Ytiondkijgpjgcaa.Pw
namespace Go.Proofs.Ytiondkijgpjgcaa.Pw
open Go Go.RowKit
section ops
variable {P : Program} {T : Tab} {F : Nat → Prop} {μ : Nat → Option Nat} {st : Store} {W : World} {new : Nat}
theorem opt_int {o : Option Operand} {ρ : Operand → Value} {ρA : Operand → AV} {M : Nat → Prop} (h : ∀ x ∈ o.toArray, RepA M μ W (ρA x) (ρ x)) {x : Operand} (hx : o = some x) {q : IntKind × Int} (hi : ints (ρA x) = some q) (h0 : 0 ≤ q.2) : ∃ k, o.map ρ = some (.int k q.2.toNat) := by
  subst hx
  have := ints_inv (k := q.1) (n := q.2) hi (h x (by simp))
  exact ⟨q.1, by simp [this, Int.toNat_of_nonneg h0]⟩
theorem pop_sound (hT : TOK P T) (hS : RepS F μ st W) (hn : μ new = none) (hs : st new = none) (o : Oper) {ρA : Operand → AV} {ρ : Operand → Value}
    (hρ : ∀ x ∈ o.op.operands, RepA (Mut F μ st) μ W (ρA x) (ρ x)) {e : Eff} {c : Prop} (h : pop T o.op ρA st new = some (e, c)) (hc : c) : Does P F μ st W new (execOp ρ o) e := by
  obtain ⟨dst, op, ty, pos, after, guard⟩ := o
  cases op with
  | call cl => exact pop_call_sound hT hS hn hs hρ h hc
  | move x => rw [pure1_eq h]; exact .value hS rfl (hρ x (by simp [Op.operands]))
  | assign x => rw [pure1_eq h]; exact .value hS rfl (hρ x (by simp [Op.operands]))
  | pick x a b =>
    have hx := hρ x (by simp [Op.operands]); have ha := hρ a (by simp [Op.operands]); have hb := hρ b (by simp [Op.operands])
    simp only [pop] at h
    split at h
    · rename_i t hxa
      rw [hxa] at hx
      have hr : (execOp ρ { dst, op := .pick x a b, type := ty, pos, after, guard }).run P W = .ok (.value (if t then ρ a else ρ b)) W := by
        simp [execOp, hx.v_inv, asBool]
      split at h
      · rename_i p q hpa hqa
        rw [hpa] at ha; rw [hqa] at hb
        rw [pure1_eq h]
        refine .value hS hr ?_
        rw [ha.v_inv, hb.v_inv]
        cases t <;> exact .p _ _ (.v _ rfl)
      · rw [pure1_eq h]
        refine .value hS hr ?_
        cases t <;> simpa
    · cases h
  | alloc el =>
    simp only [pop, Option.bind_eq_some_iff] at h
    obtain ⟨y, hy, h⟩ := h
    injection h with h; injection h with h1 h2; subst h1; subst h2
    exact does_alloc hT hS hn hs hy
  | box el x =>
    simp only [pop] at h
    split at h
    · rename_i hx
      injection h with h; injection h with h1 h2; subst h1; subst h2
      exact does_box hS hn hs hx (hρ x (by simp [Op.operands]))
    · cases h
  | build t parts =>
    simp only [pop, Option.bind_eq_some_iff] at h
    obtain ⟨y, hy, h⟩ := h
    split at h
    · rename_i ne hne
      simp only [Option.bind_eq_some_iff] at h
      obtain ⟨z, hz, cs, hcs, h⟩ := h
      rw [pure1_eq h]
      exact does_buildA hT hS hy hne hz (fun x hx => hρ x (by simpa [Op.operands] using hx)) hcs
    · split at h
      · rename_i hf
        simp only [Option.bind_eq_some_iff] at h
        obtain ⟨cs, hcs, h⟩ := h
        rw [pure1_eq h]
        exact does_build hT hS hy (by simp at hf; exact hf.2) (fun x hx => hρ x (by simpa [Op.operands] using hx)) hcs
      · cases h
  | buildSlice t n parts =>
    simp only [pop, Option.bind_eq_some_iff] at h
    obtain ⟨y, hy, el, hel, z, hz, h⟩ := h
    split at h
    · rename_i hf
      simp only [Option.bind_eq_some_iff] at h
      obtain ⟨cs, hcs, h⟩ := h
      injection h with h; injection h with h1 h2; subst h1; subst h2
      simp only [Bool.and_eq_true, Nat.ble_eq, Bool.not_eq_true', beq_eq_false_iff_ne] at hf
      exact does_buildSlice hT hS hn hs hy hel hz hf.1.1 hf.1.2 hf.2 (fun x hx => hρ x (by simpa [Op.operands] using hx)) hcs
    · cases h
  | load t a =>
    have ha := hρ a (by simp [Op.operands])
    simp only [pop, Option.bind_eq_some_iff] at h
    obtain ⟨y, hy, h⟩ := h
    split at h
    · cases h
    · rename_i h0
      have h0' : y.size ≠ 0 := by simpa using h0
      split at h
      · rename_i b o hxa
        rw [hxa] at ha
        simp only [Option.bind_eq_some_iff] at h
        obtain ⟨k, hk, h⟩ := h
        injection h with h; injection h with h1 h2; subst h1; subst h2
        exact does_load hT hS hy h0' hk ha hc.1 hc.2
      · rename_i cs o hxa
        rw [hxa] at ha
        injection h with h; injection h with h1 h2; subst h1; subst h2
        exact does_load_pt hT hS hy h0' ha hc.1 hc.2
      · cases h
  | store t a x =>
    have ha := hρ a (by simp [Op.operands]); have hx := hρ x (by simp [Op.operands])
    simp only [pop, Option.bind_eq_some_iff] at h
    obtain ⟨y, hy, h⟩ := h
    split at h
    · rename_i hf
      simp only [Bool.and_eq_true, beq_iff_eq] at hf
      split at h
      · rename_i b o hxa
        rw [hxa] at ha
        simp only [Option.bind_eq_some_iff] at h
        obtain ⟨k, hk, h⟩ := h
        injection h with h; injection h with h1 h2; subst h1; subst h2
        exact does_store hT hS hy hk ha hf.1 hf.2 hx hc
      · cases h
    · cases h
  | nilCheck x =>
    have hx := hρ x (by simp [Op.operands])
    simp only [pop] at h
    split at h
    · rename_i b o hxa
      rw [hxa] at hx
      rw [pure1_eq h]
      obtain ⟨B, hB, hv⟩ := hx.own_inv
      refine .value hS (v := .pointer (some ⟨B, o, none⟩)) ?_ (.own _ _ _ hB)
      simp [execOp, hv]
    · rename_i cs o hxa
      rw [hxa] at hx
      rw [pure1_eq h]
      obtain ⟨B, base, hv, hB, hM, hr⟩ := hx.p_inv.pt_inv
      refine .value hS (v := .pointer (some ⟨B, base + o, none⟩)) ?_ (.p _ _ (.of_pt hB hM hr))
      simp [execOp, hv]
    · rename_i f cs hxa
      rw [hxa] at hx
      rw [pure1_eq h]
      refine .value hS (v := ρ x) ?_ hx
      simp only [execOp]
      generalize ρ x = w at hx
      cases hx with | fn _ _ xs hl hr => rfl
    · cases h
  | binOp op t x y yt =>
    have hx := hρ x (by simp [Op.operands]); have hy := hρ y (by simp [Op.operands])
    simp only [pop] at h
    split at h
    · rename_i k a k' b hxa hya
      rw [hxa] at hx; rw [hya] at hy
      split at h
      · rename_i hk
        subst hk
        simp only [Option.bind_eq_some_iff] at h
        obtain ⟨r, hr, h⟩ := h
        injection h with h; injection h with h1 h2; subst h1; subst h2
        have hrun := bin_run (P := P) (W := W) (t := t) (x := x) (y := y) (r := r.1) (c := r.2) hr hc
        refine .value hS (v := r.1) ?_ (.p _ _ (.v _ ?_))
        · simp only [execOp, hx.v_inv, hy.v_inv]; exact run_v hrun
        · cases op <;> simp only [binA, Option.some.injEq, reduceCtorEq] at hr <;> subst hr <;> rfl
      · cases h
    · rename_i a b hxa hya
      rw [hxa] at hx; rw [hya] at hy
      simp only [Option.bind_eq_some_iff] at h
      obtain ⟨z, hz, h⟩ := h
      split at h
      · rename_i hb
        have hu := (hT.facts hz).bool hb
        split at h
        · rw [pure1_eq h]
          refine .value hS (v := .bool (a == b)) ?_ (.p _ _ (.v _ rfl))
          simp only [execOp, hx.v_inv, hy.v_inv]; exact run_v (bool_run hu (.inl ⟨rfl, rfl⟩))
        · rw [pure1_eq h]
          refine .value hS (v := .bool (!(a == b))) ?_ (.p _ _ (.v _ rfl))
          simp only [execOp, hx.v_inv, hy.v_inv]; exact run_v (bool_run hu (.inr ⟨rfl, rfl⟩))
        · cases h
      · cases h
    · rename_i a b hxa hya
      rw [hxa] at hx; rw [hya] at hy
      simp only [Option.bind_eq_some_iff] at h
      obtain ⟨r, hr, h⟩ := h
      injection h with h; injection h with h1 h2; subst h1; subst h2
      have hrun := str_run (P := P) (W := W) (t := t) (x := x) (y := y) (r := r.1) (c := r.2) hr hc
      refine .value hS (v := r.1) ?_ (.p _ _ (.v _ ?_))
      · simp only [execOp, hx.v_inv, hy.v_inv]; exact run_v hrun
      · cases op <;> simp only [strA, Option.some.injEq, reduceCtorEq] at hr <;> subst hr <;> rfl
    · cases h
  | unOp op t x =>
    have hx := hρ x (by simp [Op.operands])
    simp only [pop] at h
    split at h
    · rename_i k n hxa
      rw [hxa] at hx
      rw [pure1_eq h]
      refine .value hS (v := .int k (k.wrap (0 - n))) ?_ (.p _ _ (.v _ rfl))
      simp [execOp, hx.v_inv, Op.unary, Op.intArith]
    · rename_i b hxa
      rw [hxa] at hx
      rw [pure1_eq h]
      refine .value hS (v := .bool !b) ?_ (.p _ _ (.v _ rfl))
      simp [execOp, hx.v_inv, Op.unary]
    · cases h
  | convert src dt x =>
    have hx := hρ x (by simp [Op.operands])
    simp only [pop, Option.bind_eq_some_iff] at h
    obtain ⟨y, hy, z, hz, h⟩ := h
    split at h
    · rename_i k q n hk hxa
      rw [hxa] at hx
      rw [pure1_eq h]
      obtain ⟨d, hd⟩ := (hT.facts hy).und
      have hu := (hT.facts hz).int k hk
      refine .value hS (v := .int k (k.wrap n)) ?_ (.p _ _ (.v _ rfl))
      simp [execOp, hx.v_inv, convert, run_underlying hd, run_underlying hu, Conv.intToInt]
    · cases h
  | makeFunc fn first caps =>
    cases fn with
    | func f =>
      simp only [pop] at h
      split at h
      · rename_i h0
        rw [pure1_eq h]
        have hf : first = #[] := by simpa using h0
        subst hf
        refine .value hS (v := .func (.func f) #[] (caps.toList.map ρ).toArray) ?_ (.fn _ _ _ (by simp) (fun j a x ha hx => ?_))
        · simp only [execOp, Instr.makeFunc]
          refine run_v ?_
          rw [show Array.map ρ caps = (caps.toList.map ρ).toArray from by apply Array.ext'; simp, show Array.map ρ (#[] : Array Operand) = #[] from by simp]
          rfl
        · simp only [List.getElem?_map, Option.map_eq_some_iff] at ha hx
          obtain ⟨q, hq, rfl⟩ := ha
          obtain ⟨q', hq', rfl⟩ := hx
          rw [hq] at hq'; injection hq' with hq'; subst hq'
          exact hρ q (by simp [Op.operands]; exact List.mem_of_getElem? hq |> fun h => by simpa using h)
      · cases h
    | _ => simp [pop] at h
  | makeSlice t l cp =>
    have hl := hρ l (by simp [Op.operands]); have hcp := hρ cp (by simp [Op.operands])
    simp only [pop, Option.bind_eq_some_iff] at h
    obtain ⟨y, hy, el, hel, z, hz, h⟩ := h
    split at h
    · cases h
    · rename_i h0
      split at h
      · rename_i k n k' m hla hca
        rw [hla] at hl; rw [hca] at hcp
        injection h with h; injection h with h1 h2; subst h1; subst h2
        obtain ⟨rfl, hc⟩ := hc
        have := does_makeSlice (k := k) (k' := k') hT hS hn hs hy hel hz (by simpa using h0) hc.1 hc.2.1 hc.2.2
        simp only [execOp, hl.v_inv, hcp.v_inv]; exact this
      · cases h
  | slice t x lo hi mx =>
    cases mx with
    | some _ => simp [pop] at h
    | none =>
      have hx := hρ x (by simp [Op.operands])
      have hlo : ∀ x ∈ lo.toArray, RepA (Mut F μ st) μ W (ρA x) (ρ x) := fun x hx => hρ x (by simp [Op.operands] at hx ⊢; simp [hx])
      have hhi : ∀ x ∈ hi.toArray, RepA (Mut F μ st) μ W (ρA x) (ρ x) := fun x hx => hρ x (by simp [Op.operands] at hx ⊢; simp [hx])
      simp only [pop, Option.bind_eq_some_iff] at h
      obtain ⟨y, hy, h⟩ := h
      split at h
      · rename_i hstr
        have hu := (hT.facts hy).str hstr
        unfold sliceS at h
        split at h
        · rename_i s l hh hxa hlq hhq
          obtain ⟨lq, rfl, rfl⟩ := Option.map_eq_some_iff.1 hlq
          obtain ⟨hq, rfl, rfl⟩ := Option.map_eq_some_iff.1 hhq
          simp only [Option.bind_eq_some_iff] at h
          obtain ⟨lv, hlv, hv, hhv, h⟩ := h
          rw [hxa] at hx
          injection h with h; injection h with h1 h2; subst h1; subst h2
          obtain ⟨kk, hkk⟩ := opt_int hlo rfl hlv hc.1
          obtain ⟨k2, hk2⟩ := opt_int hhi rfl hhv (by omega)
          refine .value hS (v := .string (s.extract lv.2.toNat hv.2.toNat)) ?_ (.p _ _ (.v _ rfl))
          simp only [execOp, hkk, hk2, hx.v_inv]
          refine run_v ?_
          have := run_slice_string W t s kk k2 (lv.2.toNat : Int) (hv.2.toNat : Int) hu (by omega) (by omega) (by omega)
          simp only [Int.toNat_natCast] at this
          rw [← this]
          simp [Instr.sliceAt, run_underlying hu]
        · cases h
      simp only [Option.bind_eq_some_iff] at h
      obtain ⟨el, hel, z, hz, h⟩ := h
      unfold sliceA at h
      split at h
      · cases h
      · rename_i hv hhv
        have hbound : ∀ n : Nat, lenA (ρA x) = some (n : Int) → 0 ≤ hv → (hi.map ρ = none ∧ hv.toNat = n) ∨ ∃ k, hi.map ρ = some (.int k hv.toNat) := fun n hn h0 => by
          cases hi with
          | none => left; simp only [Option.map_none] at hhv; rw [hn] at hhv; injection hhv with hhv; exact ⟨rfl, by omega⟩
          | some q =>
            right
            simp only [Option.map_some, Option.map_eq_some_iff] at hhv
            obtain ⟨w, hw, rfl⟩ := hhv
            exact opt_int hhi rfl hw h0
        split at h
        · rename_i b o n k hlq hxa
          rw [Option.map_eq_none_iff] at hlq; subst hlq
          split at h
          · rename_i hk
            simp only [beq_iff_eq] at hk; subst hk
            rw [hxa] at hx
            injection h with h; injection h with h1 h2; subst h1; subst h2
            exact does_slice_sl0 hT hS hy hel hz hx (hbound n (by rw [hxa]; rfl) hc.1) (by omega)
          · cases h
        · rename_i l b o n k hlq hxa
          obtain ⟨lq, rfl, rfl⟩ := Option.map_eq_some_iff.1 hlq
          split at h
          · rename_i hk
            simp only [beq_iff_eq] at hk; subst hk
            simp only [Option.bind_eq_some_iff] at h
            obtain ⟨lv, hlv, h⟩ := h
            rw [hxa] at hx
            injection h with h; injection h with h1 h2; subst h1; subst h2
            obtain ⟨kk, hkk⟩ := opt_int hlo rfl hlv hc.1
            have := does_slice_sl (new := new) (l := lv.2.toNat) (k := kk) hT hS hy hel hz hx (hbound n (by rw [hxa]; rfl) (by omega)) (by omega) (by omega)
            have e1 : (hv - lv.2).toNat = hv.toNat - lv.2.toNat := by omega
            rw [e1]
            simp only [execOp, hkk]; exact this
          · cases h
        · rename_i n cs hlq hxa
          rw [Option.map_eq_none_iff] at hlq; subst hlq
          rw [hxa] at hx
          injection h with h; injection h with h1 h2; subst h1; subst h2
          have := does_slice_lst (new := new) (l := 0) (lo := none) hT hS hy hel hz hx (.inl ⟨rfl, rfl⟩) (hbound n (by rw [hxa]; rfl) hc.1) (Nat.zero_le _) (by omega)
          simpa [execOp] using this
        · rename_i l n cs hlq hxa
          obtain ⟨lq, rfl, rfl⟩ := Option.map_eq_some_iff.1 hlq
          simp only [Option.bind_eq_some_iff] at h
          obtain ⟨lv, hlv, h⟩ := h
          rw [hxa] at hx
          injection h with h; injection h with h1 h2; subst h1; subst h2
          obtain ⟨kk, hkk⟩ := opt_int hlo rfl hlv hc.1
          have := does_slice_lst (new := new) (l := lv.2.toNat) (lo := some (.int kk lv.2.toNat)) hT hS hy hel hz hx (.inr ⟨kk, rfl⟩) (hbound n (by rw [hxa]; rfl) (by omega)) (by omega) (by omega)
          have e1 : (hv - lv.2).toNat = hv.toNat - lv.2.toNat := by omega
          rw [e1]
          simp only [execOp, hkk]; exact this
        · cases h
  | fieldAddr s x f =>
    have hx := hρ x (by simp [Op.operands])
    simp only [pop, Option.bind_eq_some_iff] at h
    obtain ⟨y, hy, q, hq, h⟩ := h
    split at h
    · cases h
    · rename_i h0
      have h0' : q.2 ≠ 0 := by simpa using h0
      split at h
      · rename_i b o hxa
        rw [hxa] at hx
        rw [pure1_eq h]
        exact does_fieldAddr hT hS hy hq h0' hx
      · rename_i cs o hxa
        rw [hxa] at hx
        rw [pure1_eq h]
        exact does_fieldAddr_pt hT hS hy hq h0' hx
      · cases h
  | field s x f =>
    have hx := hρ x (by simp [Op.operands])
    simp only [pop, Option.bind_eq_some_iff] at h
    obtain ⟨y, hy, q, hq, ag, hag, h⟩ := h
    split at h
    · cases h
    · split at h
      · rename_i cs hxa
        rw [hxa] at hx
        injection h with h; injection h with h1 h2; subst h1; subst h2
        obtain ⟨xs, hv, hL⟩ := RepP.agg_inv (μ := μ) hx.p_inv
        have := does_field (new := new) (k := .pc 0 cs) hT hS hy hq hag hL (by simpa [Blk.cells] using hc.1) hc.2
        simp only [execOp, hv]; exact this
      · rename_i cs hxa
        rw [hxa] at hx
        injection h with h; injection h with h1 h2; subst h1; subst h2
        obtain ⟨xs, hv, hL⟩ := RepA.agg_inv hx
        have := does_field (new := new) (k := .mc 0 cs) hT hS hy hq hag hL (by simpa [Blk.cells] using hc.1) hc.2
        simp only [execOp, hv]; exact this
      · cases h
  | indexAddr t x i =>
    have hx := hρ x (by simp [Op.operands]); have hi := hρ i (by simp [Op.operands])
    simp only [pop, Option.bind_eq_some_iff] at h
    obtain ⟨y, hy, h⟩ := h
    split at h
    · rename_i ne hne
      simp only [Option.bind_eq_some_iff] at h
      obtain ⟨z, hz, q, hq, h⟩ := h
      have hv := ints_inv (k := q.1) (n := q.2) hq hi
      split at h
      · rename_i b o hxa
        rw [hxa] at hx
        injection h with h; injection h with h1 h2; subst h1; subst h2
        simp only [execOp, hv]
        exact does_indexArrO hT hS hy hne hz hx hc.1 hc.2
      · rename_i cs o hxa
        rw [hxa] at hx
        injection h with h; injection h with h1 h2; subst h1; subst h2
        simp only [execOp, hv]
        exact does_indexArrP hT hS hy hne hz hx hc.1 hc.2
      · cases h
    simp only [Option.bind_eq_some_iff] at h
    obtain ⟨el, hel, z, hz, q, hq, h⟩ := h
    have hv := ints_inv (k := q.1) (n := q.2) hq hi
    split at h
    · rename_i n cs hxa
      rw [hxa] at hx
      injection h with h; injection h with h1 h2; subst h1; subst h2
      simp only [execOp, hv]
      exact does_index_lst hT hS hy hel hz hx hc.1 hc.2.1 (fun e => by have := hc.2.2; rw [e] at this; simp at this)
    · rename_i b o n k hxa
      split at h
      · rename_i hk
        simp only [beq_iff_eq] at hk; subst hk
        rw [hxa] at hx
        injection h with h; injection h with h1 h2; subst h1; subst h2
        simp only [execOp, hv]
        exact does_index_sl hT hS hy hel hz hx hc.1 hc.2
      · cases h
    · cases h
  | index t x i =>
    have hx := hρ x (by simp [Op.operands]); have hi := hρ i (by simp [Op.operands])
    simp only [pop, Option.bind_eq_some_iff] at h
    obtain ⟨y, hy, h⟩ := h
    split at h
    · rename_i hstr
      simp only [Option.bind_eq_some_iff] at h
      obtain ⟨q, hq, h⟩ := h
      have hv := ints_inv (k := q.1) (n := q.2) hq hi
      split at h
      · rename_i s hxa
        rw [hxa] at hx
        injection h with h; injection h with h1 h2; subst h1; subst h2
        have hu := (hT.facts hy).str hstr
        refine .value hS (v := .int .u8 ((s.data.toList.getD q.2.toNat 0).toNat : Int)) ?_ (.p _ _ (.v _ rfl))
        have hlt : q.2.toNat < s.size := by omega
        have hlt' : q.2.toNat < s.data.size := hlt
        have hget : s[q.2.toNat]? = some (s.data.toList.getD q.2.toNat 0) := by
          rw [getElem?_pos s q.2.toNat hlt]
          have hg : s[q.2.toNat] = s.data[q.2.toNat] := rfl
          rw [hg]
          rw [List.getD_eq_getElem?_getD, List.getElem?_eq_getElem (by simpa using hlt')]
          simp
        simp only [execOp, hv, hx.v_inv]
        exact run_v (by simp [Instr.index, asIntOf, run_underlying hu, hc.1, hget])
      · cases h
    · split at h
      · rename_i ne hne
        simp only [Option.bind_eq_some_iff] at h
        obtain ⟨z, hz, q, hq, h⟩ := h
        have hv := ints_inv (k := q.1) (n := q.2) hq hi
        split at h
        · rename_i cs hxa
          rw [hxa] at hx
          injection h with h; injection h with h1 h2; subst h1; subst h2
          obtain ⟨xs, hxv, hL⟩ := RepP.agg_inv (μ := μ) hx.p_inv
          have := does_indexArr (new := new) (kk := q.1) (k := .pc 0 cs) hT hS hy hne hz hL hc.1 hc.2.1 (by simpa [Blk.cells] using hc.2.2.1) hc.2.2.2
          simp only [execOp, hv, hxv]; exact this
        · rename_i cs hxa
          rw [hxa] at hx
          injection h with h; injection h with h1 h2; subst h1; subst h2
          obtain ⟨xs, hxv, hL⟩ := RepA.agg_inv hx
          have := does_indexArr (new := new) (kk := q.1) (k := .mc 0 cs) hT hS hy hne hz hL hc.1 hc.2.1 (by simpa [Blk.cells] using hc.2.2.1) hc.2.2.2
          simp only [execOp, hv, hxv]; exact this
        · cases h
      · cases h
  | extract t ix =>
    have ht := hρ t (by simp [Op.operands])
    simp only [pop] at h
    split at h
    · rename_i cs hxa
      rw [hxa] at ht
      injection h with h; injection h with h1 h2; subst h1; subst h2
      have hp := ht.p_inv
      generalize hw : ρ t = w at hp
      cases hp with
      | tup _ xs hl hr =>
        have hlt : ix < xs.length := by omega
        refine .value hS (v := xs[ix]) ?_ (.p _ _ ?_)
        · simp only [execOp, hw]
          exact run_v (by simp [Instr.extract, hlt])
        · have := hr ix cs[ix] xs[ix] (List.getElem?_eq_getElem hc) (List.getElem?_eq_getElem hlt)
          simpa [List.getD, List.getElem?_eq_getElem hc] using this
    · rename_i cs hxa
      rw [hxa] at ht
      injection h with h; injection h with h1 h2; subst h1; subst h2
      generalize hw : ρ t = w at ht
      cases ht with
      | tup _ xs hl hr =>
        have hlt : ix < xs.length := by omega
        refine .value hS (v := xs[ix]) ?_ ?_
        · simp only [execOp, hw]
          exact run_v (by simp [Instr.extract, hlt])
        · have := hr ix cs[ix] xs[ix] (List.getElem?_eq_getElem hc) (List.getElem?_eq_getElem hlt)
          simpa [List.getD, List.getElem?_eq_getElem hc] using this
    · cases h
  | _ => simp [pop] at h
end ops
end Go.Proofs.Ytiondkijgpjgcaa.Pw
namespace Go.Proofs.Ytiondkijgpjgcaa.Pw
open Go Go.RowKit
def glob : Nat → Option PV := fun _ => none
/-- Variables whose whole block is told. -/
def globRow : Nat → Option (Array Value) := fun _ => none
end Go.Proofs.Ytiondkijgpjgcaa.Pw
namespace Go.Proofs.Ytiondkijgpjgcaa.Pw
open Go Go.RowKit
def get : List (Nat × Blk) → Store
  | [], _ => none
  | (i, k) :: r, b => bif i == b then some k else get r b
def del (b : Nat) : List (Nat × Blk) → List (Nat × Blk)
  | [] => []
  | (i, k) :: r => bif i == b then del b r else (i, k) :: del b r
def put (l : List (Nat × Blk)) (b : Nat) : Option Blk → List (Nat × Blk)
  | none => del b l
  | some k => (b, k) :: del b l
def puts (l : List (Nat × Blk)) : List (Nat × Option Blk) → List (Nat × Blk)
  | [] => l
  | (b, x) :: r => puts (put l b x) r
theorem get_del (b : Nat) : ∀ l i, get (del b l) i = if i = b then none else get l i
  | [], i => by simp [del, get]
  | (j, k) :: r, i => by
    have ih := get_del b r i
    by_cases h1 : j = b
    · subst h1
      simp only [del, beq_self_eq_true, cond_true, ih, get]
      by_cases h2 : i = j
      · simp [h2]
      · rw [if_neg h2, if_neg h2, show (j == i) = false by simpa using Ne.symm h2]; rfl
    · rw [del, show (j == b) = false by simpa using h1]
      simp only [cond_false, get, ih]
      by_cases h2 : j = i
      · subst h2; simp [h1]
      · simp [show (j == i) = false by simpa using h2]
theorem get_put (l : List (Nat × Blk)) (b : Nat) (x : Option Blk) : get (put l b x) = upd1 (get l) b x := by
  funext i
  cases x with
  | none => simp [put, get_del, upd1]
  | some k =>
    simp only [put, get, get_del, upd1]
    by_cases h : i = b
    · simp [h]
    · simp [h, show (b == i) = false by simpa using Ne.symm h]
theorem get_puts : ∀ (u : List (Nat × Option Blk)) (l : List (Nat × Blk)), get (puts l u) = upds (get l) u
  | [], _ => rfl
  | (b, x) :: r, l => by rw [puts, get_puts r, get_put]; rfl
def constOne (x : Value) : AV := if x.oneCell' then .p (.v x) else .any
def ev (env : List AV) : Operand → AV
  | .tmp t => env.getD t .any
  | .const v => match v with
    | .agg xs => if xs.toList.all (·.oneCell') then .p (.agg (xs.toList.map .v)) else .any
    | .tuple _ => .any
    | x => .p (.v x)
  | .global g => match glob g with | some x => .p x | none => .any
  | .func f => .fn f []
/-- The package-level variables that are known hold what is known. -/
def GOK (M : Nat → Prop) (W : World) : Prop := (∀ g x, glob g = some x → RepP M W x (.pointer (some ⟨g, 0, none⟩))) ∧
  ∀ g cs, globRow g = some cs → g < W.heap.size ∧ ¬ M g ∧ ∃ t fz, W.heap[g]? = some (.cells cs t fz)
theorem GOK.ext {F M M' : Nat → Prop} {μ μ' : Nat → Option Nat} {W W' : World} (r : GOK M W) (h : Ext F M μ W M' μ' W') : GOK M' W' :=
  ⟨fun g x hx => (r.1 g x hx).ext h, fun g cs hg => by
    obtain ⟨a, b, t, fz, e⟩ := r.2 g cs hg
    exact ⟨Nat.lt_of_lt_of_le a h.size, fun hm => b (h.fresh g a hm), t, fz, (h.keep g a b).trans e⟩⟩
theorem GOK.mut {M M' : Nat → Prop} {W : World} (r : GOK M W) (h : ∀ B, M' B → M B) : GOK M' W :=
  ⟨fun g x hx => (r.1 g x hx).mut h, fun g cs hg => by
    obtain ⟨a, b, t, fz, e⟩ := r.2 g cs hg
    exact ⟨a, fun hm => b (h g hm), t, fz, e⟩⟩
/-- What a frame's temporaries stand for. -/
def RepE (M : Nat → Prop) (μ : Nat → Option Nat) (W : World) (env : List AV) (tmps : Array Value) : Prop :=
  env.length = tmps.size ∧ (∀ (t : Nat) x, env[t]? = some x → RepA M μ W x (tmps.getD t undef)) ∧ GOK M W
theorem RepE.ext {F M M' : Nat → Prop} {μ μ' : Nat → Option Nat} {W W' : World} {env : List AV} {tmps : Array Value} (r : RepE M μ W env tmps) (h : Ext F M μ W M' μ' W') : RepE M' μ' W' env tmps := ⟨r.1, fun t x hx => (r.2.1 t x hx).ext h, r.2.2.ext h⟩
theorem RepE.put {M : Nat → Prop} {μ : Nat → Option Nat} {W : World} {env : List AV} {a : Act} (r : RepE M μ W env a.tmps) {x : AV} {v : Value} (h : RepA M μ W x v) (dst : Option Tmp) :
    RepE M μ W (match dst with | some d => env.set d x | none => env) (a.put dst v).tmps := by
  cases dst with
  | none => exact r
  | some d =>
    refine ⟨by simp [Act.put, r.1], fun t y hy => ?_, r.2.2⟩
    simp only [List.getElem?_set] at hy
    simp only [Act.put, Array.getD_eq_getD_getElem?, Array.getElem?_setIfInBounds]
    split at hy
    · rename_i e
      subst e
      split at hy
      · rename_i hd
        injection hy with hy; subst hy
        rw [if_pos rfl, if_pos (by rw [← r.1]; exact hd)]; exact h
      · cases hy
    · rename_i e
      rw [if_neg e]
      have := r.2.1 t y hy
      rwa [Array.getD_eq_getD_getElem?] at this
theorem RepE.eval {M : Nat → Prop} {μ : Nat → Option Nat} {W : World} {env : List AV} {a : Act} (r : RepE M μ W env a.tmps) (x : Operand) : RepA M μ W (ev env x) (a.eval x) := by
  cases x with
  | tmp t =>
    simp only [ev, Act.eval, List.getD_eq_getElem?_getD]
    cases h : env[t]? with
    | none => exact .any _
    | some y => exact r.2.1 t y h
  | const v =>
    simp only [ev, Act.eval]
    cases v with
    | agg xs =>
      simp only
      split
      · rename_i h
        obtain ⟨xs⟩ := xs
        simp only [List.all_eq_true] at h
        refine .p _ _ (.agg _ xs (by simp) (fun j x hx => h x (List.mem_of_getElem? hx)) fun j pv x hp hx => ?_)
        simp only [List.getElem?_map, hx, Option.map_some, Option.some.injEq] at hp
        exact hp ▸ .v x (h x (List.mem_of_getElem? hx))
      · exact .any _
    | tuple xs => exact .any _
    | _ => exact .p _ _ (.v _ rfl)
  | global g =>
    simp only [ev, Act.eval]
    split
    · rename_i x hx; exact .p _ _ (r.2.2.1 g x hx)
    · exact .any _
  | func f => exact .fn f [] [] rfl fun j pv x h _ => by simp at h
/-- A call that the machine enters. -/
def Entered (P : Program) (f : Nat) : Prop := ∃ fn, P.funcs[f]? = some fn ∧ (fn.name == "runtime.NumGoroutine") = false ∧ fn.body.isNone = false
/-- THE CONTRACT OF A FUNCTION OF VALUES: of arguments that stand for 'args' it returns what stands for 'res', and leaves what was there alone. -/
def Sound (P : Program) (f : Nat) (args : List PV) (res : PV) : Prop := Entered P f ∧
  ∀ (F : Nat → Prop) (W : World) (vs : List Value), (∀ B, F B → B < W.heap.size) → GOK F W → vs.length = args.length → (∀ (j : Nat) a v, args[j]? = some a → vs[j]? = some v → RepP F W a v) →
    Calls P f vs.toArray W fun e W' => ∃ v, e = .returned v ∧ RepP F W' res v ∧ Below W.heap.size W W'
/-- THE CONTRACT OF A CALL AT CERTAIN VALUES, with what it does to the caller's own blocks. -/
def SoundE (P : Program) (D f : Nat) (args : List AV) (σ : Store) (new : Nat) (e : Eff) : Prop := Entered P f ∧
  ∀ (F : Nat → Prop) (μ : Nat → Option Nat) (st : Store) (W : World) (vs : List Value), (∀ b ∈ e.rd, st b = σ b) → RepS F μ st W → GOK (Mut F μ st) W → (∀ i, i < D → μ (new + i) = none ∧ st (new + i) = none) → vs.length = args.length →
    (∀ (j : Nat) a v, args[j]? = some a → vs[j]? = some v → RepA (Mut F μ st) μ W a v) →
    Calls P f vs.toArray W fun en W' => ∃ v μ', en = .returned v ∧ RepS F μ' (upds st e.upd) W' ∧ RepA (Mut F μ' (upds st e.upd)) μ' W' e.val v ∧
      Ext F (Mut F μ st) μ W (Mut F μ' (upds st e.upd)) μ' W' ∧ ∀ b, b < new ∨ new + D ≤ b → μ' b = μ b
def wantA (ops : List Oper) (env : List AV) (o : Oper) : Option Bool :=
  match o.guard with
  | none => some true
  | some (j, want) => match (ops[j]?).bind (·.dst) with
    | some t => match env.getD t .any with | .p (.v (.bool b)) => some (b == want) | .p (.tup _) => some false | _ => none
    | none => none
/-- One operation, by its effect. -/
def stepW (P : Program) (T : Tab) (D : Nat) (ops : List Oper) (o : Oper) (new : Nat) (env : List AV) (σ : Store) (K : Eff → Prop) : Prop :=
  match wantA ops env o with
  | some true => match o.op with
    | .call { callee := .value f, args, argTypes := _ } => match ev env f with
      | .fn g caps => ∃ e, SoundE P D g (args.toList.map (ev env) ++ caps) σ new e ∧ K e
      | _ => False
    | op => match pop T op (ev env) σ new with
      | some (e, c) => c ∧ K e
      | none => False
  | some false => K ⟨.p (.tup []), [], []⟩
  | none => False
theorem wanted_of {ops : Array Oper} {env : List AV} {a : Act} {M : Nat → Prop} {μ : Nat → Option Nat} {W : World} (r : RepE M μ W env a.tmps) {o : Oper} {b : Bool} (h : wantA ops.toList env o = some b) : Region.wanted o (yielded ops a.tmps) = b := by
  unfold wantA at h
  unfold Region.wanted
  split at h
  · rename_i hg; rw [hg]; injection h
  · rename_i j want hg
    rw [hg]
    split at h
    · rename_i t ht
      split at h
      · rename_i c hc
        injection h with h; subst h
        rw [List.getD_eq_getElem?_getD] at hc
        cases hx : env[t]? with
        | none => rw [hx] at hc; cases hc
        | some y =>
          rw [hx, Option.getD_some] at hc; subst hc
          have h1 := (r.2.1 t _ hx).v_inv
          have hlt : t < a.tmps.size := by rw [← r.1]; exact (List.getElem?_eq_some_iff.1 hx).1
          have ht' : (ops[j]?).bind (·.dst) = some t := by simpa using ht
          simp only [yielded, ht', Option.bind_some]
          rw [Array.getD_eq_getD_getElem?, Array.getElem?_eq_getElem hlt, Option.getD_some] at h1
          rw [Array.getElem?_eq_getElem hlt, h1]
          cases c <;> cases want <;> rfl
      · rename_i cs hc
        injection h with h; subst h
        rw [List.getD_eq_getElem?_getD] at hc
        cases hx : env[t]? with
        | none => rw [hx] at hc; cases hc
        | some y =>
          rw [hx, Option.getD_some] at hc; subst hc
          have h1 := (r.2.1 t _ hx).p_inv
          have hlt : t < a.tmps.size := by rw [← r.1]; exact (List.getElem?_eq_some_iff.1 hx).1
          have ht' : (ops[j]?).bind (·.dst) = some t := by simpa using ht
          rw [Array.getD_eq_getD_getElem?, Array.getElem?_eq_getElem hlt, Option.getD_some] at h1
          generalize hv : a.tmps[t] = v at h1
          cases h1
          simp only [yielded, ht', Option.bind_some]
          rw [Array.getElem?_eq_getElem hlt, hv]
          rfl
      · cases h
    · cases h
/-- What holds of the state behind an operation whose effect is e. -/
def After (F : Nat → Prop) (μ : Nat → Option Nat) (st : Store) (W : World) (new D : Nat) (e : Eff) (v : Value) (μ' : Nat → Option Nat) (W' : World) : Prop :=
  RepS F μ' (upds st e.upd) W' ∧ RepA (Mut F μ' (upds st e.upd)) μ' W' e.val v ∧ Ext F (Mut F μ st) μ W (Mut F μ' (upds st e.upd)) μ' W' ∧ ∀ b, b < new ∨ new + D ≤ b → μ' b = μ b
theorem Does.wp {P : Program} {F : Nat → Prop} {μ : Nat → Option Nat} {st : Store} {W : World} {new D : Nat} (hD : 0 < D) {o : Oper} {a : Act} {e : Eff} (h : Does P F μ st W new (execOp a.eval o) e) {K : Act → World → Prop} {Q : Exit → Act → World → Prop}
    (hK : ∀ v μ' W', After F μ st W new D e v μ' W' → K (a.put o.dst v) W') : o.wp P a W K Q := by
  obtain ⟨v, W', μ', hr, h1, h2, h3, h4⟩ := h
  have ha : After F μ st W new D e v μ' W' := ⟨h1, h2, h3, fun b hb => h4 b (by omega)⟩
  unfold Oper.wp
  rcases hr with hr | ⟨hr, rfl⟩ <;> rw [hr]
  · exact hK v μ' W' ha
  · exact hK undef μ' W' ha
theorem call_run {P : Program} {W : World} {o : Oper} {f : Operand} {args : Array Operand} {ts : Array TypeId} {ρ : Operand → Value} {g : Nat} {xs : Array Value} (ho : o.op = .call { callee := .value f, args, argTypes := ts }) (hf : ρ f = .func (.func g) #[] xs) (hE : Entered P g) :
    (execOp ρ o).run P W = .ok (.enter g (args.map ρ ++ xs)) W := by
  obtain ⟨fn, h1, h2, h3⟩ := hE
  simp [execOp, ho, resolve, Deferred.ofValue, hf, invoke, callFunc, h1]
  rw [if_neg (by simpa using h2), if_neg (by intro h; simp [h] at h3)]
theorem skipA {M : Nat → Prop} {μ : Nat → Option Nat} {W : World} : RepA M μ W (.p (.tup [])) undef := .p _ _ (.tup [] [] rfl fun j pv x h => by simp at h)
theorem stepW_sound {P : Program} {T : Tab} (hT : TOK P T) {F : Nat → Prop} {μ : Nat → Option Nat} {st : Store} {W : World} {new D : Nat} (hD : 0 < D) (hS : RepS F μ st W) (hnew : ∀ i, i < D → μ (new + i) = none ∧ st (new + i) = none)
    {ops : Array Oper} {o : Oper} {env : List AV} {a : Act} (hE : RepE (Mut F μ st) μ W env a.tmps) {KA : Eff → Prop} (h : stepW P T D ops.toList o new env st KA) :
    ∃ e, KA e ∧ ∀ (K : Act → World → Prop) (Q : Exit → Act → World → Prop), (∀ v μ' W', After F μ st W new D e v μ' W' → K (a.put o.dst v) W') →
      if Region.wanted o (yielded ops a.tmps) then o.wp P a W K Q else K (a.put o.dst undef) W := by
  have h0 := hnew 0 hD
  rw [Nat.add_zero] at h0
  unfold stepW at h
  split at h
  · rename_i hw
    rw [wanted_of hE hw]
    split at h
    · rename_i f args ts ho
      split at h
      · rename_i g caps hf
        obtain ⟨e, ⟨hEn, hs⟩, hKA⟩ := h
        refine ⟨e, hKA, fun K Q hK => ?_⟩
        have hrf := hE.eval f
        rw [hf] at hrf
        generalize hw' : a.eval f = w at hrf
        cases hrf with
        | fn _ _ xs hl hr =>
          have hrun := call_run (W := W) ho hw' hEn
          have hc := hs F μ st W ((args.toList.map a.eval) ++ xs) (fun _ _ => rfl) hS hE.2.2 hnew (by simp [hl]) (fun j x v hx hv => by
            rw [List.getElem?_append] at hx hv
            simp only [List.length_map] at hx hv
            split at hx
            · rename_i hj
              rw [if_pos hj] at hv
              simp only [List.getElem?_map, Option.map_eq_some_iff] at hx hv
              obtain ⟨q, hq, rfl⟩ := hx
              obtain ⟨q', hq', rfl⟩ := hv
              rw [hq] at hq'; injection hq' with hq'; subst hq'
              exact hE.eval q
            · rename_i hj
              rw [if_neg hj] at hv
              exact hr _ x v hx hv)
          simp only [if_true, Oper.wp, hrun, Oper.upon]
          have harr : (args.map a.eval ++ xs.toArray) = ((args.toList.map a.eval) ++ xs).toArray := by apply Array.ext'; simp
          rw [harr]
          refine hc.mono ?_
          rintro _ W' ⟨v, μ', rfl, h1, h2, h3, h4⟩
          exact hK v μ' W' ⟨h1, h2, h3, h4⟩
      · exact h.elim
    · split at h
      · rename_i e c hp
        obtain ⟨hc, hKA⟩ := h
        exact ⟨e, hKA, fun K Q hK => by
          simp only [if_true]
          exact (pop_sound hT hS h0.1 h0.2 o (fun x _ => hE.eval x) hp hc).wp hD hK⟩
      · exact h.elim
  · rename_i hw
    rw [wanted_of hE hw]
    exact ⟨_, h, fun K Q hK => hK undef μ W ⟨hS, skipA, Ext.refl _ _ _ _, fun _ _ => rfl⟩⟩
  · exact h.elim
end Go.Proofs.Ytiondkijgpjgcaa.Pw
namespace Go.Proofs.Ytiondkijgpjgcaa.Pw
open Go Go.RowKit
theorem viewA_congr {σ σ' : Store} {a : AV} {q : Nat × Nat × Blk × List Nat} (h : viewA σ a = some q) (hs : ∀ b ∈ q.2.2.2, σ b = σ' b) : viewA σ' a = some q := by
  unfold viewA at h ⊢
  split at h
  · exact h
  · exact h
  · simp only [Option.map_eq_some_iff] at h
    obtain ⟨k, hk, rfl⟩ := h
    rename_i b _ _ _
    rw [← hs b (by simp), hk]; rfl
  · cases h
theorem pop_congr {T : Tab} {op : Op} {ρ ρ' : Operand → AV} {σ σ' : Store} {new : Nat} {e : Eff} {c : Prop} (h : pop T op ρ σ new = some (e, c)) (hρ : ∀ x ∈ op.operands, ρ x = ρ' x) (hs : ∀ b ∈ e.rd, σ b = σ' b) :
    pop T op ρ' σ' new = some (e, c) := by
  cases op with
  | call cl =>
    obtain ⟨callee, args, ts⟩ := cl
    obtain ⟨args⟩ := args
    obtain ⟨ts⟩ := ts
    cases callee with
    | value f => simp [pop] at h
    | invoke r m => simp [pop] at h
    | builtin b =>
      have hρ' : ∀ x ∈ args, ρ x = ρ' x := fun x hx => hρ x (by simp [Op.operands, Call.operands, hx])
      cases b <;> simp only [pop, reduceCtorEq] at h ⊢
      case len =>
        split at h <;> try cases h
        rename_i x t
        simp only [← hρ' x (by simp)]; exact h
      case max =>
        split at h <;> try cases h
        rename_i x y
        simp only [← hρ' x (by simp), ← hρ' y (by simp)]; exact h
      case min =>
        split at h <;> try cases h
        rename_i x y
        simp only [← hρ' x (by simp), ← hρ' y (by simp)]; exact h
      case append =>
        split at h <;> try cases h
        rename_i x y t t'
        simp only [← hρ' x (by simp), ← hρ' y (by simp)]
        split at h <;> try cases h
        rename_i htt
        rw [if_pos htt]
        simp only [Option.bind_eq_some_iff] at h ⊢
        obtain ⟨u, hu, el, hel, z, hz, h⟩ := h
        refine ⟨u, hu, el, hel, z, hz, ?_⟩
        split at h <;> try cases h
        rename_i h0
        rw [if_neg h0]
        simp only [Option.bind_eq_some_iff] at h ⊢
        obtain ⟨q, hq, h⟩ := h
        split at h
        · rename_i hxa
          have he := h
          injection h with h; injection h with h1 h2; subst h1
          refine ⟨q, viewA_congr hq hs, ?_⟩
          exact he
        · rename_i b n k hxa
          split at h <;> try cases h
          rename_i hk
          simp only [Option.bind_eq_some_iff] at h
          obtain ⟨d, hd, h⟩ := h
          split at h
          · rename_i hde
            have he := h
            injection h with h; injection h with h1 h2; subst h1
            refine ⟨q, viewA_congr hq (fun b hb => hs b (by simp [hb])), ?_⟩
            rw [if_pos hk]
            simp only [Option.bind_eq_some_iff]
            exact ⟨d, by rw [← hs b (by simp)]; exact hd, by rw [if_pos hde]; exact he⟩
          · cases h
        · cases h
      case copy =>
        split at h <;> try cases h
        rename_i x y t t'
        simp only [← hρ' x (by simp), ← hρ' y (by simp)]
        simp only [Option.bind_eq_some_iff] at h ⊢
        obtain ⟨u, hu, el, hel, z, hz, h⟩ := h
        refine ⟨u, hu, el, hel, z, hz, ?_⟩
        split at h <;> try cases h
        rename_i h0
        rw [if_neg h0]
        simp only [Option.bind_eq_some_iff] at h ⊢
        obtain ⟨q, hq, h⟩ := h
        split at h
        · rename_i b o n k hxa
          split at h <;> try cases h
          rename_i hk
          simp only [Option.bind_eq_some_iff] at h
          obtain ⟨d, hd, h⟩ := h
          have he := h
          injection h with h; injection h with h1 h2; subst h1
          refine ⟨q, viewA_congr hq (fun b hb => hs b (by simp [hb])), ?_⟩
          rw [if_pos hk]
          simp only [Option.bind_eq_some_iff]
          exact ⟨d, by rw [← hs b (by simp)]; exact hd, he⟩
        · cases h
  | build t parts =>
    have : (parts.toList.map fun x => (x.1, ρ' x.2)) = parts.toList.map fun x => (x.1, ρ x.2) := List.map_congr_left fun x hx => by rw [hρ x.2 (by simp [Op.operands]; exact ⟨x.1, by simpa using hx⟩)]
    simp only [pop, this] at h ⊢; exact h
  | buildSlice t n parts =>
    have : (parts.toList.map fun x => (x.1, ρ' x.2)) = parts.toList.map fun x => (x.1, ρ x.2) := List.map_congr_left fun x hx => by rw [hρ x.2 (by simp [Op.operands]; exact ⟨x.1, by simpa using hx⟩)]
    simp only [pop, this] at h ⊢; exact h
  | makeFunc fn first caps =>
    cases fn with
    | func f =>
      have : caps.toList.map ρ' = caps.toList.map ρ := List.map_congr_left fun x hx => (hρ x (by simp [Op.operands]; exact .inr (by simpa using hx))).symm
      simp only [pop, this] at h ⊢; exact h
    | _ => simp [pop] at h
  | load t a =>
    simp only [pop, ← hρ a (by simp [Op.operands])] at h ⊢
    simp only [Option.bind_eq_some_iff] at h ⊢
    obtain ⟨y, hy, h⟩ := h
    refine ⟨y, hy, ?_⟩
    split at h
    · cases h
    · rename_i h0
      rw [if_neg h0]
      split at h
      · rename_i b o hxa
        simp only [Option.bind_eq_some_iff] at h ⊢
        obtain ⟨k, hk, h⟩ := h
        have he := h
        injection h with h; injection h with h1 h2; subst h1
        exact ⟨k, by rw [← hs b (by simp)]; exact hk, he⟩
      · exact h
      · cases h
  | store t a x =>
    simp only [pop, ← hρ a (by simp [Op.operands]), ← hρ x (by simp [Op.operands])] at h ⊢
    simp only [Option.bind_eq_some_iff] at h ⊢
    obtain ⟨y, hy, h⟩ := h
    refine ⟨y, hy, ?_⟩
    split at h
    · rename_i h0
      rw [if_pos h0]
      split at h
      · rename_i b o hxa
        simp only [Option.bind_eq_some_iff] at h ⊢
        obtain ⟨k, hk, h⟩ := h
        have he := h
        injection h with h; injection h with h1 h2; subst h1
        exact ⟨k, by rw [← hs b (by simp)]; exact hk, he⟩
      · cases h
    · cases h
  | slice t x lo hi mx =>
    cases mx with
    | some _ => simp [pop] at h
    | none =>
      have hx := hρ x (by simp [Op.operands])
      have hl : lo.map ρ' = lo.map ρ := by cases lo with | none => rfl | some q => simp [hρ q (by simp [Op.operands])]
      have hh : hi.map ρ' = hi.map ρ := by cases hi with | none => rfl | some q => simp [hρ q (by simp [Op.operands])]
      simp only [pop, ← hx, hl, hh] at h ⊢; exact h
  | move x | assign x | box _ x | nilCheck x | unOp _ _ x | convert _ _ x | fieldAddr _ x _ | field _ x _ | extract x _ => simp only [pop, ← hρ x (by simp [Op.operands])] at h ⊢; exact h
  | pick a b c => simp only [pop, ← hρ a (by simp [Op.operands]), ← hρ b (by simp [Op.operands]), ← hρ c (by simp [Op.operands])] at h ⊢; exact h
  | binOp _ _ a b _ | makeSlice _ a b | indexAddr _ a b | index _ a b => simp only [pop, ← hρ a (by simp [Op.operands]), ← hρ b (by simp [Op.operands])] at h ⊢; exact h
  | alloc _ => exact h
  | _ => simp [pop] at h
/-- What an operation with this effect does, wherever what it looks at is as it was. -/
def OpOK (P : Program) (D : Nat) (ops : Array Oper) (o : Oper) (new : Nat) (env : List AV) (σ : Store) (e : Eff) : Prop :=
  ∀ (F : Nat → Prop) (μ : Nat → Option Nat) (st : Store) (W : World) (a : Act) (env' : List AV), RepS F μ st W → RepE (Mut F μ st) μ W env' a.tmps → (∀ t ∈ o.looksAt ops, env'.getD t .any = env.getD t .any) →
    (∀ b ∈ e.rd, st b = σ b) → (∀ i, i < D → μ (new + i) = none ∧ st (new + i) = none) →
    ∀ (K : Act → World → Prop) (Q : Exit → Act → World → Prop), (∀ v μ' W', After F μ st W new D e v μ' W' → K (a.put o.dst v) W') →
      if Region.wanted o (yielded ops a.tmps) then o.wp P a W K Q else K (a.put o.dst undef) W
theorem ev_congr {env env' : List AV} {x : Operand} (h : ∀ t, x = .tmp t → env'.getD t .any = env.getD t .any) : ev env' x = ev env x := by
  cases x with
  | tmp t => exact h t rfl
  | _ => rfl
theorem mem_looksAt {ops : Array Oper} {o : Oper} {t : Tmp} (h : Operand.tmp t ∈ o.op.operands) : t ∈ o.looksAt ops :=
  List.mem_append_left _ (List.mem_filterMap.2 ⟨.tmp t, by simpa using h, rfl⟩)
theorem wantA_congr {ops : Array Oper} {env env' : List AV} {o : Oper} (h : ∀ t ∈ o.looksAt ops, env'.getD t .any = env.getD t .any) : wantA ops.toList env' o = wantA ops.toList env o := by
  unfold wantA
  cases hg : o.guard with
  | none => rfl
  | some q =>
    obtain ⟨j, w⟩ := q
    simp only
    cases ht : (ops.toList[j]?).bind (·.dst) with
    | none => rfl
    | some t =>
      have ht' : (ops[j]?).bind (·.dst) = some t := by simpa using ht
      simp only
      rw [h t (List.mem_append_right _ (by simp [hg, ht']))]
theorem stepW_ok {P : Program} {T : Tab} (hT : TOK P T) {new D : Nat} (hD : 0 < D) {ops : Array Oper} {o : Oper} {env : List AV} {σ : Store} {KA : Eff → Prop} (h : stepW P T D ops.toList o new env σ KA) :
    ∃ e, KA e ∧ OpOK P D ops o new env σ e := by
  unfold stepW at h
  split at h
  · rename_i hw
    split at h
    · rename_i f args ts ho
      split at h
      · rename_i g caps hf
        obtain ⟨e, hs, hKA⟩ := h
        refine ⟨e, hKA, fun F μ st W a env' hS hE hl hrd hnew K Q hK => ?_⟩
        have hops : ∀ x, x = f ∨ x ∈ args.toList → ev env' x = ev env x := fun x hx => ev_congr fun t ht => hl t (mem_looksAt (by
          subst ht
          rw [ho]
          rcases hx with rfl | hx
          · simp [Op.operands, Call.operands]
          · simp [Op.operands, Call.operands]; exact .inr (by simpa using hx)))
        have hstep : stepW P T D ops.toList o new env' st (fun e' => e' = e) := by
          unfold stepW
          rw [wantA_congr hl, hw]
          simp only [ho, hops f (.inl rfl), hf]
          refine ⟨e, ?_, rfl⟩
          have : args.toList.map (ev env') = args.toList.map (ev env) := List.map_congr_left fun x hx => hops x (.inr hx)
          rw [this]
          exact ⟨hs.1, fun F μ st' W vs hb => hs.2 F μ st' W vs fun b hb' => (hb b hb').trans (hrd b hb')⟩
        obtain ⟨e', rfl, hh⟩ := stepW_sound hT hD hS hnew hE hstep
        exact hh K Q hK
      · exact h.elim
    · rename_i op hnc
      split at h
      · rename_i e c hp
        obtain ⟨hc, hKA⟩ := h
        refine ⟨e, hKA, fun F μ st W a env' hS hE hl hrd hnew K Q hK => ?_⟩
        have hp' := pop_congr (ρ' := ev env') (σ' := st) hp (fun x hx => (ev_congr fun t ht => hl t (mem_looksAt (by subst ht; exact hx))).symm) (fun b hb => (hrd b hb).symm)
        have hw' := wanted_of hE (ops := ops) (o := o) (b := true) (by rw [wantA_congr hl, hw])
        rw [hw']
        simp only [if_true]
        have h0 := hnew 0 hD
        rw [Nat.add_zero] at h0
        exact (pop_sound hT hS h0.1 h0.2 o (fun x _ => hE.eval x) hp' hc).wp hD hK
      · exact h.elim
  · rename_i hw
    refine ⟨_, h, fun F μ st W a env' hS hE hl hrd hnew K Q hK => ?_⟩
    rw [wanted_of hE (ops := ops) (o := o) (b := false) (by rw [wantA_congr hl, hw])]
    exact hK undef μ W ⟨hS, skipA, Ext.refl _ _ _ _, fun _ _ => rfl⟩
  · exact h.elim
end Go.Proofs.Ytiondkijgpjgcaa.Pw
namespace Go.Proofs.Ytiondkijgpjgcaa.Pw
open Go Go.RowKit
def setD (env : List AV) (dst : Option Tmp) (x : AV) : List AV := match dst with | some d => env.set d x | none => env
/-- The operations of a region, one behind the other, each by its effect. -/
def opsW (P : Program) (T : Tab) (D : Nat) (ops : List Oper) (nx : Nat) : List Oper → Nat → List AV → List (Nat × Blk) → List Eff → (List AV → List (Nat × Blk) → List Eff → Prop) → Prop
  | [], _, env, st, acc, K => K env st acc
  | o :: r, i, env, st, acc, K => stepW P T D ops o (nx + D * i) env (get st) fun e =>
      e.upd.all (fun x => Nat.blt x.1 (nx + D * (i + 1))) = true ∧ opsW P T D ops nx r (i + 1) (setD env o.dst e.val) (puts st e.upd) (e :: acc) K
inductive Chain (P : Program) (D : Nat) (ops : Array Oper) (nx : Nat) : List Oper → Nat → List AV → List (Nat × Blk) → List Eff → List AV → List (Nat × Blk) → Prop
  | nil (i : Nat) (env : List AV) (st : List (Nat × Blk)) : Chain P D ops nx [] i env st [] env st
  | cons (o : Oper) (r : List Oper) (i : Nat) (env : List AV) (st : List (Nat × Blk)) (e : Eff) (es : List Eff) (env' : List AV) (st' : List (Nat × Blk)) :
      OpOK P D ops o (nx + D * i) env (get st) e → (∀ x ∈ e.upd, x.1 < nx + D * (i + 1)) → Chain P D ops nx r (i + 1) (setD env o.dst e.val) (puts st e.upd) es env' st' → Chain P D ops nx (o :: r) i env st (e :: es) env' st'
theorem opsW_chain {P : Program} {T : Tab} (hT : TOK P T) {D : Nat} (hD : 0 < D) {ops : Array Oper} {nx : Nat} : ∀ (l : List Oper) (i : Nat) (env : List AV) (st : List (Nat × Blk)) (acc : List Eff) (K : List AV → List (Nat × Blk) → List Eff → Prop),
    opsW P T D ops.toList nx l i env st acc K → ∃ es env' st', Chain P D ops nx l i env st es env' st' ∧ K env' st' (es.reverse ++ acc)
  | [], i, env, st, acc, K, h => ⟨[], env, st, .nil i env st, h⟩
  | o :: r, i, env, st, acc, K, h => by
    obtain ⟨e, ⟨hb, hk⟩, hok⟩ := stepW_ok hT hD h
    obtain ⟨es, env', st', hc, hK⟩ := opsW_chain hT hD r (i + 1) _ _ _ K hk
    refine ⟨e :: es, env', st', .cons o r i env st e es env' st' hok (fun x hx => ?_) hc, by simpa using hK⟩
    have := List.all_eq_true.1 hb x hx
    exact Nat.blt_eq.mp this
/-- What holds behind a region. -/
structure Behind (nx : Nat) (F : Nat → Prop) (μ : Nat → Option Nat) (st : List (Nat × Blk)) (W : World) (ds : List Deferred) (env' : List AV) (st' : List (Nat × Blk)) (nx' : Nat) (μ' : Nat → Option Nat) (W' : World) (a' : Act) : Prop where
  rs : RepS F μ' (get st') W'
  re : RepE (Mut F μ' (get st')) μ' W' env' a'.tmps
  df : a'.defers = ds
  fr : ∀ b, nx' ≤ b → μ' b = none ∧ get st' b = none
  ex : Ext F (Mut F μ (get st)) μ W (Mut F μ' (get st')) μ' W'
  lo : ∀ b, b < nx → μ' b = μ b
theorem upds_other (u : List (Nat × Option Blk)) : ∀ (st : Store) (b : Nat), (∀ x ∈ u, x.1 ≠ b) → upds st u b = st b := by
  induction u with
  | nil => intro st b _; rfl
  | cons p u ih =>
    intro st b h
    obtain ⟨i, x⟩ := p
    show upds (upd1 st i x) u b = st b
    rw [ih _ b fun x hx => h x (by simp [hx])]
    exact upd1_ne _ _ _ (Ne.symm (h (i, x) (by simp)))
theorem setD_put {M : Nat → Prop} {μ : Nat → Option Nat} {W : World} {env : List AV} {a : Act} (r : RepE M μ W env a.tmps) {x : AV} {v : Value} (h : RepA M μ W x v) (dst : Option Tmp) : RepE M μ W (setD env dst x) (a.put dst v).tmps := r.put h dst
theorem put_defers (a : Act) (d : Option Tmp) (v : Value) : (a.put d v).defers = a.defers := by cases d <;> rfl
theorem wpOps_at {P : Program} {ops : Array Oper} {Q : Exit → Act → World → Prop} {i : Nat} {rest : List Nat} {o : Oper} (ho : ops[i]? = some o) {a : Act} {W : World}
    (h : if Region.wanted o (yielded ops a.tmps) then o.wp P a W (wpOps P ops Q rest) Q else wpOps P ops Q rest (a.put o.dst undef) W) : wpOps P ops Q (i :: rest) a W := by
  simp only [wpOps, ho]
  split
  · rename_i hw; rw [if_pos hw] at h; exact .inl h
  · rename_i hw; rw [if_neg hw] at h; exact h
theorem chain_ord {P : Program} {D : Nat} {ops : Array Oper} {nx : Nat} {l : List Oper} {i : Nat} {env env' : List AV} {st st' : List (Nat × Blk)} {es : List Eff} (h : Chain P D ops nx l i env st es env' st') :
    (∀ j, l[j]? = ops[i + j]?) → ∀ (F : Nat → Prop) (μ : Nat → Option Nat) (W : World) (a : Act), RepS F μ (get st) W → RepE (Mut F μ (get st)) μ W env a.tmps → (∀ b, nx + D * i ≤ b → μ b = none ∧ get st b = none) →
    ∀ (Q : Exit → Act → World → Prop), (∀ μ' W' a', Behind nx F μ st W a.defers env' st' (nx + D * (i + l.length)) μ' W' a' → Q .normal a' W') → wpOps P ops Q (List.range' i l.length) a W := by
  induction h with
  | nil i env st =>
    intro _ F μ W a hS hE hf Q hQ
    exact hQ μ W a ⟨hS, hE, rfl, hf, Ext.refl _ _ _ _, fun _ _ => rfl⟩
  | cons o r i env st e es env' st' hok hb _ ih =>
    intro hl F μ W a hS hE hf Q hQ
    have ho : ops[i]? = some o := by simpa using (hl 0).symm
    have h1 : D * (i + 1) = D * i + D := Nat.mul_succ D i
    rw [List.length_cons, List.range'_succ]
    refine wpOps_at ho (hok F μ (get st) W a env hS hE (fun _ _ => rfl) (fun _ _ => rfl) (fun j hj => hf _ (by omega)) _ Q fun v μ' W' hA => ?_)
    obtain ⟨h1', h2', h3', h4'⟩ := hA
    rw [← get_puts] at h1' h2' h3'
    refine ih (fun j => by have := hl (j + 1); simpa [Nat.add_assoc, Nat.add_comm 1 j] using this) F μ' W' _ h1' (setD_put (hE.ext h3') h2' o.dst) (fun b hbb => ?_) Q fun μ2 W2 a2 hB => hQ μ2 W2 a2 ?_
    · have := hf b (by omega)
      refine ⟨by rw [h4' b (by omega)]; exact this.1, ?_⟩
      rw [get_puts, upds_other _ _ _ fun x hx => by have := hb x hx; omega]; exact this.2
    · refine ⟨hB.rs, hB.re, hB.df.trans (put_defers _ _ _), ?_, h3'.trans hB.ex, fun b hb => (hB.lo b hb).trans (h4' b (.inl (by omega)))⟩
      have e1 : i + 1 + r.length = i + (r.length + 1) := by omega
      rw [List.length_cons, ← e1]; exact hB.fr
end Go.Proofs.Ytiondkijgpjgcaa.Pw
namespace Go.Proofs.Ytiondkijgpjgcaa.Pw
open Go Go.RowKit
section states
variable (dst : Nat → Option Tmp) (eff : Nat → Eff) (env0 : List AV) (σ0 : Store)
def envS (S : Nat → Bool) : Nat → List AV
  | 0 => env0
  | n + 1 => if S n then setD (envS S n) (dst n) (eff n).val else envS S n
def stS (S : Nat → Bool) : Nat → Store
  | 0 => σ0
  | n + 1 => if S n then upds (stS S n) (eff n).upd else stS S n
theorem envS_congr {S S' : Nat → Bool} : ∀ n, (∀ i, i < n → S i = S' i) → envS dst eff env0 S n = envS dst eff env0 S' n
  | 0, _ => rfl
  | n + 1, h => by rw [envS, envS, envS_congr n (fun i hi => h i (by omega)), h n (by omega)]
theorem stS_congr {S S' : Nat → Bool} : ∀ n, (∀ i, i < n → S i = S' i) → stS eff σ0 S n = stS eff σ0 S' n
  | 0, _ => rfl
  | n + 1, h => by rw [stS, stS, stS_congr n (fun i hi => h i (by omega)), h n (by omega)]
theorem setD_get_ne {env : List AV} {d : Option Tmp} {x : AV} {t : Nat} (h : d ≠ some t) : (setD env d x).getD t .any = env.getD t .any := by
  cases d with
  | none => rfl
  | some d =>
    have : d ≠ t := fun e => h (by rw [e])
    simp [setD, List.getD_eq_getElem?_getD, List.getElem?_set, this]
theorem setD_length (env : List AV) (d : Option Tmp) (x : AV) : (setD env d x).length = env.length := by cases d <;> simp [setD]
theorem envS_length {S : Nat → Bool} : ∀ n, (envS dst eff env0 S n).length = env0.length
  | 0 => rfl
  | n + 1 => by rw [envS]; split <;> simp [setD_length, envS_length n]
theorem setD_get_same {env env' : List AV} {d : Option Tmp} {x : AV} {t : Nat} (hl : env.length = env'.length) (h : env.getD t .any = env'.getD t .any) : (setD env d x).getD t .any = (setD env' d x).getD t .any := by
  cases d with
  | none => exact h
  | some d =>
    by_cases e : d = t
    · subst e; simp [setD, List.getD_eq_getElem?_getD, List.getElem?_set, hl]
    · rw [setD_get_ne (by simpa using e), setD_get_ne (by simpa using e)]; exact h
theorem envS_get {S S' : Nat → Bool} {t : Nat} : ∀ n, (∀ i, i < n → dst i = some t → S i = S' i) → (envS dst eff env0 S n).getD t .any = (envS dst eff env0 S' n).getD t .any
  | 0, _ => rfl
  | n + 1, h => by
    have ih := envS_get (S := S) (S' := S') (t := t) n fun i hi => h i (by omega)
    have hl : (envS dst eff env0 S n).length = (envS dst eff env0 S' n).length := by rw [envS_length, envS_length]
    by_cases hd : dst n = some t
    · have := h n (by omega) hd
      rw [envS, envS, this]
      split
      · exact setD_get_same hl ih
      · exact ih
    · have key : ∀ S : Nat → Bool, (envS dst eff env0 S (n + 1)).getD t .any = (envS dst eff env0 S n).getD t .any := fun S => by
        rw [envS]; split
        · exact setD_get_ne hd
        · rfl
      rw [key, key]; exact ih
theorem upds_same (u : List (Nat × Option Blk)) : ∀ (st st' : Store) (b : Nat), (∃ x ∈ u, x.1 = b) → upds st u b = upds st' u b := by
  induction u with
  | nil => intro st st' b ⟨x, hx, _⟩; cases hx
  | cons p u ih =>
    intro st st' b ⟨x, hx, he⟩
    obtain ⟨i, y⟩ := p
    show upds (upd1 st i y) u b = upds (upd1 st' i y) u b
    by_cases h : ∃ x ∈ u, x.1 = b
    · exact ih _ _ b h
    · have h' : ∀ x ∈ u, x.1 ≠ b := fun x hx he => h ⟨x, hx, he⟩
      rw [upds_other u _ b h', upds_other u _ b h']
      rcases List.mem_cons.1 hx with rfl | hx
      · simp only at he; subst he; rw [upd1_same, upd1_same]
      · exact absurd he (h' x hx)
theorem stS_get {S S' : Nat → Bool} {b : Nat} : ∀ n, (∀ i, i < n → (∃ x ∈ (eff i).upd, x.1 = b) → S i = S' i) → stS eff σ0 S n b = stS eff σ0 S' n b
  | 0, _ => rfl
  | n + 1, h => by
    have ih := stS_get (S := S) (S' := S') (b := b) n fun i hi => h i (by omega)
    by_cases hd : ∃ x ∈ (eff n).upd, x.1 = b
    · have := h n (by omega) hd
      rw [stS, stS, this]
      split
      · exact upds_same _ _ _ b hd
      · exact ih
    · have key : ∀ S : Nat → Bool, stS eff σ0 S (n + 1) b = stS eff σ0 S n b := fun S => by
        rw [stS]; split
        · exact upds_other _ _ b fun x hx he => hd ⟨x, hx, he⟩
        · rfl
      rw [key, key]; exact ih
theorem setD_comm (env : List AV) {d d' : Option Tmp} (x y : AV) (h : ∀ t, d = some t → d' ≠ some t) : setD (setD env d x) d' y = setD (setD env d' y) d x := by
  cases d with
  | none => rfl
  | some d =>
    cases d' with
    | none => rfl
    | some d' => exact List.set_comm _ _ (fun e => h d rfl (by rw [e]))
theorem upds_comm (st : Store) (u u' : List (Nat × Option Blk)) (h : ∀ x ∈ u, ∀ y ∈ u', x.1 ≠ y.1) : upds (upds st u) u' = upds (upds st u') u := by
  funext b
  by_cases h1 : ∃ x ∈ u, x.1 = b
  · have h2 : ∀ y ∈ u', y.1 ≠ b := fun y hy he => by obtain ⟨x, hx, hxb⟩ := h1; exact h x hx y hy (hxb.trans he.symm)
    rw [upds_other u' _ b h2]; exact upds_same u _ _ b h1
  · have h1' : ∀ x ∈ u, x.1 ≠ b := fun x hx he => h1 ⟨x, hx, he⟩
    rw [upds_other u _ b h1']
    by_cases h2 : ∃ y ∈ u', y.1 = b
    · exact upds_same u' _ _ b h2
    · have h2' : ∀ y ∈ u', y.1 ≠ b := fun y hy he => h2 ⟨y, hy, he⟩
      rw [upds_other u' _ b h2', upds_other u' _ b h2', upds_other u _ b h1']
theorem envS_insert {S : Nat → Bool} {j : Nat} : ∀ n, j < n → (∀ i, j < i → i < n → S i = true → ∀ t, dst j = some t → dst i ≠ some t) → S j = false →
    envS dst eff env0 (fun i => S i || i == j) n = setD (envS dst eff env0 S n) (dst j) (eff j).val
  | 0, h, _, _ => by omega
  | n + 1, h, hc, hj => by
    rw [envS, envS]
    by_cases e : j = n
    · subst e
      rw [hj]
      simp only [beq_self_eq_true, Bool.or_true, if_true]
      rw [envS_congr dst eff env0 (S' := S) j fun i hi => by simp; omega]
      simp
    · have ih := envS_insert (S := S) n (by omega) (fun i h1 h2 => hc i h1 (by omega)) hj
      rw [ih]
      have hn : (n == j) = false := by simpa using (Ne.symm e)
      rw [hn, Bool.or_false]
      split
      · rename_i hs
        exact setD_comm _ _ _ (hc n (by omega) (by omega) hs)
      · rfl
theorem stS_insert {S : Nat → Bool} {j : Nat} : ∀ n, j < n → (∀ i, j < i → i < n → S i = true → ∀ x ∈ (eff j).upd, ∀ y ∈ (eff i).upd, x.1 ≠ y.1) → S j = false →
    stS eff σ0 (fun i => S i || i == j) n = upds (stS eff σ0 S n) (eff j).upd
  | 0, h, _, _ => by omega
  | n + 1, h, hc, hj => by
    rw [stS, stS]
    by_cases e : j = n
    · subst e
      rw [hj]
      simp only [beq_self_eq_true, Bool.or_true, if_true]
      rw [stS_congr eff σ0 (S' := S) j fun i hi => by simp; omega]
      simp
    · have ih := stS_insert (S := S) n (by omega) (fun i h1 h2 => hc i h1 (by omega)) hj
      rw [ih]
      have hn : (n == j) = false := by simpa using (Ne.symm e)
      rw [hn, Bool.or_false]
      split
      · rename_i hs
        exact upds_comm _ _ _ (hc n (by omega) (by omega) hs)
      · rfl
theorem envS_upto (j : Nat) : ∀ n, j ≤ n → envS dst eff env0 (fun i => decide (i < j)) n = envS dst eff env0 (fun _ => true) j
  | 0, h => by obtain rfl : j = 0 := by omega
               rfl
  | n + 1, h => by
    by_cases e : j = n + 1
    · subst e; exact envS_congr _ _ _ _ fun i hi => by simp; omega
    · rw [envS, if_neg (by simp; omega)]; exact envS_upto j n (by omega)
theorem stS_upto (j : Nat) : ∀ n, j ≤ n → stS eff σ0 (fun i => decide (i < j)) n = stS eff σ0 (fun _ => true) j
  | 0, h => by obtain rfl : j = 0 := by omega
               rfl
  | n + 1, h => by
    by_cases e : j = n + 1
    · subst e; exact stS_congr _ _ _ fun i hi => by simp; omega
    · rw [stS, if_neg (by simp; omega)]; exact stS_upto j n (by omega)
end states
/-- For each operation, as bits, those that come before it in every order. -/
def bit1 (bs : List Nat) (o : Oper) : Nat := o.after.toList.foldl (fun s e => if Region.binds .any e then (s ||| 2 ^ e.on) ||| bs.getD e.on 0 else s) 0
def befs : List Oper → List Nat → List Nat
  | [], bs => bs
  | o :: r, bs => befs r (bs ++ [bit1 bs o])
/-- What the order of a region must bear, the effects aside. -/
def lexOK (ops : Array Oper) (bs : List Nat) : Bool :=
  (List.range ops.size).all fun j => match ops[j]? with
    | none => true
    | some o => o.after.toList.all (fun e => !Region.binds .any e || Nat.blt e.on j) && (List.range j).all fun i => (bs.getD j 0).testBit i || match ops[i]? with
      | some p => p.apart ops o
      | none => true
def disj (a b : List Nat) : Bool := a.all fun x => !b.contains x
/-- What it must bear of the effects: blocks that are written, blocks that are read. -/
def effsOK (D nx : Nat) (bs : List Nat) (ks : List (List Nat × List Nat)) : Bool :=
  (List.range ks.length).all fun j =>
    (List.range j).all (fun i => (bs.getD j 0).testBit i || (disj (ks.getD i ([], [])).1 (ks.getD j ([], [])).1 && disj (ks.getD i ([], [])).1 (ks.getD j ([], [])).2 && disj (ks.getD j ([], [])).1 (ks.getD i ([], [])).2)) &&
    (ks.getD j ([], [])).1.all fun k => Nat.blt k nx || ((k - nx) / D == j) || (Nat.blt ((k - nx) / D) j && (bs.getD j 0).testBit ((k - nx) / D))
def Down (ops : Array Oper) (S : Nat → Bool) : Prop := ∀ j o, ops[j]? = some o → S j = true → ∀ e ∈ o.after, Region.binds .any e = true → S e.on = true
theorem bit1_spec {bs : List Nat} {o : Oper} {i : Nat} (h : (bit1 bs o).testBit i = true) : ∃ e ∈ o.after, Region.binds .any e = true ∧ (e.on = i ∨ (bs.getD e.on 0).testBit i = true) := by
  have key : ∀ (l : List Edge) (s : Nat), (∀ e ∈ l, e ∈ o.after) → (l.foldl (fun s e => if Region.binds .any e then (s ||| 2 ^ e.on) ||| bs.getD e.on 0 else s) s).testBit i = true →
      s.testBit i = true ∨ ∃ e ∈ o.after, Region.binds .any e = true ∧ (e.on = i ∨ (bs.getD e.on 0).testBit i = true) := by
    intro l
    induction l with
    | nil => intro s _ h; exact .inl h
    | cons e l ih =>
      intro s hm h
      rw [List.foldl_cons] at h
      rcases ih _ (fun x hx => hm x (by simp [hx])) h with h | h
      · split at h
        · rename_i hb
          rw [Nat.testBit_or, Nat.testBit_or, Bool.or_eq_true, Bool.or_eq_true] at h
          rcases h with (h | h) | h
          · exact .inl h
          · rw [Nat.testBit_two_pow] at h
            exact .inr ⟨e, hm e (by simp), hb, .inl (by simpa using h)⟩
          · exact .inr ⟨e, hm e (by simp), hb, .inr h⟩
        · exact .inl h
      · exact .inr h
  rcases key o.after.toList 0 (fun e he => by simpa using he) h with h | h
  · simp at h
  · exact h
theorem befs_spec {ops : Array Oper} {S : Nat → Bool} (hd : Down ops S) : ∀ (l : List Oper) (bs : List Nat), (∀ j, l[j]? = ops[bs.length + j]?) →
    (∀ (k : Nat) o i, k < bs.length → ops[k]? = some o → (bs.getD k 0).testBit i = true → (∀ e ∈ o.after, Region.binds .any e = true → S e.on = true) → S i = true) →
    ∀ (k : Nat) o i, ops[k]? = some o → ((befs l bs).getD k 0).testBit i = true → (∀ e ∈ o.after, Region.binds .any e = true → S e.on = true) → S i = true
  | [], bs, hl, h, k, o, i, ho, hb, hp => by
    refine h k o i ?_ ho hb hp
    rcases Nat.lt_or_ge k bs.length with h' | h'
    · exact h'
    · have := hl (k - bs.length)
      rw [show bs.length + (k - bs.length) = k by omega, ho] at this
      simp at this
  | p :: r, bs, hl, h, k, o, i, ho, hb, hp => by
    have h0 : ops[bs.length]? = some p := by simpa using (hl 0).symm
    refine befs_spec hd r (bs ++ [bit1 bs p]) (fun j => by have := hl (j + 1); simpa [Nat.add_assoc, Nat.add_comm 1 j] using this) (fun k o i hk ho hb hp => ?_) k o i ho hb hp
    rcases Nat.lt_or_ge k bs.length with h' | h'
    · refine h k o i h' ho ?_ hp
      rw [List.getD_eq_getElem?_getD, List.getElem?_append_left h', ← List.getD_eq_getElem?_getD] at hb; exact hb
    · obtain rfl : k = bs.length := by simp at hk; omega
      rw [h0] at ho; injection ho with ho; subst ho
      rw [List.getD_eq_getElem?_getD, List.getElem?_append_right (Nat.le_refl _)] at hb
      simp only [Nat.sub_self, List.getElem?_cons_zero, Option.getD_some] at hb
      obtain ⟨e, he, hbe, h1⟩ := bit1_spec hb
      have hS := hp e he hbe
      rcases h1 with rfl | h1
      · exact hS
      · rcases Nat.lt_or_ge e.on bs.length with h2 | h2
        · cases hoe : ops[e.on]? with
          | none =>
            have h3 := Array.getElem?_eq_none_iff.1 hoe
            have h4 := (Array.getElem?_eq_some_iff.1 h0).1
            omega
          | some q => exact h e.on q i h2 hoe h1 (hd e.on q hoe hS)
        · rw [List.getD_eq_getElem?_getD, List.getElem?_eq_none h2] at h1; simp at h1
end Go.Proofs.Ytiondkijgpjgcaa.Pw
namespace Go.Proofs.Ytiondkijgpjgcaa.Pw
open Go Go.RowKit
instance : Inhabited Eff := ⟨⟨.any, [], []⟩⟩
theorem chain_get {P : Program} {D : Nat} {ops : Array Oper} {nx : Nat} {env0 : List AV} {σ0 : Store} {dst : Nat → Option Tmp} {eff : Nat → Eff} (hdst : ∀ (j : Nat) o, ops[j]? = some o → dst j = o.dst)
    {l : List Oper} {i : Nat} {env env' : List AV} {st st' : List (Nat × Blk)} {es : List Eff} (h : Chain P D ops nx l i env st es env' st') :
    (∀ j, l[j]? = ops[i + j]?) → (∀ (j : Nat) e, es[j]? = some e → eff (i + j) = e) → env = envS dst eff env0 (fun _ => true) i → get st = stS eff σ0 (fun _ => true) i →
    (∀ (j : Nat) o, i ≤ j → ops[j]? = some o → OpOK P D ops o (nx + D * j) (envS dst eff env0 (fun _ => true) j) (stS eff σ0 (fun _ => true) j) (eff j) ∧ ∀ x ∈ (eff j).upd, x.1 < nx + D * (j + 1)) ∧
      env' = envS dst eff env0 (fun _ => true) (i + l.length) ∧ get st' = stS eff σ0 (fun _ => true) (i + l.length) ∧ es.length = l.length := by
  induction h with
  | nil i env st =>
    intro hl _ he hs
    refine ⟨fun j o hj ho => ?_, he, hs, rfl⟩
    have := hl (j - i)
    rw [show i + (j - i) = j by omega, ho] at this
    simp at this
  | cons o r i env st e es env' st' hok hb _ ih =>
    intro hl hes he hs
    have ho : ops[i]? = some o := by simpa using (hl 0).symm
    have hei : eff i = e := by simpa using hes 0 e rfl
    obtain ⟨h1, h2, h3, h4⟩ := ih (fun j => by have := hl (j + 1); simpa [Nat.add_assoc, Nat.add_comm 1 j] using this) (fun j e' hj => by have := hes (j + 1) e' (by simpa using hj); rwa [show i + 1 + j = i + (j + 1) by omega])
      (by rw [envS, if_pos rfl, ← he, hdst i o ho, hei]) (by rw [get_puts, stS, if_pos rfl, ← hs, hei])
    have e1 : i + 1 + r.length = i + (o :: r).length := by rw [List.length_cons]; omega
    rw [e1] at h2 h3
    refine ⟨fun j o' hj ho' => ?_, h2, h3, by simp [h4]⟩
    rcases Nat.lt_or_ge i j with h' | h'
    · exact h1 j o' (by omega) ho'
    · obtain rfl : i = j := by omega
      rw [ho] at ho'; injection ho' with ho'; subst ho'
      rw [← he, ← hs, hei]
      exact ⟨hok, hb⟩
def cnt (S : Nat → Bool) : Nat → Nat
  | 0 => 0
  | n + 1 => cnt S n + if S n then 1 else 0
theorem cnt_le (S : Nat → Bool) : ∀ n, cnt S n ≤ n
  | 0 => Nat.le_refl _
  | n + 1 => by have := cnt_le S n; rw [cnt]; split <;> omega
theorem cnt_full {S : Nat → Bool} : ∀ n, cnt S n = n → ∀ i, i < n → S i = true
  | 0, _, i, h => by omega
  | n + 1, h, i, hi => by
    have hle := cnt_le S n
    rw [cnt] at h
    split at h
    · rename_i hs
      by_cases e : i = n
      · rw [e]; exact hs
      · exact cnt_full n (by omega) i (by omega)
    · omega
theorem cnt_congr {S S' : Nat → Bool} : ∀ n, (∀ i, i < n → S i = S' i) → cnt S n = cnt S' n
  | 0, _ => rfl
  | n + 1, h => by rw [cnt, cnt, cnt_congr n (fun i hi => h i (by omega)), h n (by omega)]
theorem cnt_insert {S : Nat → Bool} {j : Nat} (hj : S j = false) : ∀ n, j < n → cnt (fun i => S i || i == j) n = cnt S n + 1
  | 0, h => by omega
  | n + 1, h => by
    rw [cnt, cnt]
    by_cases e : j = n
    · subst e
      rw [cnt_congr (S' := S) j fun i hi => by simp; omega, hj]; simp
    · rw [cnt_insert hj n (by omega)]
      have hn : (n == j) = false := by simpa using (Ne.symm e)
      rw [hn, Bool.or_false]; omega
theorem getD_true_false {l : Array Bool} {i : Nat} (h : i < l.size) : l.getD i true = l.getD i false := by simp [h]
theorem disj_spec {a b : List Nat} (h : disj a b = true) : ∀ x ∈ a, x ∉ b := by
  intro x hx hb
  have := List.all_eq_true.1 h x hx
  simp at this
  exact this hb
theorem div_range {D i q : Nat} (hq : q < D) : (D * i + q) / D = i := by
  rw [Nat.mul_add_div (by omega), Nat.div_eq_of_lt hq]; rfl
theorem region_drawn {P : Program} {D : Nat} (hD : 0 < D) {ops : Array Oper} {nx : Nat} {env0 env' : List AV} {st0 st' : List (Nat × Blk)} {es : List Eff} (hC : Chain P D ops nx ops.toList 0 env0 st0 es env' st')
    (hlex : lexOK ops (befs ops.toList []) = true) (heff : effsOK D nx (befs ops.toList []) (es.map fun e => (e.upd.map (·.1), e.rd)) = true)
    {F : Nat → Prop} {μ0 : Nat → Option Nat} {W0 : World} {ds : List Deferred} (hf0 : ∀ b, nx ≤ b → get st0 b = none) {Q : Exit → Act → World → Prop}
    (hQ : ∀ μ' W' a', Behind nx F μ0 st0 W0 ds env' st' (nx + D * ops.size) μ' W' a' → Q .normal a' W') :
    ∀ (fuel : Nat) (listed : Array Bool) (a : Act) (W : World) (μ : Nat → Option Nat), listed.size = ops.size → fuel + cnt (fun i => listed.getD i false) ops.size = ops.size → Down ops (fun i => listed.getD i false) →
      RepS F μ (stS (fun i => es.getD i default) (get st0) (fun i => listed.getD i false) ops.size) W →
      RepE (Mut F μ (stS (fun i => es.getD i default) (get st0) (fun i => listed.getD i false) ops.size)) μ W (envS (fun i => (ops[i]?).bind (·.dst)) (fun i => es.getD i default) env0 (fun i => listed.getD i false) ops.size) a.tmps →
      a.defers = ds → (∀ b, nx ≤ b → (∀ i, i < ops.size → listed.getD i false = true → ¬ (nx + D * i ≤ b ∧ b < nx + D * (i + 1))) → μ b = none) →
      Ext F (Mut F μ0 (get st0)) μ0 W0 (Mut F μ (stS (fun i => es.getD i default) (get st0) (fun i => listed.getD i false) ops.size)) μ W → (∀ b, b < nx → μ b = μ0 b) → wpAny P .any ops Q fuel listed a W := by
  obtain ⟨hok, henv, hst, hlen⟩ := chain_get (env0 := env0) (σ0 := get st0) (dst := fun i => (ops[i]?).bind (·.dst)) (eff := fun i => es.getD i default) (fun j o ho => by simp [ho]) hC (by simp) (fun j e he => by simp [List.getD_eq_getElem?_getD, he]) rfl rfl
  simp only [Nat.zero_add, Array.length_toList] at henv hst hlen
  -- the pairs
  have pair : ∀ (i j : Nat) oi oj, i < j → ops[i]? = some oi → ops[j]? = some oj → ((befs ops.toList []).getD j 0).testBit i = true ∨ (oi.apart ops oj = true ∧
      (∀ x ∈ (es.getD i default).upd, ∀ y ∈ (es.getD j default).upd, x.1 ≠ y.1) ∧ (∀ x ∈ (es.getD i default).upd, x.1 ∉ (es.getD j default).rd) ∧ (∀ x ∈ (es.getD j default).upd, x.1 ∉ (es.getD i default).rd)) := fun i j oi oj hij hi hj => by
    have hjl : j < ops.size := (Array.getElem?_eq_some_iff.1 hj).1
    have h1 := List.all_eq_true.1 hlex j (List.mem_range.2 hjl)
    rw [hj] at h1
    simp only [Bool.and_eq_true] at h1
    have h2 := List.all_eq_true.1 h1.2 i (List.mem_range.2 hij)
    rw [hi, Bool.or_eq_true] at h2
    have h3 := List.all_eq_true.1 heff j (List.mem_range.2 (by simpa [hlen] using hjl))
    simp only [Bool.and_eq_true] at h3
    have h4 := List.all_eq_true.1 h3.1 i (List.mem_range.2 hij)
    rw [Bool.or_eq_true] at h4
    rcases h2 with h2 | h2
    · exact .inl h2
    rcases h4 with h4 | h4
    · exact .inl h4
    right
    have gk : ∀ k, k < ops.size → (es.map fun e => (e.upd.map (·.1), e.rd)).getD k ([], []) = ((es.getD k default).upd.map (·.1), (es.getD k default).rd) := fun k hk => by
      rw [List.getD_eq_getElem?_getD, List.getD_eq_getElem?_getD, List.getElem?_map, List.getElem?_eq_getElem (by omega)]; rfl
    rw [gk i (by omega), gk j hjl] at h4
    simp only [Bool.and_eq_true] at h4
    refine ⟨h2, fun x hx y hy e => ?_, fun x hx hr => ?_, fun x hx hr => ?_⟩
    · exact disj_spec h4.1.1 x.1 (List.mem_map.2 ⟨x, hx, rfl⟩) (List.mem_map.2 ⟨y, hy, e.symm⟩)
    · exact disj_spec h4.1.2 x.1 (List.mem_map.2 ⟨x, hx, rfl⟩) hr
    · exact disj_spec h4.2 x.1 (List.mem_map.2 ⟨x, hx, rfl⟩) hr
  have keys : ∀ (j : Nat), j < ops.size → ∀ x ∈ (es.getD j default).upd, x.1 < nx ∨ (x.1 - nx) / D = j ∨ ((x.1 - nx) / D < j ∧ ((befs ops.toList []).getD j 0).testBit ((x.1 - nx) / D) = true) := fun j hj x hx => by
    have h3 := List.all_eq_true.1 heff j (List.mem_range.2 (by simpa [hlen] using hj))
    simp only [Bool.and_eq_true] at h3
    have gk : (es.map fun e => (e.upd.map (·.1), e.rd)).getD j ([], []) = ((es.getD j default).upd.map (·.1), (es.getD j default).rd) := by
      rw [List.getD_eq_getElem?_getD, List.getD_eq_getElem?_getD, List.getElem?_map, List.getElem?_eq_getElem (by omega)]; rfl
    rw [gk] at h3
    have h4 := List.all_eq_true.1 h3.2 x.1 (List.mem_map.2 ⟨x, hx, rfl⟩)
    simp only [Bool.or_eq_true, Bool.and_eq_true, beq_iff_eq, Nat.blt_eq] at h4
    rcases h4 with (h4 | h4) | h4
    · exact .inl h4
    · exact .inr (.inl h4)
    · exact .inr (.inr h4)
  have edges : ∀ (j : Nat) o, ops[j]? = some o → ∀ e ∈ o.after, Region.binds .any e = true → e.on < j := fun j o ho e he hb => by
    have hjl : j < ops.size := (Array.getElem?_eq_some_iff.1 ho).1
    have h1 := List.all_eq_true.1 hlex j (List.mem_range.2 hjl)
    rw [ho] at h1
    simp only [Bool.and_eq_true] at h1
    have := List.all_eq_true.1 h1.1 e (by simpa using he)
    simpa [hb] using this
  have finish : ∀ (listed : Array Bool) (a : Act) (W : World) (μ : Nat → Option Nat), (∀ i, i < ops.size → listed.getD i false = true) →
      RepS F μ (stS (fun i => es.getD i default) (get st0) (fun i => listed.getD i false) ops.size) W →
      RepE (Mut F μ (stS (fun i => es.getD i default) (get st0) (fun i => listed.getD i false) ops.size)) μ W (envS (fun i => (ops[i]?).bind (·.dst)) (fun i => es.getD i default) env0 (fun i => listed.getD i false) ops.size) a.tmps →
      a.defers = ds → (∀ b, nx ≤ b → (∀ i, i < ops.size → listed.getD i false = true → ¬ (nx + D * i ≤ b ∧ b < nx + D * (i + 1))) → μ b = none) →
      Ext F (Mut F μ0 (get st0)) μ0 W0 (Mut F μ (stS (fun i => es.getD i default) (get st0) (fun i => listed.getD i false) ops.size)) μ W → (∀ b, b < nx → μ b = μ0 b) → Q .normal a W := fun listed a W μ hall hS hE hd hf hx hlo => by
    rw [stS_congr _ _ (S' := fun _ => true) ops.size fun i hi => hall i hi] at hS hE hx
    rw [envS_congr _ _ _ (S' := fun _ => true) ops.size fun i hi => hall i hi] at hE
    rw [← hst] at hS hE hx
    rw [← henv] at hE
    refine hQ μ W a ⟨hS, hE, hd, fun b hb => ⟨hf b (by omega) fun i hi _ hr => ?_, ?_⟩, hx, hlo⟩
    · have : D * (i + 1) ≤ D * ops.size := Nat.mul_le_mul_left D (by omega)
      omega
    · rw [hst]
      have : stS (fun i => es.getD i default) (get st0) (fun _ => true) ops.size b = stS (fun i => es.getD i default) (get st0) (fun _ => false) ops.size b := by
        refine stS_get _ _ ops.size fun i hi hx => ?_
        obtain ⟨x, hx, rfl⟩ := hx
        cases ho : ops[i]? with
        | none => have := Array.getElem?_eq_none_iff.1 ho; omega
        | some o =>
          have := (hok i o (Nat.zero_le _) ho).2 x hx
          have h2 : D * (i + 1) ≤ D * ops.size := Nat.mul_le_mul_left D (by omega)
          omega
      rw [this]
      have none : ∀ n, stS (fun i => es.getD i default) (get st0) (fun _ => false) n = get st0 := fun n => by
        induction n with
        | zero => rfl
        | succ n ih => rw [stS, if_neg (by simp), ih]
      rw [none]
      exact hf0 b (by omega)
  intro fuel
  induction fuel with
  | zero =>
    intro listed a W μ hsz hcnt _ hS hE hd hf hx hlo
    have hall := cnt_full ops.size (by omega : cnt (fun i => listed.getD i false) ops.size = ops.size)
    refine ⟨?_, finish listed a W μ hall hS hE hd hf hx hlo⟩
    cases hr : Region.ready .any ops listed with
    | nil => rfl
    | cons j r =>
      have hj : j ∈ Region.ready .any ops listed := by rw [hr]; simp
      obtain ⟨h0, o, ho, _⟩ := mem_ready.1 hj
      have hjl : j < ops.size := (Array.getElem?_eq_some_iff.1 ho).1
      rw [getD_true_false (by omega)] at h0
      rw [hall j hjl] at h0; cases h0
  | succ fuel ih =>
    intro listed a W μ hsz hcnt hdown hS hE hd hf hx hlo
    refine ⟨fun hr => ?_, fun i hi => ?_⟩
    · refine finish listed a W μ ?_ hS hE hd hf hx hlo
      intro i
      induction i using Nat.strongRecOn with
      | _ i ihi =>
        intro hil
        cases hS' : listed.getD i false with
        | true => rfl
        | false =>
          exfalso
          cases ho : ops[i]? with
          | none => have := Array.getElem?_eq_none_iff.1 ho; omega
          | some o =>
            have : i ∈ Region.ready .any ops listed := mem_ready.2 ⟨by rw [getD_true_false (by omega)]; exact hS', o, ho, fun e he hb => ihi e.on (edges i o ho e he hb) (by have := edges i o ho e he hb; omega)⟩
            rw [hr] at this; cases this
    · obtain ⟨h0, o, ho, hpre⟩ := mem_ready.1 hi
      have hil : i < ops.size := (Array.getElem?_eq_some_iff.1 ho).1
      rw [getD_true_false (by omega)] at h0
      have before : ∀ k, ((befs ops.toList []).getD i 0).testBit k = true → listed.getD k false = true := fun k hk => befs_spec hdown ops.toList [] (by simp) (fun k o i hk => by simp at hk) i o k ho hk hpre
      have later : ∀ (k : Nat) ok, ops[k]? = some ok → listed.getD k false = true → ((befs ops.toList []).getD k 0).testBit i = true → False := fun k ok hok' hk hb => by
        have := befs_spec hdown ops.toList [] (by simp) (fun k o i hk => by simp at hk) k ok i hok' hb (hdown k ok hok' hk)
        rw [h0] at this; cases this
      have some_of : ∀ k, k < ops.size → ∃ ok, ops[k]? = some ok := fun k hk => ⟨ops[k], Array.getElem?_eq_getElem hk⟩
      have hOK := (hok i o (Nat.zero_le _) ho).1
      unfold wpOp
      rw [ho]
      simp only
      have goal : (if Region.wanted o (yielded ops a.tmps) then o.wp P a W (wpAny P .any ops Q fuel (listed.setIfInBounds i true)) Q else wpAny P .any ops Q fuel (listed.setIfInBounds i true) (a.put o.dst undef) W) := by
        refine hOK F μ _ W a _ hS hE (fun t ht => ?_) (fun b hb => ?_) (fun q hq => ⟨?_, ?_⟩) _ Q fun v μ' W' hA => ?_
        · rw [← envS_upto _ _ _ i ops.size (by omega)]
          refine envS_get _ _ _ ops.size fun k hk hkt => ?_
          obtain ⟨ok, hok'⟩ := some_of k hk
          have hkd : ok.dst = some t := by simpa [hok'] using hkt
          by_cases h1 : k < i
          · rcases pair k i ok o h1 hok' ho with hb | ⟨ha, _⟩
            · simp only [h1, decide_true]; exact before k hb
            · exact absurd ht ((Oper.apart_spec ha).1 t hkd)
          · by_cases h2 : k = i
            · subst h2; simpa using h0
            · simp only [h1, decide_false]
              cases hSk : listed.getD k false with
              | false => rfl
              | true =>
                exfalso
                rcases pair i k o ok (by omega) ho hok' with hb | ⟨ha, _⟩
                · exact later k ok hok' hSk hb
                · exact (Oper.apart_spec ha).2.2 t hkd ht
        · rw [← stS_upto _ _ i ops.size (by omega)]
          refine stS_get _ _ ops.size fun k hk ⟨x, hxu, hxb⟩ => ?_
          obtain ⟨ok, hok'⟩ := some_of k hk
          by_cases h1 : k < i
          · rcases pair k i ok o h1 hok' ho with hb' | ⟨_, _, ha, _⟩
            · simp only [h1, decide_true]; exact before k hb'
            · exact absurd hb (hxb ▸ ha x hxu)
          · by_cases h2 : k = i
            · subst h2; simpa using h0
            · simp only [h1, decide_false]
              cases hSk : listed.getD k false with
              | false => rfl
              | true =>
                exfalso
                rcases pair i k o ok (by omega) ho hok' with hb' | ⟨_, _, _, ha⟩
                · exact later k ok hok' hSk hb'
                · exact ha x hxu (hxb ▸ hb)
        · refine hf _ (by omega) fun k hk hSk hr => ?_
          have hki : k ≠ i := fun e => by subst e; rw [h0] at hSk; cases hSk
          rcases Nat.lt_or_ge k i with h1 | h1
          · have : D * (k + 1) ≤ D * i := Nat.mul_le_mul_left D h1
            omega
          · have : D * (i + 1) ≤ D * k := Nat.mul_le_mul_left D (by omega)
            rw [Nat.mul_succ] at this
            omega
        · have hnone : stS (fun i => es.getD i default) (get st0) (fun i => listed.getD i false) ops.size (nx + D * i + q) = stS (fun i => es.getD i default) (get st0) (fun _ => false) ops.size (nx + D * i + q) := by
            refine stS_get _ _ ops.size fun k hk ⟨x, hxu, hxb⟩ => ?_
            obtain ⟨ok, hok'⟩ := some_of k hk
            cases hSk : listed.getD k false with
            | false => rfl
            | true =>
              exfalso
              have hdiv : (x.1 - nx) / D = i := by
                rw [hxb, show nx + D * i + q - nx = D * i + q by omega]; exact div_range hq
              rcases keys k hk x hxu with h1 | h1 | h1
              · omega
              · rw [hdiv] at h1; subst h1; rw [h0] at hSk; cases hSk
              · rw [hdiv] at h1; exact later k ok hok' hSk h1.2
          rw [hnone]
          have none : ∀ n, stS (fun i => es.getD i default) (get st0) (fun _ => false) n = get st0 := fun n => by
            induction n with
            | zero => rfl
            | succ n ih => rw [stS, if_neg (by simp), ih]
          rw [none]; exact hf0 _ (by omega)
        · obtain ⟨h1, h2, h3, h4⟩ := hA
          have hSeq : (fun k => (listed.setIfInBounds i true).getD k false) = fun k => listed.getD k false || k == i := by
            funext k
            by_cases e : i = k
            · subst e; simp [hsz, hil]
            · rw [getD_set_ne false e, show (k == i) = false by simpa using Ne.symm e, Bool.or_false]
          have hst' : stS (fun i => es.getD i default) (get st0) (fun k => (listed.setIfInBounds i true).getD k false) ops.size = upds (stS (fun i => es.getD i default) (get st0) (fun k => listed.getD k false) ops.size) (es.getD i default).upd := by
            rw [hSeq]
            refine stS_insert _ _ ops.size hil (fun k hk1 hk2 hSk x hxu y hyu => ?_) h0
            obtain ⟨ok, hok'⟩ := some_of k hk2
            rcases pair i k o ok hk1 ho hok' with hb' | ⟨_, ha, _⟩
            · exact (later k ok hok' hSk hb').elim
            · exact ha x hxu y hyu
          have henv' : envS (fun i => (ops[i]?).bind (·.dst)) (fun i => es.getD i default) env0 (fun k => (listed.setIfInBounds i true).getD k false) ops.size = setD (envS (fun i => (ops[i]?).bind (·.dst)) (fun i => es.getD i default) env0 (fun k => listed.getD k false) ops.size) o.dst (es.getD i default).val := by
            rw [hSeq]
            have := envS_insert (fun i => (ops[i]?).bind (·.dst)) (fun i => es.getD i default) env0 (S := fun k => listed.getD k false) (j := i) ops.size hil (fun k hk1 hk2 hSk t hdt hkt => ?_) h0
            · simpa [ho] using this
            · obtain ⟨ok, hok'⟩ := some_of k hk2
              rcases pair i k o ok hk1 ho hok' with hb' | ⟨ha, _⟩
              · exact (later k ok hok' hSk hb').elim
              · exact (Oper.apart_spec ha).2.1 t (by simpa [ho] using hdt) (by simpa [hok'] using hkt)
          refine ih (listed.setIfInBounds i true) _ W' μ' (by simpa using hsz) ?_ (fun j oj hj hSj e he hb => ?_) (by rw [hst']; exact h1) (by rw [hst', henv']; exact setD_put (hE.ext h3) h2 o.dst) ((put_defers _ _ _).trans hd) (fun b hb hout => ?_) (by rw [hst']; exact hx.trans h3) (fun b hb => (h4 b (.inl (by omega))).trans (hlo b hb))
          · rw [hSeq, cnt_insert h0 _ hil]; omega
          · have hSj' : (listed.getD j false || j == i) = true := by rw [← hSj]; exact (congrFun hSeq j).symm
            show (listed.setIfInBounds i true).getD e.on false = true
            refine getD_set_true ?_
            rw [Bool.or_eq_true, beq_iff_eq] at hSj'
            rcases hSj' with h5 | h5
            · exact hdown j oj hj h5 e he hb
            · subst h5; rw [ho] at hj; injection hj with hj; subst hj; exact hpre e he hb
          · have hmem : (listed.setIfInBounds i true).getD i false = true := by rw [congrFun hSeq i]; simp
            have hni := hout i hil hmem
            rw [Nat.mul_succ] at hni
            rw [h4 b (by omega)]
            exact hf b hb fun k hk hSk => hout k hk (getD_set_true hSk)
      by_cases hw : Region.wanted o (yielded ops a.tmps) = true
      · rw [if_pos hw] at goal ⊢; exact .inl goal
      · rw [if_neg hw] at goal ⊢; exact goal
end Go.Proofs.Ytiondkijgpjgcaa.Pw
namespace Go.Proofs.Ytiondkijgpjgcaa.Pw
open Go Go.RowKit
inductive X where
  | normal
  | exit (id : Nat)
  | ret
def X.of : X → Exit | .normal => .normal | .exit id => .exit id | .ret => .ret
/-- What is kept; of the call's own blocks, where those numbered below 'base' lie. -/
structure Keep (base : Nat) (F M : Nat → Prop) (μ : Nat → Option Nat) (W : World) (M' : Nat → Prop) (μ' : Nat → Option Nat) (W' : World) : Prop where
  size : W.heap.size ≤ W'.heap.size
  keep : ∀ B, B < W.heap.size → ¬ M B → W'.heap[B]? = W.heap[B]?
  shape : ∀ (B : Nat) c el, W.heap[B]? = some (.cells c el (0, 0)) → ∃ c', W'.heap[B]? = some (.cells c' el (0, 0)) ∧ c'.size = c.size
  grow : ∀ b, b < base → μ' b = μ b
  fresh : ∀ B, B < W.heap.size → M' B → M B
  os : W'.os = W.os
  tape : W'.tape = W.tape
  output : W'.output = W.output
  keepF : ∀ B, F B → W'.heap[B]? = W.heap[B]?
theorem Ext.to {F M M' : Nat → Prop} {μ μ' : Nat → Option Nat} {W W' : World} (base : Nat) (hlo : ∀ b, b < base → μ' b = μ b) (h : Ext F M μ W M' μ' W') : Keep base F M μ W M' μ' W' := ⟨h.size, h.keep, h.shape, hlo, h.fresh, h.os, h.tape, h.output, h.keepF⟩
theorem Keep.trans {base : Nat} {F M M' M'' : Nat → Prop} {μ μ' μ'' : Nat → Option Nat} {W W' W'' : World} (h : Keep base F M μ W M' μ' W') (k : Keep base F M' μ' W' M'' μ'' W'') : Keep base F M μ W M'' μ'' W'' where
  size := Nat.le_trans h.size k.size
  keep B hB hM := (k.keep B (Nat.lt_of_lt_of_le hB h.size) (fun hm => hM (h.fresh B hB hm))).trans (h.keep B hB hM)
  shape B c el hc := by
    obtain ⟨c1, h1, e1⟩ := h.shape B c el hc
    obtain ⟨c2, h2, e2⟩ := k.shape B c1 el h1
    exact ⟨c2, h2, e2.trans e1⟩
  grow b hb := (k.grow b hb).trans (h.grow b hb)
  fresh B hB hm := h.fresh B hB (k.fresh B (Nat.lt_of_lt_of_le hB h.size) hm)
  os := k.os.trans h.os
  tape := k.tape.trans h.tape
  output := k.output.trans h.output
  keepF B hB := (k.keepF B hB).trans (h.keepF B hB)
abbrev Stores := List (Nat × Blk)
/-- The machine stands where the abstract state says. -/
structure At (F : Nat → Prop) (μ : Nat → Option Nat) (env : List AV) (st : Stores) (nx : Nat) (W : World) (a : Act) : Prop where
  rs : RepS F μ (get st) W
  re : RepE (Mut F μ (get st)) μ W env a.tmps
  df : a.defers = []
  fr : ∀ b, nx ≤ b → μ b = none ∧ get st b = none
abbrev PostA := X → List AV → Stores → Nat → Prop
def QC (base : Nat) (Q : PostA) (F : Nat → Prop) (μ : Nat → Option Nat) (st : Stores) (W : World) : Exit → Act → World → Prop := fun e a' W' =>
  ∃ x env' st' nx' μ', e = X.of x ∧ Q x env' st' nx' ∧ base ≤ nx' ∧ At F μ' env' st' nx' W' a' ∧ Keep base F (Mut F μ (get st)) μ W (Mut F μ' (get st')) μ' W'
def WP (P : Program) (base : Nat) (c : Code) (Q : PostA) (env : List AV) (st : Stores) (nx : Nat) : Prop :=
  base ≤ nx → ∀ F μ W a, At F μ env st nx W a → c.wp P (QC base Q F μ st W) a W
/-- A loop, from where its round begins. -/
def LW (P : Program) (c : Code) (Q : Exit → Act → World → Prop) (a : Act) (w : World) : Prop :=
  ∀ (b : Frame) (k : List Item) (cs : List Frame), ∃ e a' w', Q e a' w' ∧ Arrives P (lone (b.at a (.code c :: .inLoop c :: k)) cs w) b k cs e a' w'
theorem LW.wp {P : Program} {c : Code} {Q : Exit → Act → World → Prop} {a : Act} {w : World} (h : LW P c Q a w) : (Code.loop c).wp P Q a w := fun b k cs => by
  obtain ⟨e, a', w', hq, harr⟩ := h b k cs
  exact ⟨e, a', w', hq, .of_steps (.one step_loop) harr⟩
theorem LW.unroll {P : Program} {c : Code} {Q : Exit → Act → World → Prop} {a : Act} {w : World} (h : c.wp P (Exit.then (LW P c Q) Q) a w) : LW P c Q a w := fun b k cs => by
  obtain ⟨e, a₁, w₁, hq, harr⟩ := h b (.inLoop c :: k) cs
  cases e with
  | normal =>
    obtain ⟨e₂, a₂, w₂, hq₂, harr₂⟩ := hq b k cs
    exact ⟨e₂, a₂, w₂, hq₂, .of_steps (Steps.trans harr (.one step_inLoop)) harr₂⟩
  | exit id => exact ⟨_, a₁, w₁, hq, .pass (x := .inLoop c) rfl (fun _ _ => .inl (by simp)) harr⟩
  | goto l => exact ⟨_, a₁, w₁, hq, .pass (x := .inLoop c) rfl (fun _ _ => .inl (by simp)) harr⟩
  | ret => exact ⟨_, a₁, w₁, hq, .pass (x := .inLoop c) rfl (fun _ _ => .inl (by simp)) harr⟩
  | panic ch => exact ⟨_, a₁, w₁, hq, .pass (x := .inLoop c) rfl (fun _ _ => .inl (by simp)) harr⟩
  | outgrown => exact ⟨_, a₁, w₁, hq, .pass (x := .inLoop c) rfl (fun _ _ => .inl (by simp)) harr⟩
theorem LW.mono {P : Program} {c : Code} {Q Q' : Exit → Act → World → Prop} {a : Act} {w : World} (h : LW P c Q a w) (hq : ∀ e a w, Q e a w → Q' e a w) : LW P c Q' a w := fun b k cs => by
  obtain ⟨e, a', w', h1, h2⟩ := h b k cs
  exact ⟨e, a', w', hq _ _ _ h1, h2⟩
def WPL (P : Program) (base : Nat) (c : Code) (Q : PostA) (env : List AV) (st : Stores) (nx : Nat) : Prop :=
  base ≤ nx → ∀ F μ W a, At F μ env st nx W a → LW P c (QC base Q F μ st W) a W
section rules
variable {P : Program} {base : Nat} {Q : PostA} {env : List AV} {st : Stores} {nx : Nat}
theorem QC.trans {F : Nat → Prop} {μ μ' : Nat → Option Nat} {st' : Stores} {W W' : World} (hk : Keep base F (Mut F μ (get st)) μ W (Mut F μ' (get st')) μ' W') {e : Exit} {a : Act} {W2 : World}
    (h : QC base Q F μ' st' W' e a W2) : QC base Q F μ st W e a W2 := by
  obtain ⟨x, env2, st2, nx2, μ2, h1, h2, h3, h4, h5⟩ := h
  exact ⟨x, env2, st2, nx2, μ2, h1, h2, h3, h4, hk.trans h5⟩
theorem Keep.refl (base : Nat) (F M : Nat → Prop) (μ : Nat → Option Nat) (W : World) : Keep base F M μ W M μ W := (Ext.refl F M μ W).to base fun _ _ => rfl
theorem QC.here {F : Nat → Prop} {μ : Nat → Option Nat} {W : World} {a : Act} {x : X} (h : At F μ env st nx W a) (hb : base ≤ nx) (hq : Q x env st nx) : QC base Q F μ st W x.of a W :=
  ⟨x, env, st, nx, μ, rfl, hq, hb, h, Keep.refl _ _ _ _ _⟩
theorem WP_skip (h : Q .normal env st nx) : WP P base .skip Q env st nx := fun hb _ _ _ _ hA => wp_skip (QC.here (x := .normal) hA hb h)
theorem WP_exit {id : Nat} (h : Q (.exit id) env st nx) : WP P base (.exit id) Q env st nx := fun hb _ _ _ _ hA => wp_exit (QC.here (x := .exit id) hA hb h)
theorem WP_ret (h : Q .ret env st nx) : WP P base .ret Q env st nx := fun hb _ _ _ _ hA => wp_ret (QC.here (x := .ret) hA hb h)
theorem WP_mono {c : Code} {Q' : PostA} (h : WP P base c Q env st nx) (hq : ∀ x env st nx, Q x env st nx → Q' x env st nx) : WP P base c Q' env st nx := fun hb F μ W a hA =>
  wp_mono (h hb F μ W a hA) fun _ _ _ ⟨x, env2, st2, nx2, μ2, h1, h2, h3⟩ => ⟨x, env2, st2, nx2, μ2, h1, hq _ _ _ _ h2, h3⟩
def seqK (P : Program) (base : Nat) (y : Code) (Q : PostA) : PostA := fun x env st nx => match x with
  | .normal => WP P base y Q env st nx
  | x => Q x env st nx
theorem WP_seq {x y : Code} (h : WP P base x (seqK P base y Q) env st nx) : WP P base (.seq x y) Q env st nx := fun hb F μ W a hA => by
  refine wp_seq (wp_mono (h hb F μ W a hA) ?_)
  rintro e a' W' ⟨x, env2, st2, nx2, μ2, rfl, h2, h3, h4, h5⟩
  cases x with
  | normal => exact wp_mono (h2 h3 F μ2 W' a' h4) fun _ _ _ hq => hq.trans h5
  | exit id => exact ⟨_, env2, st2, nx2, μ2, rfl, h2, h3, h4, h5⟩
  | ret => exact ⟨_, env2, st2, nx2, μ2, rfl, h2, h3, h4, h5⟩
theorem WP_cond {c : Operand} {x y : Code} {t : Bool} (hc : ev env c = .p (.v (.bool t))) (h : WP P base (if t then x else y) Q env st nx) : WP P base (.cond c x y) Q env st nx := fun hb F μ W a hA => by
  have := hA.re.eval c
  rw [hc] at this
  exact wp_cond this.v_inv (h hb F μ W a hA)
theorem WP_cond2 {c : Operand} {x y : Code} {t : Bool} (hc : ev env c = .p (.v (.bool t))) (h1 : t = true → WP P base x Q env st nx) (h2 : t = false → WP P base y Q env st nx) : WP P base (.cond c x y) Q env st nx :=
  WP_cond hc (by cases t; exact h2 rfl; exact h1 rfl)
def blockK (id : Nat) (Q : PostA) : PostA := fun x env st nx => match x with
  | .exit i => if i = id then Q .normal env st nx else Q (.exit i) env st nx
  | x => Q x env st nx
theorem WP_block {id : Nat} {c : Code} (h : WP P base c (blockK id Q) env st nx) : WP P base (.block id c) Q env st nx := fun hb F μ W a hA => by
  refine wp_block (wp_mono (h hb F μ W a hA) ?_)
  rintro e a' W' ⟨x, env2, st2, nx2, μ2, rfl, h2, h3, h4, h5⟩
  cases x with
  | normal => exact ⟨_, env2, st2, nx2, μ2, rfl, h2, h3, h4, h5⟩
  | ret => exact ⟨_, env2, st2, nx2, μ2, rfl, h2, h3, h4, h5⟩
  | exit i =>
    simp only [blockK] at h2
    simp only [X.of, Exit.inBlock]
    split at h2
    · rename_i e; rw [if_pos e]; exact ⟨.normal, env2, st2, nx2, μ2, rfl, h2, h3, h4, h5⟩
    · rename_i e; rw [if_neg e]; exact ⟨.exit i, env2, st2, nx2, μ2, rfl, h2, h3, h4, h5⟩
def loopK (P : Program) (base : Nat) (c : Code) (Q : PostA) : PostA := fun x env st nx => match x with
  | .normal => WPL P base c Q env st nx
  | x => Q x env st nx
theorem WP_loop {c : Code} (h : WPL P base c Q env st nx) : WP P base (.loop c) Q env st nx := fun hb F μ W a hA => (h hb F μ W a hA).wp
theorem WPL_unroll {c : Code} (h : WP P base c (loopK P base c Q) env st nx) : WPL P base c Q env st nx := fun hb F μ W a hA => by
  refine .unroll (wp_mono (h hb F μ W a hA) ?_)
  rintro e a' W' ⟨x, env2, st2, nx2, μ2, rfl, h2, h3, h4, h5⟩
  cases x with
  | normal => exact (h2 h3 F μ2 W' a' h4).mono fun _ _ _ hq => hq.trans h5
  | exit id => exact ⟨_, env2, st2, nx2, μ2, rfl, h2, h3, h4, h5⟩
  | ret => exact ⟨_, env2, st2, nx2, μ2, rfl, h2, h3, h4, h5⟩
theorem RepS.drew {F : Nat → Prop} {μ : Nat → Option Nat} {s : Store} {W : World} (h : RepS F μ s W) : RepS F μ s W.drew ∧ Ext F (Mut F μ s) μ W (Mut F μ s) μ W.drew := by
  have ext : Ext F (Mut F μ s) μ W (Mut F μ s) μ W.drew := ⟨Nat.le_refl _, fun _ _ _ => rfl, fun _ c _ hc => ⟨c, hc, rfl⟩, fun _ _ hb => hb, fun _ _ hm => hm, rfl, rfl, rfl, fun _ _ => rfl⟩
  refine ⟨⟨fun b k hk => ?_, h.inj, h.low⟩, ext⟩
  rcases h.at_ b k hk with h0 | ⟨B, c, hB, hF, hc, hl, h1, hr⟩
  · exact .inl h0
  · exact .inr ⟨B, c, hB, hF, hc, hl, h1, fun j a ha => (hr j a ha).ext ext⟩
theorem WP_region {T : Tab} (hT : TOK P T) (hm : P.follows .mixedOrders = true) {D : Nat} (hD : 0 < D) {id : Nat} {ops : Array Oper} {draw : Bool} (hlex : draw = true → lexOK ops (befs ops.toList []) = true)
    (h : opsW P T D ops.toList nx ops.toList 0 env st [] fun env' st' acc => (draw = true → effsOK D nx (befs ops.toList []) (acc.reverse.map fun e => (e.upd.map (·.1), e.rd)) = true) ∧ Q .normal env' st' (nx + D * ops.size)) :
    WP P base (.region id ops draw) Q env st nx := fun hb F μ W a hA => by
  obtain ⟨es, env', st', hC, heff, hQ⟩ := opsW_chain hT hD _ _ _ _ _ _ h
  have fin : ∀ {W0 : World} (_ : Ext F (Mut F μ (get st)) μ W (Mut F μ (get st)) μ W0) (μ' : Nat → Option Nat) (W' : World) (a' : Act), Behind nx F μ st W0 a.defers env' st' (nx + D * ops.size) μ' W' a' → QC base Q F μ st W .normal a' W' :=
    fun h0 μ' W' a' hB => ⟨.normal, env', st', _, μ', rfl, hQ, by omega, ⟨hB.rs, hB.re, hB.df.trans hA.df, hB.fr⟩, (h0.trans hB.ex).to base fun b hb' => hB.lo b (by omega)⟩
  cases draw with
  | false =>
    refine wp_region ?_
    have := chain_ord hC (by simp) F μ W a hA.rs hA.re (by simpa using hA.fr) (QC base Q F μ st W) (fun μ' W' a' hB => fin (Ext.refl _ _ _ _) μ' W' a' (by simpa using hB))
    rw [List.range_eq_range']
    simpa using this
  | true =>
    obtain ⟨hS', hX⟩ := hA.rs.drew
    have he := heff rfl
    rw [List.append_nil, List.reverse_reverse] at he
    have e0 : ∀ i, (Array.replicate ops.size false).getD i false = false := fun i => by
      by_cases h : i < ops.size <;> simp [h]
    have hS0 : ∀ n, stS (fun i => es.getD i default) (get st) (fun i => (Array.replicate ops.size false).getD i false) n = get st := fun n => by
      induction n with
      | zero => rfl
      | succ n ih => rw [stS, e0]; exact ih
    have hE0 : ∀ n, envS (fun i => (ops[i]?).bind (·.dst)) (fun i => es.getD i default) env (fun i => (Array.replicate ops.size false).getD i false) n = env := fun n => by
      induction n with
      | zero => rfl
      | succ n ih => rw [envS, e0]; exact ih
    have hc0 : ∀ n, cnt (fun i => (Array.replicate ops.size false).getD i false) n = 0 := fun n => by
      induction n with
      | zero => rfl
      | succ n ih => rw [cnt, ih, e0]; rfl
    refine wp_region_any hm ?_
    refine region_drawn (W0 := W.drew) (ds := a.defers) (μ0 := μ) hD hC (hlex rfl) he (F := F) (fun b hb => (hA.fr b hb).2) (fun μ' W' a' hB => fin hX μ' W' a' hB) ops.size (Array.replicate ops.size false) a _ μ (by simp) (by rw [hc0]; omega)
      (fun j o _ hj => by have h : false = true := (e0 j).symm.trans hj; cases h) (by rw [hS0]; exact hS') (by rw [hS0, hE0]; exact hA.re.ext hX) rfl (fun b hb _ => (hA.fr b hb).1) (by rw [hS0]; exact Ext.refl _ _ _ _) (fun _ _ => rfl)
/-- Less is known. -/
def Wk (base : Nat) (env : List AV) (st : Stores) (nx : Nat) (env' : List AV) (st' : Stores) (nx' : Nat) : Prop := base ≤ nx → base ≤ nx' ∧ ∀ F μ W a, At F μ env st nx W a →
  ∃ μ', At F μ' env' st' nx' W a ∧ Keep base F (Mut F μ (get st)) μ W (Mut F μ' (get st')) μ' W
theorem WP_weaken {c : Code} {env' : List AV} {st' : Stores} {nx' : Nat} (hk : Wk base env st nx env' st' nx') (h : WP P base c Q env' st' nx') : WP P base c Q env st nx := fun hb F μ W a hA => by
  obtain ⟨h1, h2⟩ := hk hb
  obtain ⟨μ', h3, h4⟩ := h2 F μ W a hA
  exact wp_mono (h h1 F μ' W a h3) fun _ _ _ hq => hq.trans h4
theorem WPL_weaken {c : Code} {env' : List AV} {st' : Stores} {nx' : Nat} (hk : Wk base env st nx env' st' nx') (h : WPL P base c Q env' st' nx') : WPL P base c Q env st nx := fun hb F μ W a hA => by
  obtain ⟨h1, h2⟩ := hk hb
  obtain ⟨μ', h3, h4⟩ := h2 F μ W a hA
  exact (h h1 F μ' W a h3).mono fun _ _ _ hq => hq.trans h4
end rules
end Go.Proofs.Ytiondkijgpjgcaa.Pw
