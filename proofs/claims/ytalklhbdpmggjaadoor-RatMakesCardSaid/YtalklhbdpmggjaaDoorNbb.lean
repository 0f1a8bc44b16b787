/- The functions of the program as functions of values, part 2: a proof's lemmas, with no condition of their own. -/
import Derived.Test.YtalklhbdpmggjaaDoorProg
import Derived.Shelf.Strings.Builder1
import Derived.Lib.AppendStr
import Derived.Lib.UnsafeStr
import Derived.WalkKit
import Derived.Laws.Externs
import Derived.Laws.IdiomCopy
import Derived.Laws.BitsLemmas
import Derived.KernelRfl
import Derived.Laws.Rows
import Derived.Laws.AppendOwn
import Derived.Below
import Derived.Laws.MakeOwn
import Derived.Deep.Upon
import Derived.Great.BuildSlice
import Derived.Orders
import Derived.LoopN
import Derived.Test.YtalklhbdpmggjaaDoorNba
set_option linter.unusedVariables false
set_option linter.unusedSimpArgs false
set_option linter.unusedVariables false
set_option linter.unusedSimpArgs false
namespace Go.Proofs.YtalklhbdpmggjaaDoor.Sb
open Go Go.Shelf Go.RowKit
theorem szB : (Tryd.prog.info? 72).map (·.size) = some 2 := by kernel_rfl
theorem liesB : liesAt Tryd.prog Tryd.prog.depth 72 (2 / Tryd.prog.cellsOf 72) 0 72 1 = true := by kernel_rfl
theorem infoByte : (Tryd.prog.info? 5).map (fun i => (i.zero, i.size, i.bytes)) = some (some (.int .u8 0), 1, 1) := by kernel_rfl
set_option maxHeartbeats 1000000 in
set_option maxRecDepth 100000 in
theorem copyCheck_used (b : Nat) (w : World) (h0 : w.cell? ⟨b, 0, none⟩ = some (.pointer (some ⟨b, 0, none⟩))) :
    Calls Tryd.prog 109 #[.pointer (some ⟨b, 0, none⟩)] w fun e w' => e = .returned (.tuple #[]) ∧ w' = w := by
  obtain ⟨j, hj, _⟩ := Option.map_eq_some_iff.1 szB
  go_enter Tryd.func109, Tryd.ntmps109
  go_wp2
  rw [Lib.run_neq_ptr_same w _ Tryd.underlying69 hj]
  go_wp2
  go_end0
  exact ⟨rfl, rfl⟩
set_option maxHeartbeats 1000000 in
set_option maxRecDepth 100000 in
theorem copyCheck_fresh (b : Nat) (w : World) (h0 : w.cell? ⟨b, 0, none⟩ = some (.pointer none)) (hsh : w.shape? b = some (72, 2)) (hfz : w.frozen? ⟨b, 0, none⟩ = false) :
    Calls Tryd.prog 109 #[.pointer (some ⟨b, 0, none⟩)] w fun e w' => e = .returned (.tuple #[]) ∧ w' = w.setCell ⟨b, 0, none⟩ (.pointer (some ⟨b, 0, none⟩)) := by
  obtain ⟨j, hj, hjs⟩ := Option.map_eq_some_iff.1 szB
  go_enter Tryd.func109, Tryd.ntmps109
  go_wp2
  rw [Lib.run_to_unsafe w ⟨b, 0, none⟩ Tryd.underlying69 Tryd.underlying109 hj (by rw [hjs]; decide) hsh (Nat.zero_lt_succ 1)]
  simp only [Result.andThen]
  rw [Oper.upon_value]
  go_wp2
  rw [run_callFunc_extern Tryd.func120 (by kernel_rfl) (by kernel_rfl) (by kernel_rfl) (e := Extern.AbiNoEscape.same) (by kernel_rfl)]
  rw [Lib.run_noEscape]
  simp only [Result.andThen]
  rw [Oper.upon_value]
  go_wp2
  rw [Lib.run_from_unsafe w ⟨b, 0, none⟩ Tryd.underlying109 Tryd.underlying69 hj hsh liesB]
  simp only [Result.andThen]
  rw [Oper.upon_value]
  go_wp2
  go_end0
  exact ⟨rfl, rfl⟩
theorem copyCheck (B b : Nat) (bs : List Value) (w : World) (h : Lib.IsBuilder 72 5 B b bs w) :
    Calls Tryd.prog 109 #[.pointer (some ⟨b, 0, none⟩)] w fun e w' => e = .returned (.tuple #[]) ∧ (Lib.BuilderAt 72 5 B b (.pointer (some ⟨b, 0, none⟩)) bs w' ∧ Below B w w') := by
  rcases h with h | h
  · refine (copyCheck_fresh b w h.cell0 h.shape h.frozen0).mono ?_
    rintro e w' ⟨rfl, rfl⟩
    exact ⟨rfl, h.used _, (Below.refl B w).setCell (p := ⟨b, 0, none⟩) h.1 _⟩
  · refine (copyCheck_used b w h.cell0).mono ?_
    rintro e w' ⟨rfl, rfl⟩
    exact ⟨rfl, h, Below.refl B _⟩
set_option maxHeartbeats 2000000 in
set_option maxRecDepth 100000 in
theorem writeString (B b : Nat) (bs : List Value) (s : ByteArray) (w : World) (h : Lib.IsBuilder 72 5 B b bs w) (hlen : bs.length + s.size ≤ 140737488355328) (hBw : B ≤ w.heap.size) :
    Calls Tryd.prog 84 #[.pointer (some ⟨b, 0, none⟩), .string s] w fun e w' => e = .returned (.tuple #[.int .i64 s.size, .nilIface]) ∧ (Lib.BuilderAt 72 5 B b (.pointer (some ⟨b, 0, none⟩)) (bs ++ Lib.strCells s) w' ∧ Below B w w') := by
  obtain ⟨i0, hi, hz0, hz1, hz2⟩ := info_parts infoByte
  go_enter Tryd.func84, Tryd.ntmps84
  go_wp2_with (go_at_call 109; refine (copyCheck B b bs _ h).mono ?_)
  rintro e w1 ⟨rfl, h1, hb1⟩
  obtain ⟨hB, v, hbk, hown, hne⟩ := h1
  have c0 : w1.cell? ⟨b, 0, none⟩ = some (.pointer (some ⟨b, 0, none⟩)) := by rw [Lib.cell_of_heap hbk]; rfl
  have c1 : w1.cell? ⟨b, 1, none⟩ = some v := by rw [Lib.cell_of_heap hbk]; rfl
  go_wp2_with (at_builtin; refine Lib.wpList_append_own_string _ rfl _ _ 70 9 rfl B 5 i0 Tryd.underlying70 Tryd.underlying9 hi hz0 hz1 hz2 _ _ _ rfl hown s rfl ?c3 ?c4 ?c5 ?_)
  case c3 => unfold maxLen; omega
  case c4 => omega
  case c5 => have := hb1.size; omega
  intro v' w2 hown' hgrow _
  have hlt : b < w1.heap.size := by
    rcases Nat.lt_or_ge b w1.heap.size with h' | h'
    · exact h'
    · simp [Array.getElem?_eq_none h'] at hbk
  have hb2 : w2.heap[b]? = some (.cells #[.pointer (some ⟨b, 0, none⟩), v] 72 (0, 0)) := by
    rw [hgrow.block b hlt (fun e => hne e.symm)]
    exact hbk
  have d0 : w2.cell? ⟨b, 0, none⟩ = some (.pointer (some ⟨b, 0, none⟩)) := by rw [Lib.cell_of_heap hb2]; rfl
  have d1 : w2.cell? ⟨b, 1, none⟩ = some v := by rw [Lib.cell_of_heap hb2]; rfl
  have f1 : w2.frozen? ⟨b, 1, none⟩ = false := Lib.frozen_of_heap hb2 1
  obtain ⟨ao, n', cap, rfl⟩ : ∃ ao n' cap, v' = .slice ao n' cap := by
    rcases hown'.2 with ⟨hv, _⟩ | ⟨g, cap, cur, hv, _⟩
    · exact ⟨_, _, _, hv⟩
    · exact ⟨_, _, _, hv⟩
  go_wp2
  go_ret2
  refine ⟨rfl, ?_, ?_⟩
  · exact Lib.BuilderAt.put (T := 72) (e := 5) hB hb2 (bs' := bs ++ Lib.strCells s) (by simpa [Lib.strCells_length] using hown') (by decide)
  · exact (hb1.grown hgrow (by have := hb1.size; omega) (fun k hk => (hown.lt k hk).1)).setCell (p := ⟨b, 1, none⟩) hB _
end Go.Proofs.YtalklhbdpmggjaaDoor.Sb
namespace Go.Proofs.YtalklhbdpmggjaaDoor.Pw
open Go Go.RowKit
/-- A value that nobody writes behind: a number, a slice as the list of its cells, a cell's address in such a list. -/
inductive PV where
  | v (x : Value)
  | lst (n : Nat) (cs : List PV)
  | pt (cs : List PV) (o : Nat)
  | agg (cs : List PV)
  | tup (cs : List PV)
  deriving Inhabited
/-- A value of a running call: it may lie in a block of the call's own. -/
inductive AV where
  | any
  | p (x : PV)
  | own (b o : Nat)
  | sl (b o n k : Nat)
  | agg (cs : List AV)
  | tup (cs : List AV)
  | fn (f : Nat) (caps : List AV)
  deriving Inhabited
inductive Blk where
  | pc (el : Nat) (cs : List PV)
  | mc (el : Nat) (cs : List AV)
  deriving Inhabited
def Blk.el : Blk → Nat | .pc e _ => e | .mc e _ => e
def Blk.cells : Blk → List AV | .pc _ cs => cs.map .p | .mc _ cs => cs
abbrev Store := Nat → Option Blk
/-- What a pure value stands for: memory outside the blocks M, that are there. -/
inductive RepP (M : Nat → Prop) (W : World) : PV → Value → Prop
  | v (x : Value) : x.oneCell' = true → RepP M W (.v x) x
  | lst0 (a : Option Addr) (cap : Nat) : RepP M W (.lst 0 []) (.slice a 0 cap)
  | lst (n cap : Nat) (cs : List PV) (B o : Nat) (g : Nat → Value) : B < W.heap.size → ¬ M B → n ≤ cap ∧ cap ≤ maxLen →
      (∀ j, j < cs.length → W.cell? ⟨B, o + j, none⟩ = some (g j)) → (∀ j, j < cs.length → (g j).oneCell' = true) →
      (∀ (j : Nat) pv, cs[j]? = some pv → RepP M W pv (g j)) → RepP M W (.lst n cs) (.slice (some ⟨B, o, none⟩) n cap)
  | pt (cs : List PV) (o B base : Nat) (g : Nat → Value) : B < W.heap.size → ¬ M B →
      (∀ j, j < cs.length → W.cell? ⟨B, base + j, none⟩ = some (g j)) → (∀ j, j < cs.length → (g j).oneCell' = true) →
      (∀ (j : Nat) pv, cs[j]? = some pv → RepP M W pv (g j)) → RepP M W (.pt cs o) (.pointer (some ⟨B, base + o, none⟩))
  | agg (cs : List PV) (xs : List Value) : xs.length = cs.length → (∀ (j : Nat) x, xs[j]? = some x → x.oneCell' = true) →
      (∀ (j : Nat) pv x, cs[j]? = some pv → xs[j]? = some x → RepP M W pv x) → RepP M W (.agg cs) (.agg xs.toArray)
  | tup (cs : List PV) (xs : List Value) : xs.length = cs.length →
      (∀ (j : Nat) pv x, cs[j]? = some pv → xs[j]? = some x → RepP M W pv x) → RepP M W (.tup cs) (.tuple xs.toArray)
inductive RepA (M : Nat → Prop) (μ : Nat → Option Nat) (W : World) : AV → Value → Prop
  | any (x : Value) : RepA M μ W .any x
  | p (x : PV) (v : Value) : RepP M W x v → RepA M μ W (.p x) v
  | own (b o B : Nat) : μ b = some B → RepA M μ W (.own b o) (.pointer (some ⟨B, o, none⟩))
  | sl0 (b k : Nat) : RepA M μ W (.sl b 0 0 k) (.slice none 0 0)
  | sl (b o n k B cap el : Nat) (c : Array Value) : μ b = some B → n ≤ cap → cap ≤ maxLen → W.heap[B]? = some (.cells c el (0, 0)) → o + cap * k = c.size →
      RepA M μ W (.sl b o n k) (.slice (some ⟨B, o, none⟩) n cap)
  | agg (cs : List AV) (xs : List Value) : xs.length = cs.length → (∀ (j : Nat) x, xs[j]? = some x → x.oneCell' = true) →
      (∀ (j : Nat) pv x, cs[j]? = some pv → xs[j]? = some x → RepA M μ W pv x) → RepA M μ W (.agg cs) (.agg xs.toArray)
  | tup (cs : List AV) (xs : List Value) : xs.length = cs.length →
      (∀ (j : Nat) pv x, cs[j]? = some pv → xs[j]? = some x → RepA M μ W pv x) → RepA M μ W (.tup cs) (.tuple xs.toArray)
  | fn (f : Nat) (caps : List AV) (xs : List Value) : xs.length = caps.length →
      (∀ (j : Nat) pv x, caps[j]? = some pv → xs[j]? = some x → RepA M μ W pv x) → RepA M μ W (.fn f caps) (.func (.func f) #[] xs.toArray)
/-- The blocks that the call may write: those that a live block of its own lies in, and those that others hold. -/
def Mut (F : Nat → Prop) (μ : Nat → Option Nat) (st : Store) (B : Nat) : Prop := F B ∨ ∃ b, st b ≠ none ∧ μ b = some B
/-- What lies in the call's own blocks. -/
structure RepS (F : Nat → Prop) (μ : Nat → Option Nat) (st : Store) (W : World) : Prop where
  at_ : ∀ b k, st b = some k → (μ b = none ∧ k.cells = []) ∨ ∃ B c, μ b = some B ∧ ¬ F B ∧ W.heap[B]? = some (.cells c k.el (0, 0)) ∧ k.cells.length ≤ c.size ∧
    (∀ j : Nat, j < k.cells.length → (c.getD j undef).oneCell' = true) ∧ ∀ (j : Nat) a, k.cells[j]? = some a → RepA (Mut F μ st) μ W a (c.getD j undef)
  inj : ∀ b b' B, st b ≠ none → st b' ≠ none → μ b = some B → μ b' = some B → b = b'
  low : ∀ B, F B → B < W.heap.size
/-- What is kept of the memory from one moment to a later one. -/
structure Ext (F M : Nat → Prop) (μ : Nat → Option Nat) (W : World) (M' : Nat → Prop) (μ' : Nat → Option Nat) (W' : World) : Prop where
  size : W.heap.size ≤ W'.heap.size
  keep : ∀ B, B < W.heap.size → ¬ M B → W'.heap[B]? = W.heap[B]?
  shape : ∀ (B : Nat) c el, W.heap[B]? = some (.cells c el (0, 0)) → ∃ c', W'.heap[B]? = some (.cells c' el (0, 0)) ∧ c'.size = c.size
  grow : ∀ b B, μ b = some B → μ' b = some B
  fresh : ∀ B, B < W.heap.size → M' B → M B
  os : W'.os = W.os
  tape : W'.tape = W.tape
  output : W'.output = W.output
  keepF : ∀ B, F B → W'.heap[B]? = W.heap[B]?
theorem Ext.refl (F M : Nat → Prop) (μ : Nat → Option Nat) (W : World) : Ext F M μ W M μ W := ⟨Nat.le_refl _, fun _ _ _ => rfl, fun _ c _ h => ⟨c, h, rfl⟩, fun _ _ h => h, fun _ _ h => h, rfl, rfl, rfl, fun _ _ => rfl⟩
theorem Ext.trans {F M M' M'' : Nat → Prop} {μ μ' μ'' : Nat → Option Nat} {W W' W'' : World} (h : Ext F M μ W M' μ' W') (k : Ext F M' μ' W' M'' μ'' W'') : Ext F M μ W M'' μ'' W'' where
  size := Nat.le_trans h.size k.size
  keep B hB hM := (k.keep B (Nat.lt_of_lt_of_le hB h.size) (fun hm => hM (h.fresh B hB hm))).trans (h.keep B hB hM)
  shape B c el hc := by
    obtain ⟨c1, h1, e1⟩ := h.shape B c el hc
    obtain ⟨c2, h2, e2⟩ := k.shape B c1 el h1
    exact ⟨c2, h2, e2.trans e1⟩
  grow b B hb := k.grow b B (h.grow b B hb)
  fresh B hB hm := h.fresh B hB (k.fresh B (Nat.lt_of_lt_of_le hB h.size) hm)
  os := k.os.trans h.os
  tape := k.tape.trans h.tape
  output := k.output.trans h.output
  keepF B hB := (k.keepF B hB).trans (h.keepF B hB)
theorem Ext.cell {F M M' : Nat → Prop} {μ μ' : Nat → Option Nat} {W W' : World} (h : Ext F M μ W M' μ' W') {B o : Nat} (hB : B < W.heap.size) (hM : ¬ M B) : W'.cell? ⟨B, o, none⟩ = W.cell? ⟨B, o, none⟩ :=
  World.cell?_of_block (a := ⟨B, o, none⟩) (h.keep B hB hM)
theorem RepP.ext {F M M' : Nat → Prop} {μ μ' : Nat → Option Nat} {W W' : World} (h : Ext F M μ W M' μ' W') {x : PV} {v : Value} (r : RepP M W x v) : RepP M' W' x v := by
  induction r with
  | v x hx => exact .v x hx
  | lst0 a cap => exact .lst0 a cap
  | lst n cap cs B o g hB hM hn hc h1 _ ih => exact .lst n cap cs B o g (Nat.lt_of_lt_of_le hB h.size) (fun hm => hM (h.fresh B hB hm)) hn (fun j hj => (h.cell hB hM).trans (hc j hj)) h1 ih
  | pt cs o B base g hB hM hc h1 _ ih => exact .pt cs o B base g (Nat.lt_of_lt_of_le hB h.size) (fun hm => hM (h.fresh B hB hm)) (fun j hj => (h.cell hB hM).trans (hc j hj)) h1 ih
  | agg cs xs hl h1 _ ih => exact .agg cs xs hl h1 ih
  | tup cs xs hl _ ih => exact .tup cs xs hl ih
theorem RepA.ext {F M M' : Nat → Prop} {μ μ' : Nat → Option Nat} {W W' : World} (h : Ext F M μ W M' μ' W') {x : AV} {v : Value} (r : RepA M μ W x v) : RepA M' μ' W' x v := by
  induction r with
  | any x => exact .any x
  | p x v r => exact .p x v (r.ext h)
  | own b o B hb => exact .own b o B (h.grow b B hb)
  | sl0 b k => exact .sl0 b k
  | sl b o n k B cap el c hb hn hm hc hs =>
    obtain ⟨c', hc', e⟩ := h.shape B c el hc
    exact .sl b o n k B cap el c' (h.grow b B hb) hn hm hc' (hs.trans e.symm)
  | agg cs xs hl h1 _ ih => exact .agg cs xs hl h1 ih
  | tup cs xs hl _ ih => exact .tup cs xs hl ih
  | fn f caps xs hl _ ih => exact .fn f caps xs hl ih
/-- What a pure value stands for in a call's view stands in another's, whose writable blocks are no more. -/
theorem RepP.mut {M M' : Nat → Prop} {W : World} (h : ∀ B, M' B → M B) {x : PV} {v : Value} (r : RepP M W x v) : RepP M' W x v := by
  induction r with
  | v x hx => exact .v x hx
  | lst0 a cap => exact .lst0 a cap
  | lst n cap cs B o g hB hM hn hc h1 _ ih => exact .lst n cap cs B o g hB (fun hm => hM (h B hm)) hn hc h1 ih
  | pt cs o B base g hB hM hc h1 _ ih => exact .pt cs o B base g hB (fun hm => hM (h B hm)) hc h1 ih
  | agg cs xs hl h1 _ ih => exact .agg cs xs hl h1 ih
  | tup cs xs hl _ ih => exact .tup cs xs hl ih
theorem RepA.mut {M M' : Nat → Prop} {μ : Nat → Option Nat} {W : World} (h : ∀ B, M' B → M B) {x : AV} {v : Value} (r : RepA M μ W x v) : RepA M' μ W x v := by
  induction r with
  | any x => exact .any x
  | p x v r => exact .p x v (r.mut h)
  | own b o B hb => exact .own b o B hb
  | sl0 b k => exact .sl0 b k
  | sl b o n k B cap el c hb hn hm hc hs => exact .sl b o n k B cap el c hb hn hm hc hs
  | agg cs xs hl h1 _ ih => exact .agg cs xs hl h1 ih
  | tup cs xs hl _ ih => exact .tup cs xs hl ih
  | fn f caps xs hl _ ih => exact .fn f caps xs hl ih
/-- A list of abstract cells and the cells that they stand for. -/
def RepL (M : Nat → Prop) (μ : Nat → Option Nat) (W : World) (cs : List AV) (xs : List Value) : Prop :=
  xs.length = cs.length ∧ (∀ (j : Nat) x, xs[j]? = some x → x.oneCell' = true) ∧ ∀ (j : Nat) a x, cs[j]? = some a → xs[j]? = some x → RepA M μ W a x
theorem RepP.one {M : Nat → Prop} {W : World} {x : PV} {v : Value} (r : RepP M W x v) (h : match x with | .agg _ | .tup _ => False | _ => True) : v.oneCell' = true := by
  cases r <;> first | rfl | assumption | exact h.elim
/-- The cells of a value. -/
def AV.cells : AV → List AV
  | .p (.agg cs) => cs.map .p
  | .agg cs => cs
  | x => [x]
/-- It has cells that are known. -/
def AV.solid : AV → Bool
  | .any | .tup _ | .p (.tup _) => false
  | _ => true
theorem RepL.one {M : Nat → Prop} {μ : Nat → Option Nat} {W : World} {a : AV} {v : Value} (h1 : v.oneCell' = true) (r : RepA M μ W a v) : RepL M μ W [a] [v] := by
  refine ⟨rfl, fun j x hj => ?_, fun j b x hb hx => ?_⟩
  · cases j with
    | zero => simp at hj; exact hj ▸ h1
    | succ j => simp at hj
  · cases j with
    | zero => simp at hb hx; exact hb ▸ hx ▸ r
    | succ j => simp at hb
theorem Value.cells_one {v : Value} (h : v.oneCell' = true) : v.cells = #[v] := by
  cases v <;> first | rfl | simp [Value.oneCell'] at h
theorem RepA.cells {M : Nat → Prop} {μ : Nat → Option Nat} {W : World} {a : AV} {v : Value} (r : RepA M μ W a v) (hs : a.solid = true) : RepL M μ W a.cells v.cells.toList := by
  have one : ∀ {a : AV} {v : Value}, RepA M μ W a v → a.cells = [a] → v.oneCell' = true → RepL M μ W a.cells v.cells.toList := fun {a v} r ha hv => by
    rw [ha, Value.cells_one hv]
    exact .one hv r
  cases r with
  | any x => simp [AV.solid] at hs
  | p x v r =>
    cases r with
    | agg cs xs hl h1 hr =>
      refine ⟨by simpa [AV.cells, Value.cells] using hl, fun j x hx => h1 j x (by simpa [Value.cells] using hx), fun j a x ha hx => ?_⟩
      simp only [AV.cells, List.getElem?_map, Option.map_eq_some_iff] at ha
      obtain ⟨pv, hpv, rfl⟩ := ha
      exact .p _ _ (hr j pv x hpv (by simpa [Value.cells] using hx))
    | tup cs xs hl hr => simp [AV.solid] at hs
    | v _ hx => exact one (.p _ _ (.v _ hx)) rfl hx
    | lst0 a cap => exact one (.p _ _ (.lst0 a cap)) rfl rfl
    | lst n cap cs B o g hB hM hn hc h1 hr => exact one (.p _ _ (.lst n cap cs B o g hB hM hn hc h1 hr)) rfl rfl
    | pt cs o B base g hB hM hc h1 hr => exact one (.p _ _ (.pt cs o B base g hB hM hc h1 hr)) rfl rfl
  | own b o B hb => exact one (.own b o B hb) rfl rfl
  | sl0 b k => exact one (.sl0 b k) rfl rfl
  | sl b o n k B cap el c hb hn hm hc hz => exact one (.sl b o n k B cap el c hb hn hm hc hz) rfl rfl
  | agg cs xs hl h1 hr => exact ⟨by simpa [AV.cells, Value.cells] using hl, fun j x hx => h1 j x (by simpa [Value.cells] using hx), fun j a x ha hx => hr j a x (by simpa [AV.cells] using ha) (by simpa [Value.cells] using hx)⟩
  | tup cs xs hl hr => simp [AV.solid] at hs
  | fn f caps xs hl hr => exact one (.fn f caps xs hl hr) rfl rfl
/-- The block out of a list of cells: pure if all of them are. -/
def allP : List AV → Option (List PV)
  | [] => some []
  | .p x :: r => (allP r).map (x :: ·)
  | _ :: _ => none
theorem allP_spec : ∀ {cs : List AV} {ps : List PV}, allP cs = some ps → cs = ps.map .p
  | [], _, h => by simp only [allP, Option.some.injEq] at h; subst h; rfl
  | .p x :: r, ps, h => by
    simp only [allP, Option.map_eq_some_iff] at h
    obtain ⟨qs, hq, rfl⟩ := h
    rw [allP_spec hq]; rfl
  | .any :: _, _, h | .own .. :: _, _, h | .sl .. :: _, _, h | .agg .. :: _, _, h | .tup .. :: _, _, h | .fn .. :: _, _, h => by simp [allP] at h
def Blk.mk (el : Nat) (cs : List AV) : Blk := match allP cs with | some ps => .pc el ps | none => .mc el cs
theorem Blk.mk_el (el : Nat) (cs : List AV) : (Blk.mk el cs).el = el := by unfold Blk.mk; split <;> rfl
theorem Blk.mk_cells (el : Nat) (cs : List AV) : (Blk.mk el cs).cells = cs := by
  unfold Blk.mk
  split
  · rename_i ps h; exact (allP_spec h).symm
  · rfl
end Go.Proofs.YtalklhbdpmggjaaDoor.Pw
namespace Go.Proofs.YtalklhbdpmggjaaDoor.Pw
open Go Go.RowKit
/-- What is asked of a type. -/
structure Ty where
  size : Nat
  bytes : Nat
  agg : Bool
  zero : List Value
  elem : Option Nat
  fields : List (Nat × Nat)
  fagg : List Bool
  bool : Bool
  str : Bool
  int : Option IntKind
  deriving Inhabited
def isAggB (P : Program) (t : TypeId) : Bool := match P.underlying t with | some (.struct _) | some (.array _ _) => true | _ => false
def mkTy (P : Program) (t : TypeId) : Option Ty :=
  match P.info? t, P.underlying t with
  | some i, some d =>
    match i.zero with
    | some z => some { size := i.size, bytes := i.bytes, agg := isAggB P t, zero := z.cells.toList
                       elem := match d with | .slice e => some e | _ => none
                       fields := match d with | .struct fs => if fs.toList.all (fun f => (P.underlying f.type).isSome) then (fs.toList.mapM (fun f => (P.info? f.type).map fun i => (f.offset, i.size))).getD [] else [] | _ => []
                       fagg := match d with | .struct fs => fs.toList.map (fun f => isAggB P f.type) | _ => []
                       bool := match d with | .bool => true | _ => false
                       str := match d with | .string => true | _ => false
                       int := match d with | .int k => some k | _ => none }
    | none => none
  | _, _ => none
/-- The table of the types that a text names. -/
abbrev Tab := Nat → Option Ty
def TOK (P : Program) (T : Tab) : Prop := ∀ t y, T t = some y → mkTy P t = some y ∧ y.zero.length = y.size ∧ y.zero.all (·.oneCell') = true
structure Eff where
  val : AV
  upd : List (Nat × Option Blk)
  rd : List Nat
def cells1 (cs : List AV) : AV := match allP cs with | some ps => .p (.agg ps) | none => .agg cs
def cellsTo (agg : Bool) (size : Nat) (o : Nat) : Blk → AV
  | .pc _ cs => if agg then .p (.agg ((cs.drop o).take size)) else .p (cs.getD o default)
  | .mc _ cs => if agg then cells1 ((cs.drop o).take size) else cs.getD o .any
def lay {α : Type} (o : Nat) (x : List α) (cs : List α) : List α := match x with | [a] => cs.set o a | _ => cs.take o ++ (x ++ cs.drop (o + x.length))
def putIn (o : Nat) (x : List AV) : Blk → Blk
  | .pc e cs => match allP x with | some ps => .pc e (lay o ps cs) | none => .mc e (lay o x (cs.map .p))
  | .mc e cs => .mc e (lay o x cs)
def fillA (place : Nat → Option (Nat × Nat)) (cs : List AV) : List (Nat × AV) → Option (List AV)
  | [] => some cs
  | (i, x) :: r => match place i with
    | none => none
    | some (o, s) => if x.solid && x.cells.length == s && Nat.ble (o + s) cs.length then fillA place (lay o x.cells cs) r else none
def rep (n : Nat) (z : List PV) : List PV := match z with | [a] => List.replicate n a | _ => (List.replicate n z).flatten
def constA : Value → AV
  | .agg xs => .p (.agg (xs.toList.map .v))
  | .tuple _ => .any
  | x => .p (.v x)
def ints : AV → Option (IntKind × Int) | .p (.v (.int k n)) => some (k, n) | _ => none
def binA (op : BinOp) (k : IntKind) (a b : Int) : Option (Value × Prop) :=
  match op with
  | .add => some (.int k (k.wrap (a + b)), True)
  | .sub => some (.int k (k.wrap (a - b)), True)
  | .mul => some (.int k (k.wrap (a * b)), True)
  | .quo => some (.int k (k.wrap (a.tdiv b)), b ≠ 0)
  | .rem => some (.int k (a.tmod b), b ≠ 0)
  | .eql => some (.bool (decide (a = b)), True)
  | .neq => some (.bool (!decide (a = b)), True)
  | .lss => some (.bool (a < b), True)
  | .leq => some (.bool (a ≤ b), True)
  | .gtr => some (.bool (a > b), True)
  | .geq => some (.bool (a ≥ b), True)
  | _ => none
def strA (op : BinOp) (a b : ByteArray) : Option (Value × Prop) :=
  match op with
  | .add => some (.string (a ++ b), ((a.size + b.size : Nat) : Int) ≤ 9223372036854775807)
  | .eql => some (.bool (a.toList == b.toList), True)
  | .neq => some (.bool (!(a.toList == b.toList)), True)
  | _ => none
def pure1 (x : AV) : Option (Eff × Prop) := some (⟨x, [], []⟩, True)
def lenA : AV → Option Int
  | .p (.lst n _) => some n
  | .sl _ _ n _ => some n
  | .p (.v (.slice none _ _)) => some 0
  | .p (.v (.string s)) => some s.size
  | _ => none
/-- The slice's own cells, as a reader sees them: the block's number where it lies in one. -/
def viewA (σ : Store) : AV → Option (Nat × Nat × Blk × List Nat)   -- length, place, what it lies in, read
  | .p (.lst n cs) => some (n, 0, .pc 0 cs, [])
  | .p (.v (.slice none 0 0)) => some (0, 0, .pc 0 [], [])
  | .sl b o n _ => (σ b).map fun k => (n, o, k, [b])
  | _ => none
def sub (o n : Nat) : Blk → Blk
  | .pc e cs => .pc e ((cs.drop o).take n)
  | .mc e cs => .mc e ((cs.drop o).take n)
def joinB (e : Nat) : Blk → Blk → Blk
  | .pc _ a, .pc _ b => .pc e (a ++ b)
  | a, b => .mc e (a.cells ++ b.cells)
def overB (o : Nat) : Blk → Blk → Blk
  | .pc _ a, .pc e cs => .pc e (cs.take o ++ (a ++ cs.drop (o + a.length)))
  | a, d => .mc d.el (d.cells.take o ++ (a.cells ++ d.cells.drop (o + a.cells.length)))
def sliceA (zs : Nat) (x : AV) (lo hi : Option AV) : Option (Eff × Prop) :=
  match (match hi with | none => (lenA x) | some h => (ints h).map (fun q => q.2) : Option Int) with
  | none => none
  | some h =>
    match lo, x with
    | none, .sl b o n k => if k == zs then some (⟨.sl b o h.toNat k, [], []⟩, 0 ≤ h ∧ h ≤ n) else none
    | some l, .sl b o n k => if k == zs then (ints l).bind fun l => some (⟨.sl b (o + l.2.toNat * k) (h - l.2).toNat k, [], []⟩, 0 ≤ l.2 ∧ l.2 < h ∧ h ≤ n) else none
    | none, .p (.lst n cs) => some (⟨.p (.lst h.toNat (cs.take (h.toNat * zs))), [], []⟩, 0 ≤ h ∧ h ≤ n)
    | some l, .p (.lst n cs) => (ints l).bind fun l => some (⟨.p (.lst (h - l.2).toNat ((cs.drop (l.2.toNat * zs)).take ((h - l.2).toNat * zs))), [], []⟩, 0 ≤ l.2 ∧ l.2 ≤ h ∧ h ≤ n)
    | _, _ => none
def pop (T : Tab) (op : Op) (ρ : Operand → AV) (σ : Store) (new : Nat) : Option (Eff × Prop) :=
  match op with
  | .move x | .assign x => pure1 (ρ x)
  | .pick c a b =>
    match ρ c with
    | .p (.v (.bool t)) =>
      match ρ a, ρ b with
      | .p (.v (.bool x)), .p (.v (.bool y)) => pure1 (.p (.v (.bool (bif t then x else y))))
      | x, y => pure1 (bif t then x else y)
    | _ => none
  | .alloc e => (T e).bind fun y => some (⟨.own new 0, [(new, some (.pc e (y.zero.map .v)))], []⟩, True)
  | .box e x => if (ρ x).solid then some (⟨.own new 0, [(new, some (.mk e (ρ x).cells))], []⟩, True) else none
  | .build t parts => (T t).bind fun y => if y.agg && y.elem.isNone && !y.fields.isEmpty then
      (fillA (fun i => y.fields[i]?) (y.zero.map fun z => .p (.v z)) (parts.toList.map fun x => (x.1, ρ x.2))).bind fun cs => pure1 (cells1 cs) else none
  | .buildSlice t n parts => (T t).bind fun y => y.elem.bind fun e => (T e).bind fun z => if Nat.ble (n * z.size) 16777216 && Nat.ble n 16777216 && !(z.size == 0) then
      (fillA (fun i => some (i * z.size, z.size)) ((rep n (z.zero.map .v)).map .p) (parts.toList.map fun x => (x.1, ρ x.2))).bind fun cs => some (⟨.sl new 0 n z.size, [(new, some (.mk e cs))], []⟩, True) else none
  | .load t a => (T t).bind fun y => if y.size == 0 then none else
    match ρ a with
    | .own b o => (σ b).bind fun k => some (⟨cellsTo y.agg y.size o k, [], [b]⟩, o + y.size ≤ k.cells.length ∧ (y.agg = false → y.size = 1))
    | .p (.pt cs o) => some (⟨cellsTo y.agg y.size o (.pc 0 cs), [], []⟩, o + y.size ≤ cs.length ∧ (y.agg = false → y.size = 1))
    | _ => none
  | .store t a x => (T t).bind fun y => if (ρ x).solid && (ρ x).cells.length == y.size then
    match ρ a with
    | .own b o => (σ b).bind fun k => some (⟨.any, [(b, some (putIn o (ρ x).cells k))], [b]⟩, o + y.size ≤ k.cells.length)
    | _ => none else none
  | .nilCheck x => match ρ x with | .own b o => pure1 (.own b o) | .p (.pt cs o) => pure1 (.p (.pt cs o)) | .fn f c => pure1 (.fn f c) | _ => none
  | .binOp op t x y _ =>
    match ρ x, ρ y with
    | .p (.v (.int k a)), .p (.v (.int k' b)) => if k = k' then (binA op k a b).bind fun r => some (⟨.p (.v r.1), [], []⟩, r.2) else none
    | .p (.v (.bool a)), .p (.v (.bool b)) => (T t).bind fun z => if z.bool then match op with | .eql => pure1 (.p (.v (.bool (a == b)))) | .neq => pure1 (.p (.v (.bool (!(a == b))))) | _ => none else none
    | .p (.v (.string a)), .p (.v (.string b)) => (strA op a b).bind fun r => some (⟨.p (.v r.1), [], []⟩, r.2)
    | _, _ => none
  | .unOp op _ x =>
    match op, ρ x with
    | .neg, .p (.v (.int k n)) => pure1 (.p (.v (.int k (k.wrap (0 - n)))))
    | .not, .p (.v (.bool b)) => pure1 (.p (.v (.bool !b)))
    | _, _ => none
  | .convert src dst x => (T src).bind fun y => (T dst).bind fun z =>
    match z.int, ρ x with
    | some k, .p (.v (.int _ n)) => pure1 (.p (.v (.int k (k.wrap n))))
    | _, _ => none
  | .makeFunc (.func f) first caps => if first.size == 0 then pure1 (.fn f (caps.toList.map ρ)) else none
  | .makeSlice t l c => (T t).bind fun y => y.elem.bind fun e => (T e).bind fun z => if z.size == 0 then none else
    match ρ l, ρ c with
    | .p (.v (.int _ n)), .p (.v (.int _ m)) => some (⟨.sl new 0 n.toNat z.size, [(new, some (.pc e (rep n.toNat (z.zero.map .v))))], []⟩, n = m ∧ 0 ≤ n ∧ (z.bytes : Int) * n ≤ 281474976710656 ∧ n ≤ 9223372036854775807)
    | _, _ => none
  | .slice t x lo hi none => (T t).bind fun y => y.elem.bind fun e => (T e).bind fun z => sliceA z.size (ρ x) (lo.map ρ) (hi.map ρ)
  | .fieldAddr s x f => (T s).bind fun y => (y.fields[f]?).bind fun f => if f.2 == 0 then none else
    match ρ x with
    | .own b o => pure1 (.own b (o + f.1))
    | .p (.pt cs o) => pure1 (.p (.pt cs (o + f.1)))
    | _ => none
  | .field s x f => (T s).bind fun y => (y.fields[f]?).bind fun q => (y.fagg[f]?).bind fun ag => if q.2 == 0 then none else
    match ρ x with
    | .p (.agg cs) => some (⟨cellsTo ag q.2 q.1 (.pc 0 cs), [], []⟩, q.1 + q.2 ≤ cs.length ∧ (ag = false → q.2 = 1))
    | .agg cs => some (⟨cellsTo ag q.2 q.1 (.mc 0 cs), [], []⟩, q.1 + q.2 ≤ cs.length ∧ (ag = false → q.2 = 1))
    | _ => none
  | .indexAddr t x i => (T t).bind fun y => y.elem.bind fun e => (T e).bind fun z => (ints (ρ i)).bind fun i =>
    match ρ x with
    | .p (.lst n cs) => some (⟨.p (.pt cs (i.2.toNat * z.size)), [], []⟩, 0 ≤ i.2 ∧ i.2 < n ∧ i.2.toNat * z.size < cs.length)
    | .sl b o n k => if k == z.size then some (⟨.own b (o + i.2.toNat * k), [], []⟩, 0 ≤ i.2 ∧ i.2 < n) else none
    | _ => none
  | .index t x i => (T t).bind fun y => if y.str then (ints (ρ i)).bind fun i =>
    match ρ x with
    | .p (.v (.string s)) => some (⟨.p (.v (.int .u8 ((s.data.toList.getD i.2.toNat 0).toNat : Int))), [], []⟩, 0 ≤ i.2 ∧ i.2 < s.size)
    | _ => none else none
  | .extract t i =>
    match ρ t with
    | .p (.tup cs) => some (⟨.p (cs.getD i default), [], []⟩, i < cs.length)
    | .tup cs => some (⟨cs.getD i .any, [], []⟩, i < cs.length)
    | _ => none
  | .call { callee := .builtin .len, args, argTypes } => match args.toList, argTypes.toList with
    | [x], [t] => (T t).bind fun y => match y.elem, ρ x with
      | some _, .p (.lst n _) | some _, .sl _ _ n _ => pure1 (.p (.v (.int .i64 n)))
      | some _, .p (.v (.slice none 0 0)) => pure1 (.p (.v (.int .i64 0)))
      | none, .p (.v (.string s)) => if y.str then pure1 (.p (.v (.int .i64 s.size))) else none
      | _, _ => none
    | _, _ => none
  | .call { callee := .builtin .max, args, .. } => match args.toList with
    | [x, y] => (ints (ρ x)).bind fun a => (ints (ρ y)).bind fun b => pure1 (.p (.v (.int a.1 (if b.2 > a.2 then b.2 else a.2))))
    | _ => none
  | .call { callee := .builtin .min, args, .. } => match args.toList with
    | [x, y] => (ints (ρ x)).bind fun a => (ints (ρ y)).bind fun b => pure1 (.p (.v (.int a.1 (if b.2 < a.2 then b.2 else a.2))))
    | _ => none
  | .call { callee := .builtin .append, args, argTypes } => match args.toList, argTypes.toList with
    | [x, y], [t, t'] => if t == t' then (T t).bind fun u => u.elem.bind fun e => (T e).bind fun z => if z.size == 0 then none else
      (viewA σ (ρ y)).bind fun src =>
      match ρ x with
      | .p (.v (.slice none 0 0)) => some (⟨.sl new 0 src.1 z.size, [(new, some (joinB e (.pc e []) (sub src.2.1 (src.1 * z.size) src.2.2.1)))], src.2.2.2⟩,
          src.2.1 + src.1 * z.size ≤ src.2.2.1.cells.length ∧ src.1 * z.bytes ≤ 140737488355328 ∧ src.1 ≤ 140737488351232)
      | .sl b 0 n k => if k == z.size && !(src.2.2.2.contains b) then (σ b).bind fun d => if d.el == e then some (⟨.sl new 0 (n + src.1) k, [(b, none), (new, some (joinB e d (sub src.2.1 (src.1 * z.size) src.2.2.1)))], b :: src.2.2.2⟩,
          d.cells.length = n * k ∧ src.2.1 + src.1 * z.size ≤ src.2.2.1.cells.length ∧ (n + src.1) * z.bytes ≤ 140737488355328 ∧ n + src.1 ≤ 140737488351232) else none else none
      | _ => none else none
    | _, _ => none
  | .call { callee := .builtin .copy, args, argTypes } => match args.toList, argTypes.toList with
    | [x, y], [t, _] => (T t).bind fun u => u.elem.bind fun e => (T e).bind fun z => if z.size == 0 then none else
      (viewA σ (ρ y)).bind fun src =>
      match ρ x with
      | .sl b o n k => if k == z.size && !(src.2.2.2.contains b) then (σ b).bind fun d => some (⟨.p (.v (.int .i64 (min src.1 n : Nat))), [(b, some (overB o (sub src.2.1 ((min src.1 n) * z.size) src.2.2.1) d))], b :: src.2.2.2⟩,
          src.2.1 + src.1 * z.size ≤ src.2.2.1.cells.length ∧ o + n * k ≤ d.cells.length) else none
      | _ => none
    | _, _ => none
  | _ => none
end Go.Proofs.YtalklhbdpmggjaaDoor.Pw
namespace Go.Proofs.YtalklhbdpmggjaaDoor.Pw
open Go Go.RowKit
def upd1 {α : Type} (f : Nat → Option α) (b : Nat) (x : Option α) : Nat → Option α := fun i => if i = b then x else f i
theorem upd1_same {α : Type} (f : Nat → Option α) (b : Nat) (x : Option α) : upd1 f b x b = x := by simp [upd1]
theorem upd1_ne {α : Type} (f : Nat → Option α) (b : Nat) (x : Option α) {i : Nat} (h : i ≠ b) : upd1 f b x i = f i := by simp [upd1, h]
def upds (st : Store) : List (Nat × Option Blk) → Store
  | [] => st
  | (b, x) :: r => upds (upd1 st b x) r
theorem lt_of_cells {W : World} {B : Nat} {o : Obj} (h : W.heap[B]? = some o) : B < W.heap.size := (Array.getElem?_eq_some_iff.1 h).1
theorem RepS.alloc {F : Nat → Prop} {μ : Nat → Option Nat} {st : Store} {W W' : World} (h : RepS F μ st W) {new : Nat} (hn : μ new = none) (c : Array Value) (el : Nat)
    (hw : W'.heap = W.heap.push (.cells c el (0, 0))) (ho : W'.os = W.os) (ht : W'.tape = W.tape) (hp : W'.output = W.output) (k : Blk) (hel : k.el = el) (hl : k.cells.length ≤ c.size)
    (h1 : ∀ j : Nat, j < k.cells.length → (c.getD j undef).oneCell' = true) (hr : ∀ (j : Nat) a, k.cells[j]? = some a → RepA (Mut F μ st) μ W a (c.getD j undef)) (hs : st new = none) :
    RepS F (upd1 μ new (some W.heap.size)) (upd1 st new (some k)) W' ∧ Ext F (Mut F μ st) μ W (Mut F (upd1 μ new (some W.heap.size)) (upd1 st new (some k))) (upd1 μ new (some W.heap.size)) W' := by
  have hold : ∀ B, B < W.heap.size → W'.heap[B]? = W.heap[B]? := fun B hB => by rw [hw, Array.getElem?_push, if_neg (by omega)]
  have ext : Ext F (Mut F μ st) μ W (Mut F (upd1 μ new (some W.heap.size)) (upd1 st new (some k))) (upd1 μ new (some W.heap.size)) W' := by
    refine ⟨by rw [hw]; simp, fun B hB _ => hold B hB, fun B c el hc => ⟨c, by rw [hold B (lt_of_cells hc)]; exact hc, rfl⟩, fun b B hb => ?_, fun B hB hm => ?_, ho, ht, hp, fun B hF => hold B (h.low B hF)⟩
    · rw [upd1_ne _ _ _ (fun e => by subst e; rw [hn] at hb; cases hb)]; exact hb
    · rcases hm with hm | ⟨b, hb1, hb2⟩
      · exact .inl hm
      · by_cases e : b = new
        · subst e; rw [upd1_same] at hb2; injection hb2 with hb2; omega
        · rw [upd1_ne _ _ _ e] at hb1 hb2; exact .inr ⟨b, hb1, hb2⟩
  refine ⟨⟨fun b k' hk => ?_, fun b b' B h1' h2' h3 h4 => ?_, fun B hF => Nat.lt_of_lt_of_le (h.low B hF) ext.size⟩, ext⟩
  · by_cases e : b = new
    · subst e
      rw [upd1_same] at hk; injection hk with hk; subst hk
      refine .inr ⟨W.heap.size, c, upd1_same _ _ _, fun hF => by have := h.low _ hF; omega, ?_, hl, h1, fun j a ha => (hr j a ha).ext ext⟩
      rw [hw, Array.getElem?_push, if_pos rfl, hel]
    · rw [upd1_ne _ _ _ e] at hk
      rcases h.at_ b k' hk with ⟨h0, h0'⟩ | ⟨B, c', hB, hF, hc, hl', h1', hr'⟩
      · exact .inl ⟨by rw [upd1_ne _ _ _ e]; exact h0, h0'⟩
      · exact .inr ⟨B, c', by rw [upd1_ne _ _ _ e]; exact hB, hF, by rw [hold B (lt_of_cells hc)]; exact hc, hl', h1', fun j a ha => (hr' j a ha).ext ext⟩
  · have low : ∀ b B, b ≠ new → st b ≠ none → μ b = some B → B < W.heap.size := fun b B hb hsb hB => by
      obtain ⟨k', hk'⟩ := Option.ne_none_iff_exists'.1 hsb
      rcases h.at_ b k' hk' with ⟨h0, _⟩ | ⟨B', c', hB', _, hc, _⟩
      · rw [h0] at hB; cases hB
      · rw [hB'] at hB; injection hB with hB; subst hB; exact lt_of_cells hc
    by_cases e : b = new <;> by_cases e' : b' = new
    · rw [e, e']
    · subst e; rw [upd1_same] at h3; injection h3 with h3; rw [upd1_ne _ _ _ e'] at h2' h4; have := low b' B e' h2' h4; omega
    · subst e'; rw [upd1_same] at h4; injection h4 with h4; rw [upd1_ne _ _ _ e] at h1' h3; have := low b B e h1' h3; omega
    · rw [upd1_ne _ _ _ e] at h1' h3; rw [upd1_ne _ _ _ e'] at h2' h4; exact h.inj b b' B h1' h2' h3 h4
theorem RepS.write {F : Nat → Prop} {μ : Nat → Option Nat} {st : Store} {W : World} (h : RepS F μ st W) {b B : Nat} {k k' : Blk} {c c' : Array Value} (hk : st b = some k) (hB : μ b = some B)
    (hc : W.heap[B]? = some (.cells c k.el (0, 0))) (hsz : c'.size = c.size) (hel : k'.el = k.el) (hl : k'.cells.length ≤ c'.size)
    (h1 : ∀ j : Nat, j < k'.cells.length → (c'.getD j undef).oneCell' = true) (hr : ∀ (j : Nat) a, k'.cells[j]? = some a → RepA (Mut F μ st) μ W a (c'.getD j undef)) :
    RepS F μ (upd1 st b (some k')) (W.setRow B c') ∧ Ext F (Mut F μ st) μ W (Mut F μ (upd1 st b (some k'))) μ (W.setRow B c') := by
  have hM : Mut F μ st B := .inr ⟨b, by rw [hk]; simp, hB⟩
  have hF : ¬ F B := by
    rcases h.at_ b k hk with ⟨h0, _⟩ | ⟨B', _, hB', hF, _⟩
    · rw [h0] at hB; cases hB
    · rw [hB'] at hB; injection hB with hB; subst hB; exact hF
  have ext : Ext F (Mut F μ st) μ W (Mut F μ (upd1 st b (some k'))) μ (W.setRow B c') := by
    refine ⟨by simp, fun B' _ hm => setRow_other W B B' c' (fun e => hm (e ▸ hM)), fun B' c0 el hc0 => ?_, fun _ _ hb => hb, fun B' hB' hm => ?_, rfl, rfl, rfl, fun B' hF' => setRow_other W B B' c' (fun e => hF (e ▸ hF'))⟩
    · by_cases e : B' = B
      · subst e
        rw [hc0] at hc
        injection hc with hc
        injection hc with hc1 hc2
        subst hc1; subst hc2
        exact ⟨c', setRow_heap W B' _ c' _ _ hc0, hsz⟩
      · exact ⟨c0, by rw [setRow_other W B B' c' e]; exact hc0, rfl⟩
    · rcases hm with hm | ⟨b', hb1, hb2⟩
      · exact .inl hm
      · by_cases e : b' = b
        · subst e; exact .inr ⟨b', by rw [hk]; simp, hb2⟩
        · rw [upd1_ne _ _ _ e] at hb1; exact .inr ⟨b', hb1, hb2⟩
  have ne : ∀ b', upd1 st b (some k') b' ≠ none → st b' ≠ none := fun b' hb' => by
    by_cases e : b' = b
    · subst e; rw [hk]; simp
    · rwa [upd1_ne _ _ _ e] at hb'
  refine ⟨⟨fun b' k0 hk0 => ?_, fun b1 b2 B0 h1' h2' h3 h4 => h.inj b1 b2 B0 (ne _ h1') (ne _ h2') h3 h4, fun B' hF' => by simpa using h.low B' hF'⟩, ext⟩
  by_cases e : b' = b
  · subst e
    rw [upd1_same] at hk0; injection hk0 with hk0; subst hk0
    exact .inr ⟨B, c', hB, hF, by rw [hel]; exact setRow_heap W B _ c' _ _ hc, hl, h1, fun j a ha => (hr j a ha).ext ext⟩
  · rw [upd1_ne _ _ _ e] at hk0
    rcases h.at_ b' k0 hk0 with ⟨h0, h0'⟩ | ⟨B', c0, hB', hF', hc0, hl', h1', hr'⟩
    · exact .inl ⟨h0, h0'⟩
    · have hne : B' ≠ B := fun e' => e (h.inj b' b B (by rw [hk0]; simp) (by rw [hk]; simp) (e' ▸ hB') hB)
      exact .inr ⟨B', c0, hB', hF', by rw [setRow_other W B B' c' hne]; exact hc0, hl', h1', fun j a ha => (hr' j a ha).ext ext⟩
theorem RepS.kill {F : Nat → Prop} {μ : Nat → Option Nat} {st : Store} {W : World} (h : RepS F μ st W) (b : Nat) :
    RepS F μ (upd1 st b none) W ∧ Ext F (Mut F μ st) μ W (Mut F μ (upd1 st b none)) μ W := by
  have sub : ∀ b', upd1 st b none b' ≠ none → b' ≠ b ∧ st b' ≠ none := fun b' hb' => by
    by_cases e : b' = b
    · subst e; rw [upd1_same] at hb'; exact absurd rfl hb'
    · exact ⟨e, by rwa [upd1_ne _ _ _ e] at hb'⟩
  have ext : Ext F (Mut F μ st) μ W (Mut F μ (upd1 st b none)) μ W := ⟨Nat.le_refl _, fun _ _ _ => rfl, fun _ c _ hc => ⟨c, hc, rfl⟩, fun _ _ hb => hb, fun B _ hm => hm.imp id (fun ⟨b', h1, h2⟩ => ⟨b', (sub b' h1).2, h2⟩), rfl, rfl, rfl, fun _ _ => rfl⟩
  refine ⟨⟨fun b' k hk => ?_, fun b1 b2 B h1 h2 h3 h4 => h.inj b1 b2 B (sub _ h1).2 (sub _ h2).2 h3 h4, h.low⟩, ext⟩
  have e : b' ≠ b := (sub b' (by rw [hk]; simp)).1
  rw [upd1_ne _ _ _ e] at hk
  rcases h.at_ b' k hk with h0 | ⟨B, c, hB, hF, hc, hl, h1, hr⟩
  · exact .inl h0
  · exact .inr ⟨B, c, hB, hF, hc, hl, h1, fun j a ha => (hr j a ha).ext ext⟩
end Go.Proofs.YtalklhbdpmggjaaDoor.Pw
namespace Go.Proofs.YtalklhbdpmggjaaDoor.Pw
open Go Go.RowKit
structure TF (P : Program) (t : TypeId) (y : Ty) : Prop where
  info : ∃ i z, P.info? t = some i ∧ i.size = y.size ∧ i.bytes = y.bytes ∧ i.zero = some z ∧ z.cells.toList = y.zero
  agg : ∀ W, (isAgg t).run P W = .ok y.agg W
  elem : ∀ e, y.elem = some e → P.underlying t = some (.slice e)
  fields : y.fields ≠ [] → ∃ fs, P.underlying t = some (.struct fs) ∧ fs.toList.mapM (fun f => (P.info? f.type).map fun i => (f.offset, i.size)) = some y.fields ∧
    y.fagg = fs.toList.map (fun f => isAggB P f.type) ∧ ∀ f ∈ fs.toList, (P.underlying f.type).isSome = true
  bool : y.bool = true → P.underlying t = some .bool
  str : y.str = true → P.underlying t = some .string
  int : ∀ k, y.int = some k → P.underlying t = some (.int k)
  und : ∃ d, P.underlying t = some d
  len : y.zero.length = y.size
  one : ∀ x ∈ y.zero, x.oneCell' = true
theorem isAgg_run {P : Program} {t : TypeId} {d : TypeDesc} (h : P.underlying t = some d) (W : World) : (isAgg t).run P W = .ok (isAggB P t) W := by
  unfold isAgg isAggB
  rw [Sem.run_bind, run_underlying h W, h]
  cases d <;> rfl
theorem TOK.facts {P : Program} {T : Tab} (h : TOK P T) {t : Nat} {y : Ty} (ht : T t = some y) : TF P t y := by
  obtain ⟨hm, hl, h1⟩ := h t y ht
  unfold mkTy at hm
  split at hm
  · rename_i i d hi hd
    split at hm
    · rename_i z hz
      injection hm with hm
      subst hm
      refine ⟨⟨i, z, hi, rfl, rfl, hz, rfl⟩, fun W => isAgg_run hd W, fun e he => ?_, fun hf => ?_, fun hb => ?_, fun hb => ?_, fun k hk => ?_, ⟨d, hd⟩, hl, fun x hx => List.all_eq_true.1 h1 x hx⟩
      · cases d <;> simp at he; subst he; exact hd
      · cases d with
        | struct fs =>
          refine ⟨fs, hd, ?_, rfl, ?_⟩
          all_goals
            simp only at hf
            split at hf
            · rename_i hall
              cases hq : fs.toList.mapM (fun f => (P.info? f.type).map fun i => (f.offset, i.size)) with
              | none => rw [hq] at hf; exact absurd rfl hf
              | some q => first | exact List.all_eq_true.1 hall | simp [hall, hq]
            · exact absurd rfl hf
        | _ => simp at hf
      · cases d <;> simp at hb; exact hd
      · cases d <;> simp at hb; exact hd
      · cases d <;> simp at hk; subst hk; exact hd
    · cases hm
  · cases hm
theorem TF.size_run {P : Program} {t : TypeId} {y : Ty} (h : TF P t y) (W : World) : (sizeOf t).run P W = .ok y.size W := by
  obtain ⟨i, z, hi, hs, _⟩ := h.info
  simp [sizeOf, typeInfo, hi, hs]
theorem TF.info_run {P : Program} {t : TypeId} {y : Ty} (h : TF P t y) (W : World) : ∃ i, (typeInfo t).run P W = .ok i W ∧ i.size = y.size ∧ i.bytes = y.bytes := by
  obtain ⟨i, z, hi, hs, hb, _⟩ := h.info
  exact ⟨i, by simp [typeInfo, hi], hs, hb⟩
theorem TF.zero_run {P : Program} {t : TypeId} {y : Ty} (h : TF P t y) (W : World) : ∃ z, (zeroValue t).run P W = .ok z W ∧ z.cells.toList = y.zero := by
  obtain ⟨i, z, hi, _, _, hz, hc⟩ := h.info
  exact ⟨z, by simp [zeroValue, typeInfo, hi, hz], hc⟩
/-- The cells cs lie in block B from place o on. -/
def RowAt (M : Nat → Prop) (μ : Nat → Option Nat) (W : World) (B o : Nat) (cs : List AV) : Prop :=
  ∃ g : Nat → Value, ∀ (j : Nat) a, cs[j]? = some a → W.cell? ⟨B, o + j, none⟩ = some (g j) ∧ (g j).oneCell' = true ∧ RepA M μ W a (g j)
theorem RowAt.drop {M : Nat → Prop} {μ : Nat → Option Nat} {W : World} {B o : Nat} {cs : List AV} (h : RowAt M μ W B o cs) (n : Nat) : RowAt M μ W B (o + n) (cs.drop n) := by
  obtain ⟨g, hg⟩ := h
  refine ⟨fun j => g (n + j), fun j a ha => ?_⟩
  rw [List.getElem?_drop] at ha
  rw [Nat.add_assoc]
  exact hg (n + j) a ha
theorem RowAt.take {M : Nat → Prop} {μ : Nat → Option Nat} {W : World} {B o : Nat} {cs : List AV} (h : RowAt M μ W B o cs) (n : Nat) : RowAt M μ W B o (cs.take n) := by
  obtain ⟨g, hg⟩ := h
  refine ⟨g, fun j a ha => hg j a ?_⟩
  rw [List.getElem?_take] at ha
  split at ha
  · exact ha
  · cases ha
theorem RowAt.loads {P : Program} {M : Nat → Prop} {μ : Nat → Option Nat} {W : World} {B o : Nat} {cs : List AV} (h : RowAt M μ W B o cs) :
    ∃ xs : List Value, (loadCells ⟨B, o, none⟩ cs.length).run P W = .ok xs.toArray W ∧ RepL M μ W cs xs ∧ ∀ (j : Nat) x, xs[j]? = some x → W.cell? ⟨B, o + j, none⟩ = some x := by
  obtain ⟨g, hg⟩ := h
  have get : ∀ (j : Nat) x, ((List.range cs.length).map g)[j]? = some x → j < cs.length ∧ x = g j := fun j x hx => by
    simp only [List.getElem?_map, Option.map_eq_some_iff] at hx
    obtain ⟨i, hi, rfl⟩ := hx
    rcases Nat.lt_or_ge j cs.length with h' | h'
    · rw [List.getElem?_range h'] at hi; injection hi with hi; subst hi; exact ⟨h', rfl⟩
    · rw [List.getElem?_eq_none (by simpa using h')] at hi; cases hi
  refine ⟨(List.range cs.length).map g, ?_, ⟨by simp, fun j x hx => ?_, fun j a x ha hx => ?_⟩, fun j x hx => ?_⟩
  · exact run_loadCells (P := P) W ⟨B, o, none⟩ cs.length g fun j hj => by rw [Addr.add_lit]; exact (hg j _ (List.getElem?_eq_getElem hj)).1
  · obtain ⟨hj, rfl⟩ := get j x hx
    exact (hg j _ (List.getElem?_eq_getElem hj)).2.1
  · obtain ⟨hj, rfl⟩ := get j x hx
    exact (hg j a ha).2.2
  · obtain ⟨hj, rfl⟩ := get j x hx
    exact (hg j _ (List.getElem?_eq_getElem hj)).1
theorem RepL.agg_p {M : Nat → Prop} {μ : Nat → Option Nat} {W : World} {ps : List PV} {xs : List Value} (h : RepL M μ W (ps.map .p) xs) : RepP M W (.agg ps) (.agg xs.toArray) := by
  refine .agg ps xs (by simpa using h.1) h.2.1 fun j pv x hp hx => ?_
  have := h.2.2 j (.p pv) x (by simp [hp]) hx
  cases this; assumption
theorem RepL.agg_1 {M : Nat → Prop} {μ : Nat → Option Nat} {W : World} {cs : List AV} {xs : List Value} (h : RepL M μ W cs xs) : RepA M μ W (cells1 cs) (.agg xs.toArray) := by
  unfold cells1
  split
  · rename_i ps hp
    rw [allP_spec hp] at h
    exact .p _ _ h.agg_p
  · exact .agg cs xs h.1 h.2.1 h.2.2
theorem load_row {P : Program} {M : Nat → Prop} {μ : Nat → Option Nat} {W : World} {B base o : Nat} {k : Blk} {t : TypeId} {y : Ty} (hy : TF P t y) (h : RowAt M μ W B base k.cells) (hl : o + y.size ≤ k.cells.length)
    (h1 : y.agg = false → y.size = 1) (h0 : y.size ≠ 0) : ∃ v, (loadVar t ⟨B, base + o, none⟩).run P W = .ok v W ∧ RepA M μ W (cellsTo y.agg y.size o k) v := by
  have hr := (h.drop o).take y.size
  have hlen : ((k.cells.drop o).take y.size).length = y.size := by simp; omega
  obtain ⟨xs, hx, hL, hc⟩ := hr.loads (P := P)
  rw [hlen] at hx
  cases ha : y.agg with
  | true =>
    refine ⟨.agg xs.toArray, ?_, ?_⟩
    · simp [loadVar, hy.agg, ha, hy.size_run, hx]
    · cases k with
      | pc e cs =>
        simp only [cellsTo, if_true]
        refine .p _ _ (RepL.agg_p (μ := μ) ?_)
        simpa [Blk.cells, List.map_take, List.map_drop] using hL
      | mc e cs => simpa [cellsTo, Blk.cells] using hL.agg_1
  | false =>
    have hs := h1 ha
    have hlt : o < k.cells.length := by omega
    obtain ⟨x, rfl⟩ : ∃ x, xs = [x] := by
      have := hL.1
      rw [hlen, hs] at this
      exact List.length_eq_one_iff.1 this
    have hcell : W.cell? ⟨B, base + o, none⟩ = some x := by simpa using hc 0 x rfl
    refine ⟨x, by simp [loadVar, hy.agg, ha, hcell], ?_⟩
    have hR := hL.2.2 0 (k.cells[o]) x (by rw [List.getElem?_take]; simp [hs, List.getElem?_drop, List.getElem?_eq_getElem hlt]) rfl
    cases k with
    | pc e cs =>
      simp only [Blk.cells, List.length_map] at hlt
      simp only [Blk.cells, List.getElem_map] at hR
      simpa [cellsTo, List.getD, List.getElem?_eq_getElem hlt] using hR
    | mc e cs =>
      simp only [Blk.cells] at hlt hR
      simpa [cellsTo, List.getD, List.getElem?_eq_getElem hlt] using hR
theorem RepS.row {F : Nat → Prop} {μ : Nat → Option Nat} {st : Store} {W : World} (h : RepS F μ st W) {b B : Nat} {k : Blk} (hk : st b = some k) (hB : μ b = some B) :
    ∃ c, W.heap[B]? = some (.cells c k.el (0, 0)) ∧ k.cells.length ≤ c.size ∧ (∀ j : Nat, j < k.cells.length → (c.getD j undef).oneCell' = true) ∧
      (∀ (j : Nat) a, k.cells[j]? = some a → RepA (Mut F μ st) μ W a (c.getD j undef)) ∧ RowAt (Mut F μ st) μ W B 0 k.cells := by
  rcases h.at_ b k hk with ⟨h0, _⟩ | ⟨B', c, hB', _, hc, hl, h1, hr⟩
  · rw [h0] at hB; cases hB
  · rw [hB'] at hB; injection hB with hB; subst hB
    refine ⟨c, hc, hl, h1, hr, fun j => c.getD j undef, fun j a ha => ?_⟩
    have hj : j < k.cells.length := (List.getElem?_eq_some_iff.1 ha).1
    refine ⟨?_, h1 j hj, hr j a ha⟩
    rw [cell_of_row W B' (0 + j) c k.el (0, 0) hc, Nat.zero_add]
    have : j < c.size := by omega
    simp [this]
theorem lay_length {α : Type} (o : Nat) (x cs : List α) (h : o + x.length ≤ cs.length) : (lay o x cs).length = cs.length := by
  unfold lay
  split
  · simp
  · simp; omega
theorem lay_get {α : Type} (o : Nat) (x cs : List α) (h : o + x.length ≤ cs.length) (j : Nat) : (lay o x cs)[j]? = if o ≤ j ∧ j < o + x.length then x[j - o]? else cs[j]? := by
  unfold lay
  split
  · rename_i a
    rw [List.getElem?_set]
    simp only [List.length_cons, List.length_nil] at h ⊢
    by_cases e : o = j
    · subst e; have : o < cs.length := by omega
      simp [this]
    · rw [if_neg e, if_neg (by omega)]
  · rw [List.getElem?_append, List.getElem?_append]
    simp only [List.length_take, List.getElem?_take, List.getElem?_drop]
    have : min o cs.length = o := by omega
    rw [this]
    by_cases h1 : j < o
    · rw [if_pos h1, if_pos h1, if_neg (by omega)]
    · rw [if_neg h1]
      by_cases h2 : j - o < x.length
      · rw [if_pos h2, if_pos (by omega)]
      · rw [if_neg h2, if_neg (by omega)]
        congr 1; omega
theorem lay_map {α β : Type} (f : α → β) (o : Nat) (x cs : List α) : (lay o x cs).map f = lay o (x.map f) (cs.map f) := by
  unfold lay
  split
  · simp [List.map_set]
  · rename_i h
    split
    · rename_i a' h'
      exfalso
      match x, h with
      | [], h => simp at h'
      | [a], h => exact h a rfl
      | _ :: _ :: _, h => simp at h'
    · simp
theorem putIn_cells (o : Nat) (x : List AV) (k : Blk) : (putIn o x k).cells = lay o x k.cells := by
  cases k with
  | pc e cs =>
    simp only [putIn]
    split
    · rename_i ps hp
      rw [allP_spec hp]; simp only [Blk.cells]; rw [lay_map]
    · rfl
  | mc e cs => rfl
theorem putIn_el (o : Nat) (x : List AV) (k : Blk) : (putIn o x k).el = k.el := by
  cases k with
  | pc e cs => simp only [putIn]; split <;> rfl
  | mc e cs => rfl
/-- Cells laid over a block's. -/
theorem RepS.put {P : Program} {F : Nat → Prop} {μ : Nat → Option Nat} {st : Store} {W : World} (h : RepS F μ st W) {b B o : Nat} {k k' : Blk} (hk : st b = some k) (hB : μ b = some B) {x : List AV} {vs : List Value}
    (hx : RepL (Mut F μ st) μ W x vs) (hl : o + x.length ≤ k.cells.length) (hk' : k'.cells = lay o x k.cells) (he : k'.el = k.el) :
    ∃ W', (storeCells ⟨B, o, none⟩ vs).run P W = .ok () W' ∧ RepS F μ (upd1 st b (some k')) W' ∧ Ext F (Mut F μ st) μ W (Mut F μ (upd1 st b (some k'))) μ W' := by
  obtain ⟨c, hc, hcl, h1, hr, _⟩ := h.row hk hB
  have hvl := hx.1
  refine ⟨_, run_storeCells_at P B o k.el vs 0 c W hc (by omega) (fun v hv => ?_), ?_⟩
  · obtain ⟨j, hj⟩ := List.getElem?_of_mem hv
    exact hx.2.1 j v hj
  have hsz : (c.toList.take (o + 0) ++ vs ++ c.toList.drop (o + 0 + vs.length)).toArray.size = c.size := by simp; omega
  have get : ∀ j : Nat, j < c.size → (c.toList.take (o + 0) ++ vs ++ c.toList.drop (o + 0 + vs.length)).toArray.getD j undef = if o ≤ j ∧ j < o + vs.length then vs.getD (j - o) undef else c.getD j undef := fun j hj => by
    have hm : min o c.size = o := by omega
    simp only [Nat.add_zero, Array.getD_eq_getD_getElem?, List.getElem?_toArray, List.append_assoc, List.getD_eq_getElem?_getD]
    rw [List.getElem?_append, List.getElem?_append]
    simp only [List.length_take, Array.length_toList, hm, List.getElem?_take, List.getElem?_drop]
    by_cases h1 : j < o
    · rw [if_pos h1, if_pos h1, if_neg (by omega)]; simp
    · rw [if_neg h1]
      by_cases h2 : j - o < vs.length
      · rw [if_pos h2, if_pos (by omega)]
      · rw [if_neg h2, if_neg (by omega), show o + vs.length + (j - o - vs.length) = j by omega]; simp
  refine h.write hk hB hc hsz he (by rw [hsz, hk', lay_length _ _ _ hl]; exact hcl) (fun j hj => ?_) (fun j a ha => ?_)
  · rw [hk', lay_length _ _ _ hl] at hj
    rw [get j (by omega)]
    split
    · rename_i hjj
      have : j - o < vs.length := by omega
      rw [List.getD_eq_getElem?_getD, List.getElem?_eq_getElem this]
      exact hx.2.1 (j - o) _ (List.getElem?_eq_getElem this)
    · exact h1 j hj
  · rw [hk', lay_get _ _ _ hl] at ha
    have hjl : j < k.cells.length := by
      split at ha
      · omega
      · exact (List.getElem?_eq_some_iff.1 ha).1
    rw [get j (by omega), hvl]
    split at ha
    · rename_i hjj
      rw [if_pos hjj]
      have : j - o < vs.length := by omega
      rw [List.getD_eq_getElem?_getD, List.getElem?_eq_getElem this]
      exact hx.2.2 (j - o) a _ ha (List.getElem?_eq_getElem this)
    · rename_i hjj
      rw [if_neg hjj]
      exact hr j a ha
theorem setRow_drawn' (w : World) (g : Nat) (cs : Array Value) : (w.setRow g cs).drawn = w.drawn := rfl
end Go.Proofs.YtalklhbdpmggjaaDoor.Pw
namespace Go.Proofs.YtalklhbdpmggjaaDoor.Pw
open Go Go.RowKit
def Does (P : Program) (F : Nat → Prop) (μ : Nat → Option Nat) (st : Store) (W : World) (new : Nat) (s : Sem Next) (e : Eff) : Prop :=
  ∃ v W' μ', (s.run P W = .ok (.value v) W' ∨ (s.run P W = .ok .skip W' ∧ v = undef)) ∧ RepS F μ' (upds st e.upd) W' ∧
    RepA (Mut F μ' (upds st e.upd)) μ' W' e.val v ∧ Ext F (Mut F μ st) μ W (Mut F μ' (upds st e.upd)) μ' W' ∧ ∀ b, b ≠ new → μ' b = μ b
/-- A pure row: the cells of a list, that lie from place o of block B on. -/
def PRow (M : Nat → Prop) (W : World) (B o : Nat) (cs : List PV) : Prop :=
  ∃ g : Nat → Value, (∀ j, j < cs.length → W.cell? ⟨B, o + j, none⟩ = some (g j)) ∧ (∀ j, j < cs.length → (g j).oneCell' = true) ∧ ∀ (j : Nat) pv, cs[j]? = some pv → RepP M W pv (g j)
theorem PRow.drop {M : Nat → Prop} {W : World} {B o : Nat} {cs : List PV} (h : PRow M W B o cs) (n : Nat) : PRow M W B (o + n) (cs.drop n) := by
  obtain ⟨g, h1, h2, h3⟩ := h
  refine ⟨fun j => g (n + j), fun j hj => ?_, fun j hj => h2 _ (by simp at hj; omega), fun j pv hp => h3 _ _ (by rwa [List.getElem?_drop] at hp)⟩
  rw [Nat.add_assoc]; exact h1 _ (by simp at hj; omega)
theorem PRow.take {M : Nat → Prop} {W : World} {B o : Nat} {cs : List PV} (h : PRow M W B o cs) (n : Nat) : PRow M W B o (cs.take n) := by
  obtain ⟨g, h1, h2, h3⟩ := h
  refine ⟨g, fun j hj => h1 j (by simp at hj; omega), fun j hj => h2 _ (by simp at hj; omega), fun j pv hp => h3 _ _ ?_⟩
  rw [List.getElem?_take] at hp
  split at hp
  · exact hp
  · cases hp
theorem PRow.row {M : Nat → Prop} {μ : Nat → Option Nat} {W : World} {B o : Nat} {cs : List PV} (h : PRow M W B o cs) : RowAt M μ W B o (cs.map .p) := by
  obtain ⟨g, h1, h2, h3⟩ := h
  refine ⟨g, fun j a ha => ?_⟩
  simp only [List.getElem?_map, Option.map_eq_some_iff] at ha
  obtain ⟨pv, hp, rfl⟩ := ha
  have hj := (List.getElem?_eq_some_iff.1 hp).1
  exact ⟨h1 j hj, h2 j hj, .p _ _ (h3 j pv hp)⟩
section inv
variable {M : Nat → Prop} {μ : Nat → Option Nat} {W : World}
theorem RepA.v_inv {x v : Value} (h : RepA M μ W (.p (.v x)) v) : v = x := by cases h with | p _ _ h => cases h; rfl
theorem RepA.own_inv {b o : Nat} {v : Value} (h : RepA M μ W (.own b o) v) : ∃ B, μ b = some B ∧ v = .pointer (some ⟨B, o, none⟩) := by cases h with | own _ _ B hb => exact ⟨B, hb, rfl⟩
theorem RepP.lst_inv {n : Nat} {cs : List PV} {v : Value} (h : RepP M W (.lst n cs) v) :
    ∃ a cap, v = .slice a n cap ∧ n ≤ cap ∧ ((n = 0 ∧ cs = []) ∨ ∃ B o, a = some ⟨B, o, none⟩ ∧ B < W.heap.size ∧ ¬ M B ∧ PRow M W B o cs) := by
  cases h with
  | lst0 a cap => exact ⟨a, cap, rfl, Nat.zero_le _, .inl ⟨rfl, rfl⟩⟩
  | lst n cap cs B o g hB hM hn hc h1 hr => exact ⟨_, cap, rfl, hn.1, .inr ⟨B, o, rfl, hB, hM, g, hc, h1, hr⟩⟩
theorem RepP.lst_cap {n m cap : Nat} {cs : List PV} {a : Option Addr} (h : RepP M W (.lst n cs) (.slice a m cap)) (h0 : n ≠ 0) : cap ≤ maxLen := by
  cases h with
  | lst0 a cap => exact absurd rfl h0
  | lst n cap cs B o g hB hM hn hc h1 hr => exact hn.2
theorem RepP.lst_len {n : Nat} {cs : List PV} {v : Value} (h : RepP M W (.lst n cs) v) : n ≤ maxLen := by
  cases h with
  | lst0 a cap => exact Nat.zero_le _
  | lst n cap cs B o g hB hM hn hc h1 hr => exact Nat.le_trans hn.1 hn.2
theorem RepP.of_row {n cap B o : Nat} {cs : List PV} (hB : B < W.heap.size) (hM : ¬ M B) (hn : n ≤ cap ∧ cap ≤ maxLen) (h : PRow M W B o cs) : RepP M W (.lst n cs) (.slice (some ⟨B, o, none⟩) n cap) := by
  obtain ⟨g, h1, h2, h3⟩ := h
  exact .lst n cap cs B o g hB hM hn h1 h2 h3
theorem RepP.pt_inv {cs : List PV} {o : Nat} {v : Value} (h : RepP M W (.pt cs o) v) : ∃ B base, v = .pointer (some ⟨B, base + o, none⟩) ∧ B < W.heap.size ∧ ¬ M B ∧ PRow M W B base cs := by
  cases h with
  | pt _ _ B base g hB hM hc h1 hr => exact ⟨B, base, rfl, hB, hM, g, hc, h1, hr⟩
theorem RepP.of_pt {B base o : Nat} {cs : List PV} (hB : B < W.heap.size) (hM : ¬ M B) (h : PRow M W B base cs) : RepP M W (.pt cs o) (.pointer (some ⟨B, base + o, none⟩)) := by
  obtain ⟨g, h1, h2, h3⟩ := h
  exact .pt cs o B base g hB hM h1 h2 h3
theorem RepA.p_inv {x : PV} {v : Value} (h : RepA M μ W (.p x) v) : RepP M W x v := by cases h; assumption
theorem RepA.sl_inv {b o n k : Nat} {v : Value} (h : RepA M μ W (.sl b o n k) v) : (v = .slice none 0 0 ∧ o = 0 ∧ n = 0) ∨
    ∃ B cap el c, v = .slice (some ⟨B, o, none⟩) n cap ∧ μ b = some B ∧ n ≤ cap ∧ cap ≤ maxLen ∧ W.heap[B]? = some (.cells c el (0, 0)) ∧ o + cap * k = c.size := by
  cases h with
  | sl0 b k => exact .inl ⟨rfl, rfl, rfl⟩
  | sl b o n k B cap el c hb hn hm hc hs => exact .inr ⟨B, cap, el, c, rfl, hb, hn, hm, hc, hs⟩
theorem ints_inv {a : AV} {k : IntKind} {n : Int} {v : Value} (hi : ints a = some (k, n)) (h : RepA M μ W a v) : v = .int k n := by
  unfold ints at hi
  split at hi
  · injection hi with hi; injection hi with h1 h2; subst h1; subst h2; exact h.v_inv
  · cases hi
end inv
section ops
variable {P : Program} {T : Tab} {F : Nat → Prop} {μ : Nat → Option Nat} {st : Store} {W : World} {new : Nat}
theorem Does.value (hS : RepS F μ st W) {s : Sem Next} {v : Value} {a : AV} {rd : List Nat} (hr : s.run P W = .ok (.value v) W) (h : RepA (Mut F μ st) μ W a v) : Does P F μ st W new s ⟨a, [], rd⟩ :=
  ⟨v, W, μ, .inl hr, hS, h, Ext.refl _ _ _ _, fun _ _ => rfl⟩
theorem run_v {s : Sem Value} {v : Value} {W' : World} (h : s.run P W = .ok v W') : (do pure (Next.value (← s)) : Sem Next).run P W = .ok (.value v) W' := by simp [h]
theorem run_u {s : Sem Unit} {W' : World} (h : s.run P W = .ok () W') : (do s; pure Next.skip : Sem Next).run P W = .ok .skip W' := by simp [h]
/-- A block is made, and its address (or a slice of it) is the value. -/
theorem Does.make (hS : RepS F μ st W) (hn : μ new = none) (hs : st new = none) {s : Sem Next} {v : Value} {a : AV} {rd : List Nat} {W' : World} {c : Array Value} {el : Nat} {k : Blk} (hr : s.run P W = .ok (.value v) W')
    (hw : W'.heap = W.heap.push (.cells c el (0, 0))) (ho : W'.os = W.os) (ht : W'.tape = W.tape) (hp : W'.output = W.output) (hel : k.el = el) (hl : k.cells.length ≤ c.size)
    (hc : RepL (Mut F μ st) μ W k.cells (c.toList.take k.cells.length)) (ha : ∀ M, RepA M (upd1 μ new (some W.heap.size)) W' a v) : Does P F μ st W new s ⟨a, [(new, some k)], rd⟩ := by
  have get : ∀ j : Nat, j < k.cells.length → (c.toList.take k.cells.length)[j]? = some (c.getD j undef) := fun j hj => by
    have : j < c.size := by omega
    rw [List.getElem?_take, if_pos hj]; simp [this]
  obtain ⟨h1, h2⟩ := hS.alloc hn c el hw ho ht hp k hel hl (fun j hj => hc.2.1 j _ (get j hj)) (fun j a ha => hc.2.2 j a _ ha (get j (List.getElem?_eq_some_iff.1 ha).1)) hs
  exact ⟨v, W', _, .inl hr, h1, ha _, h2, fun b hb => upd1_ne _ _ _ hb⟩
theorem Does.own (hS : RepS F μ st W) (hn : μ new = none) (hs : st new = none) {s : Sem Next} {rd : List Nat} {c : Array Value} {el : Nat} {k : Blk} (hr : s.run P W = .ok (.value (.pointer (some ⟨W.heap.size, 0, none⟩))) (W.alloc (.cells c el)))
    (hel : k.el = el) (hc : RepL (Mut F μ st) μ W k.cells c.toList) : Does P F μ st W new s ⟨.own new 0, [(new, some k)], rd⟩ := by
  have hl : k.cells.length = c.size := by simpa using hc.1.symm
  refine .make hS hn hs hr rfl rfl rfl rfl hel (by omega) ?_ (fun M => .own new 0 _ (upd1_same _ _ _))
  rw [hl, List.take_of_length_le (by simp)]; exact hc
theorem Does.slice (hS : RepS F μ st W) (hn : μ new = none) (hs : st new = none) {s : Sem Next} {rd : List Nat} {W' : World} {c : Array Value} {el n cap ks : Nat} {k : Blk} (hr : s.run P W = .ok (.value (.slice (some ⟨W.heap.size, 0, none⟩) n cap)) W')
    (hw : W'.heap = W.heap.push (.cells c el (0, 0))) (ho : W'.os = W.os) (ht : W'.tape = W.tape) (hp : W'.output = W.output) (hel : k.el = el) (hl : k.cells.length ≤ c.size)
    (hc : RepL (Mut F μ st) μ W k.cells (c.toList.take k.cells.length)) (hcap : n ≤ cap) (hm : cap ≤ maxLen) (hsz : cap * ks = c.size) : Does P F μ st W new s ⟨.sl new 0 n ks, [(new, some k)], rd⟩ :=
  .make hS hn hs hr hw ho ht hp hel hl hc fun M => .sl new 0 n ks W.heap.size cap el c (upd1_same _ _ _) hcap hm (by rw [hw]; simp) (by omega)
theorem RepL.vs (M : Nat → Prop) (μ : Nat → Option Nat) (W : World) {xs : List Value} (h : ∀ x ∈ xs, x.oneCell' = true) : RepL M μ W (xs.map fun x => .p (.v x)) xs := by
  refine ⟨by simp, fun j x hx => h x (List.mem_of_getElem? hx), fun j a x ha hx => ?_⟩
  simp only [List.getElem?_map, hx, Option.map_some, Option.some.injEq] at ha
  exact ha ▸ .p _ _ (.v x (h x (List.mem_of_getElem? hx)))
theorem does_alloc (hT : TOK P T) (hS : RepS F μ st W) (hn : μ new = none) (hs : st new = none) {e : Nat} {y : Ty} (hy : T e = some y) :
    Does P F μ st W new (do pure (Next.value (← Instr.alloc e true (.tuple #[])))) ⟨.own new 0, [(new, some (.pc e (y.zero.map .v)))], []⟩ := by
  have hf := hT.facts hy
  obtain ⟨z, hz, hzc⟩ := hf.zero_run W
  refine Does.own hS hn hs (c := z.cells) (el := e) (run_v ?_) rfl ?_
  · simp [Instr.alloc, hz, newVar, newRow]
  · rw [hzc]; simpa [Blk.cells, Function.comp_def] using RepL.vs _ _ W hf.one
theorem does_box (hS : RepS F μ st W) (hn : μ new = none) (hs : st new = none) {e : Nat} {a : AV} {v : Value} (ha : a.solid = true) (hr : RepA (Mut F μ st) μ W a v) :
    Does P F μ st W new (do pure (Next.value (← Instr.box e v))) ⟨.own new 0, [(new, some (.mk e a.cells))], []⟩ := by
  refine Does.own hS hn hs (c := v.cells) (el := e) (run_v ?_) (Blk.mk_el _ _) ?_
  · simp [Instr.box, newVar, newRow]
  · rw [Blk.mk_cells]; exact hr.cells ha
theorem does_load (hT : TOK P T) (hS : RepS F μ st W) {t : Nat} {y : Ty} (hy : T t = some y) (h0 : y.size ≠ 0) {b o : Nat} {k : Blk} (hk : st b = some k) {v : Value} (hv : RepA (Mut F μ st) μ W (.own b o) v)
    (hl : o + y.size ≤ k.cells.length) (h1 : y.agg = false → y.size = 1) : Does P F μ st W new (do pure (Next.value (← Instr.loadAt t v))) ⟨cellsTo y.agg y.size o k, [], [b]⟩ := by
  obtain ⟨B, hB, rfl⟩ := hv.own_inv
  obtain ⟨c, hc, _, _, _, hrow⟩ := hS.row hk hB
  obtain ⟨x, hx, hrep⟩ := load_row (P := P) (hT.facts hy) hrow hl h1 h0
  rw [Nat.zero_add] at hx
  exact .value hS (run_v (by simpa [Instr.loadAt, Instr.sureAddr] using hx)) hrep
theorem does_load_pt (hT : TOK P T) (hS : RepS F μ st W) {t : Nat} {y : Ty} (hy : T t = some y) (h0 : y.size ≠ 0) {cs : List PV} {o : Nat} {v : Value} (hv : RepA (Mut F μ st) μ W (.p (.pt cs o)) v)
    (hl : o + y.size ≤ cs.length) (h1 : y.agg = false → y.size = 1) : Does P F μ st W new (do pure (Next.value (← Instr.loadAt t v))) ⟨cellsTo y.agg y.size o (.pc 0 cs), [], []⟩ := by
  obtain ⟨B, base, rfl, _, _, hrow⟩ := hv.p_inv.pt_inv
  obtain ⟨x, hx, hrep⟩ := load_row (P := P) (o := o) (k := .pc 0 cs) (μ := μ) (hT.facts hy) hrow.row (by simpa [Blk.cells] using hl) h1 h0
  exact .value hS (run_v (by simpa [Instr.loadAt, Instr.sureAddr] using hx)) hrep
end ops
end Go.Proofs.YtalklhbdpmggjaaDoor.Pw
namespace Go.Proofs.YtalklhbdpmggjaaDoor.Pw
open Go Go.RowKit
theorem RepL.lay {M : Nat → Prop} {μ : Nat → Option Nat} {W : World} {cs x : List AV} {xs vs : List Value} (h : RepL M μ W cs xs) (hx : RepL M μ W x vs) {o : Nat} (hl : o + x.length ≤ cs.length) : RepL M μ W (lay o x cs) (lay o vs xs) := by
  have e1 := h.1; have e2 := hx.1
  refine ⟨by rw [lay_length _ _ _ (by omega), lay_length _ _ _ hl, e1], fun j v hv => ?_, fun j a v ha hv => ?_⟩
  · rw [lay_get _ _ _ (by omega)] at hv
    split at hv
    · exact hx.2.1 _ v hv
    · exact h.2.1 _ v hv
  · rw [lay_get _ _ _ hl] at ha
    rw [lay_get _ _ _ (by omega), e2] at hv
    split at ha
    · rename_i hj; rw [if_pos hj] at hv; exact hx.2.2 _ a v ha hv
    · rename_i hj; rw [if_neg hj] at hv; exact h.2.2 _ a v ha hv
theorem foldl_lay : ∀ (vs : List Value) (k o : Nat) (cs : Array Value), o + k + vs.length ≤ cs.size →
    ((vs.zipIdx k).foldl (fun cs (x : Value × Nat) => cs.setIfInBounds (o + x.2) x.1) cs).toList = lay (o + k) vs cs.toList
  | [], k, o, cs, _ => by simp [lay]
  | v :: vs, k, o, cs, h => by
    have ih := foldl_lay vs (k + 1) o (cs.setIfInBounds (o + k) v) (by simp at h ⊢; omega)
    simp only [List.zipIdx_cons, List.foldl_cons, ih]
    apply List.ext_getElem?
    intro j
    simp only [List.length_cons] at h
    rw [lay_get _ _ _ (by simp; omega), lay_get _ _ _ (by simp; omega)]
    simp only [Array.toList_setIfInBounds, List.getElem?_set, List.length_cons, Array.length_toList]
    by_cases h1 : o + (k + 1) ≤ j ∧ j < o + (k + 1) + vs.length
    · rw [if_pos h1, if_pos (by omega)]
      obtain ⟨i, hi⟩ : ∃ i, j - (o + k) = i + 1 := ⟨j - (o + k) - 1, by omega⟩
      rw [hi, List.getElem?_cons_succ]; congr 1; omega
    · rw [if_neg h1]
      by_cases h2 : o + k = j
      · subst h2; rw [if_pos rfl, if_pos (by omega), if_pos (by omega)]; simp
      · rw [if_neg h2, if_neg (by omega)]
theorem fill_step (off : Nat) (v : Value) (cs : Array Value) (h : off + v.cells.size ≤ cs.size) :
    (v.cells.zipIdx.foldl (fun cs (x : Value × Nat) => cs.setIfInBounds (off + x.2) x.1) cs).toList = lay off v.cells.toList cs.toList := by
  rw [← Array.foldl_toList, Array.toList_zipIdx]
  have := foldl_lay v.cells.toList 0 off cs (by simpa using h)
  simpa using this
theorem fill_sound {M : Nat → Prop} {μ : Nat → Option Nat} {W : World} (place : Nat → Option (Nat × Nat)) : ∀ (ps : List (Nat × AV)) (vs : List (Nat × Value)) (cs cs' : List AV) (xs : Array Value),
    fillA place cs ps = some cs' → RepL M μ W cs xs.toList → ps.length = vs.length → (∀ (j : Nat) p v, ps[j]? = some p → vs[j]? = some v → p.1 = v.1 ∧ RepA M μ W p.2 v.2) →
    ∃ xs', Instr.fill place xs vs = some xs' ∧ RepL M μ W cs' xs'.toList
  | [], [], cs, cs', xs, h, hr, _, _ => by simp only [fillA, Option.some.injEq] at h; subst h; exact ⟨xs, rfl, hr⟩
  | [], _ :: _, _, _, _, _, _, hl, _ => by simp at hl
  | _ :: _, [], _, _, _, _, _, hl, _ => by simp at hl
  | (i, a) :: ps, (i', v) :: vs, cs, cs', xs, h, hr, hl, hp => by
    obtain ⟨rfl, ha⟩ := hp 0 _ _ rfl rfl
    simp only [fillA] at h
    split at h
    · cases h
    · rename_i o s hpl
      split at h
      · rename_i hc
        simp only [Bool.and_eq_true, beq_iff_eq, Nat.ble_eq] at hc
        replace hc : (a.solid = true ∧ a.cells.length = s) ∧ o + s ≤ cs.length := hc
        replace ha : RepA M μ W a v := ha
        have hrc := RepA.cells ha hc.1.1
        have hvl : v.cells.size = s := by have := hrc.1; simp only [Array.length_toList] at this; have h3 := hc.1.2; have h4 := hc.2; omega
        have hxl : xs.size = cs.length := by simpa using hr.1
        have hstep := fill_step o v xs (by have h4 := hc.2; omega)
        have hr' : RepL M μ W (Pw.lay o a.cells cs) (v.cells.zipIdx.foldl (fun cs (x : Value × Nat) => cs.setIfInBounds (o + x.2) x.1) xs).toList := by
          rw [hstep]; exact hr.lay hrc (by have h3 := hc.1.2; have h4 := hc.2; omega)
        obtain ⟨xs', h1, h2⟩ := fill_sound place ps vs _ cs' _ h hr' (by simpa using hl) (fun j p v hj hv => hp (j + 1) p v hj hv)
        refine ⟨xs', ?_, h2⟩
        simp only [Instr.fill, hpl]
        rw [if_neg (by have h4 := hc.2; simp; omega)]
        exact h1
      · cases h
section ops
variable {P : Program} {T : Tab} {F : Nat → Prop} {μ : Nat → Option Nat} {st : Store} {W : World} {new : Nat}
theorem does_store (hT : TOK P T) (hS : RepS F μ st W) {t : Nat} {y : Ty} (hy : T t = some y) {b o : Nat} {k : Blk} (hk : st b = some k) {v : Value} (hv : RepA (Mut F μ st) μ W (.own b o) v)
    {x : AV} {u : Value} (hx : x.solid = true) (hxl : x.cells.length = y.size) (hu : RepA (Mut F μ st) μ W x u) (hl : o + y.size ≤ k.cells.length) :
    Does P F μ st W new (do Instr.storeAt t v u; pure Next.skip) ⟨.any, [(b, some (putIn o x.cells k))], [b]⟩ := by
  obtain ⟨B, hB, rfl⟩ := hv.own_inv
  have hc := hu.cells hx
  obtain ⟨W', hr, hS', hE⟩ := hS.put (P := P) (o := o) hk hB hc (by omega) (putIn_cells _ _ _) (putIn_el _ _ _)
  have hsz : u.cells.size = y.size := by have := hc.1; simp only [Array.length_toList] at this; omega
  refine ⟨undef, W', μ, .inr ⟨run_u ?_, rfl⟩, hS', .any _, hE, fun _ _ => rfl⟩
  simp [Instr.storeAt, Instr.sureAddr, storeVar, (hT.facts hy).size_run, hsz, hr]
theorem zip_parts {M : Nat → Prop} {μ : Nat → Option Nat} {W : World} {ρA : Operand → AV} {ρ : Operand → Value} {parts : Array (Nat × Operand)} (h : ∀ x ∈ parts.toList.map (·.2), RepA M μ W (ρA x) (ρ x)) :
    ∀ (j : Nat) p v, (parts.toList.map fun x => (x.1, ρA x.2))[j]? = some p → (parts.map fun (i, x) => (i, ρ x)).toList[j]? = some v → p.1 = v.1 ∧ RepA M μ W p.2 v.2 := by
  intro j p v hp hv
  simp only [Array.toList_map, List.getElem?_map, Option.map_eq_some_iff] at hp hv
  obtain ⟨q, hq, rfl⟩ := hp
  obtain ⟨q', hq', rfl⟩ := hv
  rw [hq] at hq'; injection hq' with hq'; subst hq'
  exact ⟨rfl, h q.2 (List.mem_map.2 ⟨q, List.mem_of_getElem? hq, rfl⟩)⟩
theorem does_build (hT : TOK P T) (hS : RepS F μ st W) {t : Nat} {y : Ty} (hy : T t = some y) (hf : y.fields ≠ []) {parts : Array (Nat × Operand)} {ρA : Operand → AV} {ρ : Operand → Value} {cs : List AV}
    (hρ : ∀ x ∈ parts.toList.map (·.2), RepA (Mut F μ st) μ W (ρA x) (ρ x))
    (h : fillA (fun i => y.fields[i]?) (y.zero.map fun z => .p (.v z)) (parts.toList.map fun x => (x.1, ρA x.2)) = some cs) :
    Does P F μ st W new (do pure (Next.value (← Instr.build t (parts.map fun (i, x) => (i, ρ x))))) ⟨cells1 cs, [], []⟩ := by
  have hF := hT.facts hy
  obtain ⟨i, z, hi, _, _, hz, hzc⟩ := hF.info
  obtain ⟨fs, hu, hm, _, _⟩ := hF.fields hf
  obtain ⟨xs, h1, h2⟩ := fill_sound (M := Mut F μ st) (μ := μ) (W := W) _ _ (parts.map fun (i, x) => (i, ρ x)).toList _ cs z.cells h (by rw [hzc]; exact RepL.vs _ _ W hF.one) (by simp) (zip_parts hρ)
  have hb : P.built t (parts.map fun (i, x) => (i, ρ x)).toList = some xs := by
    unfold Program.built
    simp only [hi, hu, hz, hm]
    rw [← h1]; congr 1; funext q; simp
  exact .value hS (run_v (run_build W t _ xs hb)) h2.agg_1
theorem madeCells_rep (z : Array Value) (n : Nat) (hz : z.size ≠ 0) : ((Array.range (n * z.size)).map (z[· % z.size]!)).toList = (List.replicate n z.toList).flatten := by
  apply List.ext_getElem?
  intro j
  induction n generalizing j with
  | zero => simp
  | succ n ih =>
    have hz0 : 0 < z.size := Nat.pos_of_ne_zero hz
    rw [List.replicate_succ, List.flatten_cons, List.getElem?_append]
    simp only [Array.length_toList]
    by_cases h : j < z.size
    · rw [if_pos h]
      have : j < (n + 1) * z.size := by rw [Nat.succ_mul]; omega
      simp [this, Nat.mod_eq_of_lt h, h]
    · rw [if_neg h, ← ih (j - z.size)]
      have e : (j - z.size) % z.size = j % z.size := by rw [Nat.mod_eq_sub_mod (a := j) (by omega)]
      by_cases h2 : j < (n + 1) * z.size
      · have : j - z.size < n * z.size := by rw [Nat.succ_mul] at h2; omega
        simp [h2, this, e]
      · have : ¬ j - z.size < n * z.size := by rw [Nat.succ_mul] at h2; omega
        simp [h2, this]
theorem rep_flat (n : Nat) (z : List PV) : rep n z = (List.replicate n z).flatten := by
  unfold rep
  split
  · rename_i a
    induction n with
    | zero => rfl
    | succ n ih => rw [List.replicate_succ, List.replicate_succ, List.flatten_cons, ← ih]; rfl
  · rfl
theorem rep_vs (n : Nat) (z : List Value) : (rep n (z.map .v)).map AV.p = ((List.replicate n z).flatten).map fun x => .p (.v x) := by
  rw [rep_flat]
  simp [List.map_flatten, List.map_replicate, Function.comp_def]
theorem mem_rep {n : Nat} {z : List Value} {x : Value} (h : x ∈ (List.replicate n z).flatten) : x ∈ z := by
  simp only [List.mem_flatten, List.mem_replicate] at h
  obtain ⟨l, ⟨_, rfl⟩, hx⟩ := h
  exact hx
theorem rep_len (n : Nat) (z : List Value) : ((List.replicate n z).flatten).length = n * z.length := by simp
theorem rep_repL (M : Nat → Prop) (μ : Nat → Option Nat) (W : World) {z : List Value} (h : ∀ x ∈ z, x.oneCell' = true) (n : Nat) : RepL M μ W ((rep n (z.map .v)).map .p) ((List.replicate n z).flatten) := by
  rw [rep_vs]
  exact RepL.vs M μ W fun x hx => h x (mem_rep hx)
theorem fillA_length (place : Nat → Option (Nat × Nat)) : ∀ (ps : List (Nat × AV)) (cs cs' : List AV), fillA place cs ps = some cs' → cs'.length = cs.length
  | [], cs, cs', h => by simp only [fillA, Option.some.injEq] at h; rw [h]
  | (i, a) :: ps, cs, cs', h => by
    simp only [fillA] at h
    split at h
    · cases h
    · split at h
      · rename_i o s hpl hc
        simp only [Bool.and_eq_true, beq_iff_eq, Nat.ble_eq] at hc
        rw [fillA_length place ps _ cs' h, lay_length _ _ _ (by have := hc.1.2; have := hc.2; omega)]
      · cases h
theorem does_buildSlice (hT : TOK P T) (hS : RepS F μ st W) (hn : μ new = none) (hs : st new = none) {t e n : Nat} {y z : Ty} (hy : T t = some y) (he : y.elem = some e) (hz : T e = some z) (h1 : n * z.size ≤ 16777216) (h2 : n ≤ 16777216) (h0 : z.size ≠ 0)
    {parts : Array (Nat × Operand)} {ρA : Operand → AV} {ρ : Operand → Value} {cs : List AV} (hρ : ∀ x ∈ parts.toList.map (·.2), RepA (Mut F μ st) μ W (ρA x) (ρ x))
    (h : fillA (fun i => some (i * z.size, z.size)) ((rep n (z.zero.map .v)).map .p) (parts.toList.map fun x => (x.1, ρA x.2)) = some cs) :
    Does P F μ st W new (do pure (Next.value (← Instr.buildSlice t n (parts.map fun (i, x) => (i, ρ x))))) ⟨.sl new 0 n z.size, [(new, some (.mk e cs))], []⟩ := by
  have hF := hT.facts hz
  obtain ⟨i, zv, hi, his, _, hzv, hzc⟩ := hF.info
  have hu := (hT.facts hy).elem e he
  have hzs : zv.cells.size = z.size := by rw [← hF.len, ← hzc]; simp
  have start : RepL (Mut F μ st) μ W ((rep n (z.zero.map .v)).map .p) ((Array.range (n * i.size)).map (zv.cells[· % zv.cells.size]!)).toList := by
    rw [his, ← hzs, madeCells_rep _ _ (by omega), hzc]
    exact rep_repL _ _ W hF.one n
  obtain ⟨xs, hx1, hx2⟩ := fill_sound (M := Mut F μ st) (μ := μ) (W := W) _ _ (parts.map fun (i, x) => (i, ρ x)).toList _ cs _ h start (by simp) (zip_parts hρ)
  have hlen : xs.size = n * z.size := by
    have := hx2.1
    rw [fillA_length _ _ _ _ h] at this
    simp only [Array.length_toList, List.length_map, rep_flat] at this
    rw [this]; simp [hF.len]
  have hk : (Blk.mk e cs).cells = cs := Blk.mk_cells _ _
  have hcl : cs.length = xs.size := by simpa using hx2.1.symm
  have hrun : (Instr.buildSlice t n (parts.map fun (i, x) => (i, ρ x))).run P W = .ok (.slice (some ⟨W.heap.size, 0, none⟩) n n) (W.alloc (.cells xs e)) := by
    by_cases hne : n = 0
    · subst hne
      have h1 : Instr.fill (fun i => some (i * z.size, z.size)) #[] (parts.map fun (i, x) => (i, ρ x)).toList = some xs := by simpa [Array.range_zero'] using hx1
      have h1' : Instr.fill (fun x => some (x * i.size, i.size)) #[] (List.map (fun x => (x.1, ρ x.2)) parts.toList) = some xs := by rw [his]; simpa using h1
      simp [Instr.buildSlice, run_underlying hu, sizeOf, typeInfo, hi, h1', newRow, Array.range_zero']
    · refine run_buildSlice W t e n _ xs i zv hu hi hzv (by rw [his]; omega) (by rw [his]; exact Nat.mul_ne_zero hne h0) ?_
      rw [his]; exact (by simpa [his] using hx1)
  refine .slice hS hn hs (run_v hrun) rfl rfl rfl rfl (Blk.mk_el _ _) (by rw [hk]; omega) ?_ (Nat.le_refl _) (by unfold maxLen; omega) hlen.symm
  rw [hk, hcl, List.take_of_length_le (by simp)]
  exact hx2
end ops
end Go.Proofs.YtalklhbdpmggjaaDoor.Pw
namespace Go.Proofs.YtalklhbdpmggjaaDoor.Pw
open Go Go.RowKit
theorem mapM_get {α β : Type} (f : α → Option β) : ∀ (l : List α) (r : List β), l.mapM f = some r → ∀ (j : Nat) b, r[j]? = some b → ∃ a, l[j]? = some a ∧ f a = some b
  | [], r, h, j, b, hb => by simp at h; subst h; simp at hb
  | a :: l, r, h, j, b, hb => by
    rw [List.mapM_cons] at h
    simp only [Option.bind_eq_bind, Option.bind_eq_some_iff, Option.pure_def, Option.some.injEq] at h
    obtain ⟨x, hx, r', hr, rfl⟩ := h
    cases j with
    | zero => simp at hb; exact ⟨a, rfl, hb ▸ hx⟩
    | succ j => exact mapM_get f l r' hr j b (by simpa using hb)
section ops
variable {P : Program} {T : Tab} {F : Nat → Prop} {μ : Nat → Option Nat} {st : Store} {W : World} {new : Nat}
theorem TF.field {t : Nat} {y : Ty} (h : TF P t y) {f : Nat} {q : Nat × Nat} (hq : y.fields[f]? = some q) :
    ∃ fs fd, P.underlying t = some (.struct fs) ∧ fs[f]? = some fd ∧ q.1 = fd.offset ∧ (sizeOf fd.type).run P W = .ok q.2 W ∧ (∀ ag, y.fagg[f]? = some ag → (isAgg fd.type).run P W = .ok ag W) := by
  obtain ⟨fs, hu, hm, ha, hd⟩ := h.fields (by intro e; rw [e] at hq; cases hq)
  obtain ⟨fd, h1, h2⟩ := mapM_get _ _ _ hm f q hq
  simp only [Option.map_eq_some_iff] at h2
  obtain ⟨i, hi, rfl⟩ := h2
  have h1' : fs[f]? = some fd := by simpa using h1
  refine ⟨fs, fd, hu, h1', rfl, by simp [sizeOf, typeInfo, hi], fun ag hag => ?_⟩
  rw [ha, List.getElem?_map, h1] at hag
  injection hag with hag
  obtain ⟨d, hdd⟩ := Option.isSome_iff_exists.1 (hd fd (List.mem_of_getElem? h1))
  rw [isAgg_run hdd, show isAggB P fd.type = ag from hag]
theorem does_fieldAddr (hT : TOK P T) (hS : RepS F μ st W) {s f : Nat} {y : Ty} (hy : T s = some y) {q : Nat × Nat} (hq : y.fields[f]? = some q) (h0 : q.2 ≠ 0) {b o : Nat} {v : Value} (hv : RepA (Mut F μ st) μ W (.own b o) v) :
    Does P F μ st W new (do pure (Next.value (← Instr.fieldAt s v f))) ⟨.own b (o + q.1), [], []⟩ := by
  obtain ⟨B, hB, rfl⟩ := hv.own_inv
  obtain ⟨fs, fd, hu, hf, ho, hs, _⟩ := (hT.facts hy).field (W := W) hq
  refine .value hS (v := .pointer (some ⟨B, o + q.1, none⟩)) (run_v ?_) (.own _ _ _ hB)
  simp [Instr.fieldAt, run_underlying hu, hf, Instr.sureAddr, fieldPlace, hs, h0, Addr.add_lit, ho]
theorem does_fieldAddr_pt (hT : TOK P T) (hS : RepS F μ st W) {s f : Nat} {y : Ty} (hy : T s = some y) {q : Nat × Nat} (hq : y.fields[f]? = some q) (h0 : q.2 ≠ 0) {cs : List PV} {o : Nat} {v : Value} (hv : RepA (Mut F μ st) μ W (.p (.pt cs o)) v) :
    Does P F μ st W new (do pure (Next.value (← Instr.fieldAt s v f))) ⟨.p (.pt cs (o + q.1)), [], []⟩ := by
  obtain ⟨B, base, rfl, hB, hM, hr⟩ := hv.p_inv.pt_inv
  obtain ⟨fs, fd, hu, hf, ho, hs, _⟩ := (hT.facts hy).field (W := W) hq
  refine .value hS (v := .pointer (some ⟨B, base + (o + q.1), none⟩)) (run_v ?_) (.p _ _ (.of_pt hB hM hr))
  simp [Instr.fieldAt, run_underlying hu, hf, Instr.sureAddr, fieldPlace, hs, h0, Addr.add_lit, ho, Nat.add_assoc]
theorem part_sound {M : Nat → Prop} {t : Nat} {ag : Bool} {size off : Nat} {k : Blk} {xs : List Value} (hs : (sizeOf t).run P W = .ok size W) (ha : (isAgg t).run P W = .ok ag W) (hr : RepL M μ W k.cells xs) (hl : off + size ≤ k.cells.length)
    (h1 : ag = false → size = 1) : ∃ v, (part t xs.toArray off).run P W = .ok v W ∧ RepA M μ W (cellsTo ag size off k) v := by
  have hlen : xs.length = k.cells.length := hr.1
  cases ag with
  | true =>
    refine ⟨.agg ((xs.drop off).take size).toArray, ?_, ?_⟩
    · simp only [part, Sem.run_bind, ha, Result.andThen_ok, if_true, hs, Sem.run_pure]
      congr 2
      apply Array.ext'
      simp [List.take_drop]
    · have hL : RepL M μ W ((k.cells.drop off).take size) ((xs.drop off).take size) := by
        refine ⟨by simp; omega, fun j x hx => ?_, fun j a x hA hx => ?_⟩
        · rw [List.getElem?_take] at hx
          split at hx
          · rw [List.getElem?_drop] at hx; exact hr.2.1 _ x hx
          · cases hx
        · rw [List.getElem?_take] at hx hA
          split at hx
          · rename_i hj
            rw [if_pos hj, List.getElem?_drop] at hA
            rw [List.getElem?_drop] at hx; exact hr.2.2 _ a x hA hx
          · cases hx
      cases k with
      | pc e cs =>
        simp only [cellsTo, if_true]
        refine .p _ _ (RepL.agg_p (μ := μ) ?_)
        simpa [Blk.cells, List.map_take, List.map_drop] using hL
      | mc e cs => simpa [cellsTo, Blk.cells] using hL.agg_1
  | false =>
    have hs1 := h1 rfl
    have hlt : off < k.cells.length := by omega
    have hlx : off < xs.length := by omega
    refine ⟨xs[off], ?_, ?_⟩
    · simp [part, ha, hlx]
    · have hR := hr.2.2 off k.cells[off] xs[off] (List.getElem?_eq_getElem hlt) (List.getElem?_eq_getElem hlx)
      cases k with
      | pc e cs =>
        simp only [Blk.cells, List.length_map] at hlt
        simp only [Blk.cells, List.getElem_map] at hR
        simpa [cellsTo, List.getD, List.getElem?_eq_getElem hlt] using hR
      | mc e cs =>
        simp only [Blk.cells] at hlt hR
        simpa [cellsTo, List.getD, List.getElem?_eq_getElem hlt] using hR
theorem does_field (hT : TOK P T) (hS : RepS F μ st W) {s f : Nat} {y : Ty} (hy : T s = some y) {q : Nat × Nat} {ag : Bool} (hq : y.fields[f]? = some q) (hag : y.fagg[f]? = some ag) {k : Blk} {xs : List Value}
    (hr : RepL (Mut F μ st) μ W k.cells xs) (hl : q.1 + q.2 ≤ k.cells.length) (h1 : ag = false → q.2 = 1) :
    Does P F μ st W new (do pure (Next.value (← Instr.field s (.agg xs.toArray) f))) ⟨cellsTo ag q.2 q.1 k, [], []⟩ := by
  obtain ⟨fs, fd, hu, hf, ho, hs, ha⟩ := (hT.facts hy).field (W := W) hq
  obtain ⟨v, hv, hR⟩ := part_sound (P := P) (k := k) hs (ha ag hag) hr hl h1
  refine .value hS (run_v ?_) hR
  simp [Instr.field, run_underlying hu, hf, asAgg, ← ho, hv]
theorem RepA.agg_inv {M : Nat → Prop} {cs : List AV} {v : Value} (h : RepA M μ W (.agg cs) v) : ∃ xs : List Value, v = .agg xs.toArray ∧ RepL M μ W cs xs := by
  cases h with | agg _ xs hl h1 hr => exact ⟨xs, rfl, hl, h1, hr⟩
theorem RepP.agg_inv {M : Nat → Prop} {cs : List PV} {v : Value} (h : RepP M W (.agg cs) v) : ∃ xs : List Value, v = .agg xs.toArray ∧ RepL M μ W (cs.map .p) xs := by
  cases h with
  | agg _ xs hl h1 hr =>
    refine ⟨xs, rfl, by simpa using hl, h1, fun j a x ha hx => ?_⟩
    simp only [List.getElem?_map, Option.map_eq_some_iff] at ha
    obtain ⟨pv, hp, rfl⟩ := ha
    exact .p _ _ (hr j pv x hp hx)
theorem index_run {t e : Nat} {y z : Ty} (hT : TOK P T) (hy : T t = some y) (he : y.elem = some e) (hz : T e = some z) {k : IntKind} {i : Int} {B o n cap : Nat} (h0 : 0 ≤ i) (h1 : i < n) :
    (Instr.indexAt t (.slice (some ⟨B, o, none⟩) n cap) (.int k i)).run P W = .ok (.pointer (some ⟨B, o + i.toNat * z.size, none⟩)) W := by
  have hu := (hT.facts hy).elem e he
  simp [Instr.indexAt, asIntOf, run_underlying hu, h0, h1, (hT.facts hz).size_run, Addr.add_lit]
theorem does_index_lst (hT : TOK P T) (hS : RepS F μ st W) {t e : Nat} {y z : Ty} (hy : T t = some y) (he : y.elem = some e) (hz : T e = some z) {k : IntKind} {i : Int} {n : Nat} {cs : List PV} {v : Value}
    (hv : RepA (Mut F μ st) μ W (.p (.lst n cs)) v) (h0 : 0 ≤ i) (h1 : i < n) (h2 : cs ≠ []) : Does P F μ st W new (do pure (Next.value (← Instr.indexAt t v (.int k i)))) ⟨.p (.pt cs (i.toNat * z.size)), [], []⟩ := by
  obtain ⟨a, cap, rfl, _, h | ⟨B, o, rfl, hB, hM, hr⟩⟩ := hv.p_inv.lst_inv
  · exact absurd h.2 h2
  · exact .value hS (run_v (index_run hT hy he hz h0 h1)) (.p _ _ (.of_pt hB hM hr))
theorem does_index_sl (hT : TOK P T) (hS : RepS F μ st W) {t e : Nat} {y z : Ty} (hy : T t = some y) (he : y.elem = some e) (hz : T e = some z) {k : IntKind} {i : Int} {b o n : Nat} {v : Value}
    (hv : RepA (Mut F μ st) μ W (.sl b o n z.size) v) (h0 : 0 ≤ i) (h1 : i < n) : Does P F μ st W new (do pure (Next.value (← Instr.indexAt t v (.int k i)))) ⟨.own b (o + i.toNat * z.size), [], []⟩ := by
  rcases hv.sl_inv with ⟨_, _, rfl⟩ | ⟨B, cap, el, c, rfl, hb, hn, hm, hc, hs⟩
  · omega
  · exact .value hS (run_v (index_run hT hy he hz h0 h1)) (.own _ _ _ hb)
theorem does_makeSlice (hT : TOK P T) (hS : RepS F μ st W) (hn : μ new = none) (hs : st new = none) {t e : Nat} {y z : Ty} (hy : T t = some y) (he : y.elem = some e) (hz : T e = some z) (h0 : z.size ≠ 0) {k k' : IntKind} {n : Int}
    (hpos : 0 ≤ n) (hb : (z.bytes : Int) * n ≤ 281474976710656) (hm : n ≤ 9223372036854775807) :
    Does P F μ st W new (do pure (Next.value (← Instr.makeSlice t (.int k n) (.int k' n)))) ⟨.sl new 0 n.toNat z.size, [(new, some (.pc e (rep n.toNat (z.zero.map .v))))], []⟩ := by
  have hF := hT.facts hz
  obtain ⟨i, zv, hi, his, hib, hzv, hzc⟩ := hF.info
  have hu := (hT.facts hy).elem e he
  have hzs : zv.cells.size = z.size := by rw [← hF.len, ← hzc]; simp
  have hr := run_make (P := P) W t e i zv hu hi hzv k k' n n hpos (Int.le_refl _) (by rw [hib]; omega) (by omega)
  have hcells : (Blk.pc e (rep n.toNat (z.zero.map .v))).cells = (rep n.toNat (z.zero.map .v)).map .p := rfl
  have hmade : (madeCells zv.cells (n.toNat * i.size)).toList = (List.replicate n.toNat z.zero).flatten := by
    unfold madeCells
    rw [his, ← hzs, madeCells_rep _ _ (by omega), hzc]
  have hR := rep_repL (Mut F μ st) μ W hF.one n.toNat
  have hl : (rep n.toNat (z.zero.map .v)).length = n.toNat * z.size := by rw [rep_flat]; simp [hF.len]
  have hsz : (madeCells zv.cells (n.toNat * i.size)).size = n.toNat * z.size := by rw [size_madeCells, his]
  refine .slice hS hn hs (run_v hr) rfl rfl rfl rfl rfl (by rw [hcells, hsz]; simp [hl]) ?_ (Nat.le_refl _) (by unfold maxLen; omega) hsz.symm
  rw [hcells, hmade, List.take_of_length_le (by simp [hl, hF.len])]
  exact hR
theorem slice_run {t e : Nat} {y z : Ty} (hT : TOK P T) (hy : T t = some y) (he : y.elem = some e) (hz : T e = some z) {a : Option Addr} {n cap : Nat} {lo hi : Option Value} {l h : Nat}
    (hlo : (lo = none ∧ l = 0) ∨ ∃ k, lo = some (.int k l)) (hhi : (hi = none ∧ h = n) ∨ ∃ k, hi = some (.int k h)) (h1 : l ≤ h) (h2 : h ≤ cap) :
    (Instr.sliceAt t (.slice a n cap) lo hi none).run P W = .ok (.slice (if cap = l then a else a.map (·.add (l * z.size))) (h - l) (cap - l)) W := by
  have hu := (hT.facts hy).elem e he
  have hs := (hT.facts hz).size_run W
  rcases hlo with ⟨rfl, rfl⟩ | ⟨k, rfl⟩ <;> rcases hhi with ⟨rfl, rfl⟩ | ⟨k', rfl⟩ <;>
    simp [Instr.sliceAt, Instr.slice, run_underlying hu, Instr.sliceBounds, Instr.sliceBound, asIntOf, hs, h1, h2]
theorem does_slice_sl0 (hT : TOK P T) (hS : RepS F μ st W) {t e : Nat} {y z : Ty} (hy : T t = some y) (he : y.elem = some e) (hz : T e = some z) {b o n h : Nat} {v : Value} {hi : Option Value} (hv : RepA (Mut F μ st) μ W (.sl b o n z.size) v)
    (hhi : (hi = none ∧ h = n) ∨ ∃ k, hi = some (.int k h)) (h2 : h ≤ n) : Does P F μ st W new (do pure (Next.value (← Instr.sliceAt t v none hi none))) ⟨.sl b o h z.size, [], []⟩ := by
  rcases hv.sl_inv with ⟨rfl, rfl, rfl⟩ | ⟨B, cap, el, c, rfl, hb, hn, hm, hc, hs⟩
  · obtain rfl : h = 0 := by omega
    exact .value hS (run_v (slice_run hT hy he hz (.inl ⟨rfl, rfl⟩) hhi (Nat.le_refl _) (Nat.le_refl _))) (.sl0 _ _)
  · refine .value hS (run_v (slice_run hT hy he hz (.inl ⟨rfl, rfl⟩) hhi (Nat.zero_le _) (by omega))) ?_
    have : (if cap = 0 then some (⟨B, o, none⟩ : Addr) else (some (⟨B, o, none⟩ : Addr)).map (·.add (0 * z.size))) = some ⟨B, o, none⟩ := by split <;> simp [Addr.add_lit]
    rw [this]
    exact .sl b o h z.size B _ el c hb (by omega) (by omega) hc (by simpa using hs)
theorem does_slice_sl (hT : TOK P T) (hS : RepS F μ st W) {t e : Nat} {y z : Ty} (hy : T t = some y) (he : y.elem = some e) (hz : T e = some z) {b o n h l : Nat} {v : Value} {hi : Option Value} {k : IntKind} (hv : RepA (Mut F μ st) μ W (.sl b o n z.size) v)
    (hhi : (hi = none ∧ h = n) ∨ ∃ k, hi = some (.int k h)) (h1 : l < h) (h2 : h ≤ n) : Does P F μ st W new (do pure (Next.value (← Instr.sliceAt t v (some (.int k l)) hi none))) ⟨.sl b (o + l * z.size) (h - l) z.size, [], []⟩ := by
  rcases hv.sl_inv with ⟨rfl, rfl, rfl⟩ | ⟨B, cap, el, c, rfl, hb, hn, hm, hc, hs⟩
  · omega
  · refine .value hS (run_v (slice_run hT hy he hz (.inr ⟨k, rfl⟩) hhi (by omega) (by omega))) ?_
    rw [if_neg (by omega)]
    simp only [Option.map_some, Addr.add_lit]
    refine .sl b _ _ z.size B _ el c hb (by omega) (by omega) hc ?_
    rw [← hs, Nat.sub_mul]
    have : l * z.size ≤ cap * z.size := Nat.mul_le_mul_right _ (by omega)
    omega
theorem does_slice_lst (hT : TOK P T) (hS : RepS F μ st W) {t e : Nat} {y z : Ty} (hy : T t = some y) (he : y.elem = some e) (hz : T e = some z) {n h l : Nat} {cs : List PV} {v : Value} {lo hi : Option Value} (hv : RepA (Mut F μ st) μ W (.p (.lst n cs)) v)
    (hlo : (lo = none ∧ l = 0) ∨ ∃ k, lo = some (.int k l)) (hhi : (hi = none ∧ h = n) ∨ ∃ k, hi = some (.int k h)) (h1 : l ≤ h) (h2 : h ≤ n) :
    Does P F μ st W new (do pure (Next.value (← Instr.sliceAt t v lo hi none))) ⟨.p (.lst (h - l) ((cs.drop (l * z.size)).take ((h - l) * z.size))), [], []⟩ := by
  obtain ⟨a, cap, rfl, hcap, hh⟩ := hv.p_inv.lst_inv
  refine .value hS (run_v (slice_run hT hy he hz hlo hhi h1 (by omega))) (.p _ _ ?_)
  by_cases hc : h = l
  · subst hc
    simp only [Nat.sub_self, Nat.zero_mul, List.take_zero]
    exact .lst0 _ _
  · rcases hh with ⟨rfl, _⟩ | ⟨B, o, rfl, hB, hM, hr⟩
    · omega
    · rw [if_neg (by omega)]
      simp only [Option.map_some, Addr.add_lit]
      exact .of_row hB hM ⟨by omega, by have := hv.p_inv.lst_cap (by omega); omega⟩ ((hr.drop _).take _)
end ops
end Go.Proofs.YtalklhbdpmggjaaDoor.Pw
namespace Go.Proofs.YtalklhbdpmggjaaDoor.Pw
open Go Go.RowKit
section ops
variable {P : Program} {T : Tab} {F : Nat → Prop} {μ : Nat → Option Nat} {st : Store} {W : World} {new : Nat}
theorem bin_run {op : BinOp} {t : TypeId} {x y : Operand} {k : IntKind} {a b : Int} {r : Value} {c : Prop} (h : binA op k a b = some (r, c)) (hc : c) :
    (do eqGuard op t x y (.int k a) (.int k b); binOp op t (.int k a) (.int k b) : Sem Value).run P W = .ok r W := by
  have hg : (eqGuard op t x y (.int k a) (.int k b)).run P W = .ok () W := by
    unfold eqGuard
    cases op <;> rfl
  rw [Sem.run_bind, hg, Result.andThen_ok]
  cases op <;> simp only [binA, Option.some.injEq, Prod.mk.injEq, reduceCtorEq] at h <;> obtain ⟨rfl, rfl⟩ := h <;>
    simp_all [binOp, Op.intArith, Op.intDiv, Op.intCmp, bne, Int.instDecidableEq, show (a == b) = decide (a = b) from by by_cases h : a = b <;> simp [h]]
theorem bool_run {op : BinOp} {t : TypeId} {x y : Operand} {a b r : Bool} (hu : P.underlying t = some .bool) (h : (op = .eql ∧ r = (a == b)) ∨ (op = .neq ∧ r = !(a == b))) :
    (do eqGuard op t x y (.bool a) (.bool b); binOp op t (.bool a) (.bool b) : Sem Value).run P W = .ok (.bool r) W := by
  have he : (Op.equal t (.bool a) (.bool b)).run P W = .ok (a == b) W := by
    unfold Op.equal Op.maxDepth Op.equalIn
    simp [run_underlying hu]
  rcases h with ⟨rfl, rfl⟩ | ⟨rfl, rfl⟩ <;> simp [eqGuard, binOp, he]
theorem str_run {op : BinOp} {t : TypeId} {x y : Operand} {a b : ByteArray} {r : Value} {c : Prop} (h : strA op a b = some (r, c)) (hc : c) :
    (do eqGuard op t x y (.string a) (.string b); binOp op t (.string a) (.string b) : Sem Value).run P W = .ok r W := by
  have hg : (eqGuard op t x y (.string a) (.string b)).run P W = .ok () W := by
    unfold eqGuard
    cases op <;> rfl
  rw [Sem.run_bind, hg, Result.andThen_ok]
  cases op <;> simp only [strA, Option.some.injEq, Prod.mk.injEq, reduceCtorEq] at h <;> obtain ⟨rfl, rfl⟩ := h
  case add =>
    have hm : ¬ (((a.size + b.size : Nat) : Int) > IntKind.i64.max) := by rw [show IntKind.i64.max = 9223372036854775807 from rfl]; omega
    have hb : (binOp .add t (.string a) (.string b)) = Op.stringOp .add a b := rfl
    rw [hb]; unfold Op.stringOp
    simp only [if_neg hm]; rfl
  all_goals simp [binOp, Op.stringOp]
theorem sub_cells (o n : Nat) (k : Blk) : (sub o n k).cells = (k.cells.drop o).take n := by cases k <;> simp [sub, Blk.cells, List.map_take, List.map_drop]
theorem joinB_cells (e : Nat) (a b : Blk) : (joinB e a b).cells = a.cells ++ b.cells := by cases a <;> cases b <;> simp [joinB, Blk.cells]
theorem joinB_el (e : Nat) (a b : Blk) : (joinB e a b).el = e := by cases a <;> cases b <;> rfl
theorem overB_cells (o : Nat) (a d : Blk) : (overB o a d).cells = d.cells.take o ++ (a.cells ++ d.cells.drop (o + a.cells.length)) := by cases a <;> cases d <;> simp [overB, Blk.cells]
theorem overB_el (o : Nat) (a d : Blk) : (overB o a d).el = d.el := by cases a <;> cases d <;> rfl
theorem lay_over {α : Type} (o : Nat) (x cs : List α) : (cs.take o ++ (x ++ cs.drop (o + x.length))).length = (lay o x cs).length ∨ cs.length < o + x.length := by
  rcases Nat.lt_or_ge cs.length (o + x.length) with h | h
  · exact .inr h
  · left; rw [lay_length _ _ _ h]; simp; omega
theorem lay_eq {α : Type} (o : Nat) (x cs : List α) (h : o + x.length ≤ cs.length) : lay o x cs = cs.take o ++ (x ++ cs.drop (o + x.length)) := by
  unfold lay
  split
  · rename_i a
    apply List.ext_getElem?
    intro j
    simp only [List.length_cons, List.length_nil] at h ⊢
    rw [List.getElem?_set, List.getElem?_append, List.getElem?_append]
    simp only [List.length_take, List.getElem?_take, List.getElem?_drop, List.length_cons, List.length_nil]
    have : min o cs.length = o := by omega
    rw [this]
    by_cases h1 : o = j
    · subst h1; simp; omega
    · rw [if_neg h1]
      by_cases h2 : j < o
      · rw [if_pos h2, if_pos h2]
      · rw [if_neg h2, if_neg (by omega)]; congr 1; omega
  · rfl
/-- What a reader of a slice finds. -/
theorem view_row (hS : RepS F μ st W) {a : AV} {v : Value} {q : Nat × Nat × Blk × List Nat} (hq : viewA st a = some q) (hv : RepA (Mut F μ st) μ W a v) {size : Nat} (hl : q.2.1 + q.1 * size ≤ q.2.2.1.cells.length) :
    ∃ x cap, v = .slice x q.1 cap ∧ ∀ n, n ≤ q.1 → ∃ news : List Value, RepL (Mut F μ st) μ W (sub q.2.1 (n * size) q.2.2.1).cells news ∧ news.length = n * size ∧
      ((x = none ∧ n = 0) ∨ (∃ p, x = some p ∧ ∀ (j : Nat) u, news[j]? = some u → W.cell? (p.add j) = some u)) := by
  have nil : ∀ (k : Blk) (o : Nat) (x : Option Addr) (n : Nat), n ≤ 0 → ∃ news : List Value, RepL (Mut F μ st) μ W (sub o (n * size) k).cells news ∧ news.length = n * size ∧ ((x = none ∧ n = 0) ∨ (∃ p, x = some p ∧ ∀ (j : Nat) u, news[j]? = some u → W.cell? (p.add j) = some u)) := fun k o x n hn => by
    obtain rfl : n = 0 := by omega
    refine ⟨[], ?_, by simp, ?_⟩
    · rw [sub_cells]; simp only [Nat.zero_mul, List.take_zero]; exact ⟨rfl, fun _ _ h => by simp at h, fun _ _ _ h => by simp at h⟩
    · cases x with
      | none => exact .inl ⟨rfl, rfl⟩
      | some p => exact .inr ⟨p, rfl, fun _ _ h => by simp at h⟩
  have row : ∀ (k : Blk) (o B m : Nat), RowAt (Mut F μ st) μ W B o (k.cells.drop q.2.1) → q.2.1 + m * size ≤ k.cells.length → ∀ n, n ≤ m → ∃ news : List Value, RepL (Mut F μ st) μ W (sub q.2.1 (n * size) k).cells news ∧ news.length = n * size ∧
      (((some (⟨B, o, none⟩ : Addr)) = none ∧ n = 0) ∨ (∃ p, some (⟨B, o, none⟩ : Addr) = some p ∧ ∀ (j : Nat) u, news[j]? = some u → W.cell? (p.add j) = some u)) := fun k o B m hr hm n hn => by
    have hle : n * size ≤ m * size := Nat.mul_le_mul_right _ hn
    obtain ⟨xs, _, hL, hc⟩ := (hr.take (n * size)).loads (P := default)
    refine ⟨xs, by rw [sub_cells]; exact hL, by rw [hL.1]; simp; omega, .inr ⟨_, rfl, fun j u hu => ?_⟩⟩
    rw [Addr.add_lit]; exact hc j u hu
  unfold viewA at hq
  split at hq
  · injection hq with hq; subst hq
    obtain ⟨x, cap, rfl, _, ⟨rfl, rfl⟩ | ⟨B, o, rfl, hB, hM, hr⟩⟩ := hv.p_inv.lst_inv
    · exact ⟨x, cap, rfl, fun n hn => nil _ _ _ n hn⟩
    · exact ⟨_, cap, rfl, row _ o B _ (by simpa [Blk.cells] using hr.row) hl⟩
  · injection hq with hq; subst hq
    obtain rfl := hv.v_inv
    exact ⟨none, 0, rfl, fun n hn => nil _ _ _ n hn⟩
  · rename_i b o n k'
    simp only [Option.map_eq_some_iff] at hq
    obtain ⟨k, hk, rfl⟩ := hq
    rcases hv.sl_inv with ⟨rfl, rfl, rfl⟩ | ⟨B, cap, el, c, rfl, hb, hn, hm, hc, hs⟩
    · exact ⟨none, 0, rfl, fun n hn => nil _ _ _ n hn⟩
    · obtain ⟨_, _, _, _, _, hr⟩ := hS.row hk hb
      refine ⟨_, cap, rfl, row k _ B _ ?_ hl⟩
      have h2 := hr.drop o
      rw [Nat.zero_add] at h2
      exact h2
  · cases hq
theorem splice_get (c : Array Value) (o : Nat) (vs : List Value) (h : o + vs.length ≤ c.size) (j : Nat) (hj : j < c.size) :
    (c.toList.take (o + 0) ++ vs ++ c.toList.drop (o + 0 + vs.length)).toArray.getD j undef = if o ≤ j ∧ j < o + vs.length then vs.getD (j - o) undef else c.getD j undef := by
  have hm : min o c.size = o := by omega
  simp only [Nat.add_zero, Array.getD_eq_getD_getElem?, List.getElem?_toArray, List.append_assoc, List.getD_eq_getElem?_getD]
  rw [List.getElem?_append, List.getElem?_append]
  simp only [List.length_take, Array.length_toList, hm, List.getElem?_take, List.getElem?_drop]
  by_cases h1 : j < o
  · rw [if_pos h1, if_pos h1, if_neg (by omega)]; simp
  · rw [if_neg h1]
    by_cases h2 : j - o < vs.length
    · rw [if_pos h2, if_pos (by omega)]
    · rw [if_neg h2, if_neg (by omega), show o + vs.length + (j - o - vs.length) = j by omega]; simp
theorem RepS.rename (h : RepS F μ st W) {b B : Nat} {k : Blk} (hk : st b = some k) (hB : μ b = some B) (hn : μ new = none) (hs : st new = none) :
    RepS F (upd1 μ new (some B)) (upd1 (upd1 st b none) new (some k)) W ∧ Ext F (Mut F μ st) μ W (Mut F (upd1 μ new (some B)) (upd1 (upd1 st b none) new (some k))) (upd1 μ new (some B)) W := by
  have hbn : b ≠ new := fun e => by subst e; rw [hs] at hk; cases hk
  have get : ∀ b', upd1 (upd1 st b none) new (some k) b' ≠ none → (b' = new) ∨ (b' ≠ new ∧ b' ≠ b ∧ st b' ≠ none) := fun b' hb' => by
    by_cases e : b' = new
    · exact .inl e
    · rw [upd1_ne _ _ _ e] at hb'
      by_cases e' : b' = b
      · subst e'; rw [upd1_same] at hb'; exact absurd rfl hb'
      · rw [upd1_ne _ _ _ e'] at hb'; exact .inr ⟨e, e', hb'⟩
  have ext : Ext F (Mut F μ st) μ W (Mut F (upd1 μ new (some B)) (upd1 (upd1 st b none) new (some k))) (upd1 μ new (some B)) W := by
    refine ⟨Nat.le_refl _, fun _ _ _ => rfl, fun _ c _ hc => ⟨c, hc, rfl⟩, fun b' B' hb => ?_, fun B' _ hm => ?_, rfl, rfl, rfl, fun _ _ => rfl⟩
    · rw [upd1_ne _ _ _ (fun e => by subst e; rw [hn] at hb; cases hb)]; exact hb
    · rcases hm with hm | ⟨b', h1, h2⟩
      · exact .inl hm
      · rcases get b' h1 with rfl | ⟨e, _, h3⟩
        · rw [upd1_same] at h2; injection h2 with h2; subst h2; exact .inr ⟨b, by rw [hk]; simp, hB⟩
        · rw [upd1_ne _ _ _ e] at h2; exact .inr ⟨b', h3, h2⟩
  refine ⟨⟨fun b' k' hk' => ?_, fun b1 b2 B' h1 h2 h3 h4 => ?_, h.low⟩, ext⟩
  · rcases get b' (by rw [hk']; simp) with rfl | ⟨e, e', _⟩
    · rw [upd1_same] at hk'; injection hk' with hk'; subst hk'
      rcases h.at_ b k hk with ⟨h0, _⟩ | ⟨B', c, hB', hF, hc, hl, h1, hr⟩
      · rw [h0] at hB; cases hB
      · rw [hB'] at hB; injection hB with hB; subst hB
        exact .inr ⟨B', c, upd1_same _ _ _, hF, hc, hl, h1, fun j a ha => (hr j a ha).ext ext⟩
    · rw [upd1_ne _ _ _ e, upd1_ne _ _ _ e'] at hk'
      rcases h.at_ b' k' hk' with ⟨h0, h0'⟩ | ⟨B', c, hB', hF, hc, hl, h1, hr⟩
      · exact .inl ⟨by rw [upd1_ne _ _ _ e]; exact h0, h0'⟩
      · exact .inr ⟨B', c, by rw [upd1_ne _ _ _ e]; exact hB', hF, hc, hl, h1, fun j a ha => (hr j a ha).ext ext⟩
  · rcases get b1 h1 with rfl | ⟨e1, e1', s1⟩ <;> rcases get b2 h2 with rfl | ⟨e2, e2', s2⟩
    · rfl
    · rw [upd1_same] at h3; injection h3 with h3; subst h3
      rw [upd1_ne _ _ _ e2] at h4
      exact absurd (h.inj b2 b B s2 (by rw [hk]; simp) h4 hB) e2'
    · rw [upd1_same] at h4; injection h4 with h4; subst h4
      rw [upd1_ne _ _ _ e1] at h3
      exact absurd (h.inj b1 b B s1 (by rw [hk]; simp) h3 hB) e1'
    · rw [upd1_ne _ _ _ e1] at h3; rw [upd1_ne _ _ _ e2] at h4
      exact h.inj b1 b2 B' s1 s2 h3 h4
theorem RepS.empty (h : RepS F μ st W) (hn : μ new = none) {k : Blk} (hk : k.cells = []) : RepS F μ (upd1 st new (some k)) W ∧ Ext F (Mut F μ st) μ W (Mut F μ (upd1 st new (some k))) μ W := by
  have get : ∀ b' B, upd1 st new (some k) b' ≠ none → μ b' = some B → st b' ≠ none := fun b' B hb' hB => by
    by_cases e : b' = new
    · subst e; rw [hn] at hB; cases hB
    · rwa [upd1_ne _ _ _ e] at hb'
  have ext : Ext F (Mut F μ st) μ W (Mut F μ (upd1 st new (some k))) μ W :=
    ⟨Nat.le_refl _, fun _ _ _ => rfl, fun _ c _ hc => ⟨c, hc, rfl⟩, fun _ _ hb => hb, fun B _ hm => hm.imp id (fun ⟨b', h1, h2⟩ => ⟨b', get b' B h1 h2, h2⟩), rfl, rfl, rfl, fun _ _ => rfl⟩
  refine ⟨⟨fun b' k' hk' => ?_, fun b1 b2 B h1 h2 h3 h4 => h.inj b1 b2 B (get _ _ h1 h3) (get _ _ h2 h4) h3 h4, h.low⟩, ext⟩
  by_cases e : b' = new
  · subst e; rw [upd1_same] at hk'; injection hk' with hk'; subst hk'; exact .inl ⟨hn, hk⟩
  · rw [upd1_ne _ _ _ e] at hk'
    rcases h.at_ b' k' hk' with h0 | ⟨B, c, hB, hF, hc, hl, h1, hr⟩
    · exact .inl h0
    · exact .inr ⟨B, c, hB, hF, hc, hl, h1, fun j a ha => (hr j a ha).ext ext⟩
theorem Does.after_kill (hS : RepS F μ st W) {b : Nat} {s : Sem Next} {a : AV} {u : List (Nat × Option Blk)} {rd rd' : List Nat} (h : RepS F μ (upd1 st b none) W → Does P F μ (upd1 st b none) W new s ⟨a, u, rd⟩) : Does P F μ st W new s ⟨a, (b, none) :: u, rd'⟩ := by
  obtain ⟨hS1, hE1⟩ := hS.kill b
  obtain ⟨v, W', μ', hr, hS', hA, hE, hμ⟩ := h hS1
  exact ⟨v, W', μ', hr, hS', hA, hE1.trans hE, hμ⟩
theorem src_of {size : Nat} {t e : TypeId} (hk : P.underlying t = some (.slice e)) {x : Option Addr} {n cap : Nat} {news : List Value} {M : Nat → Prop} {cs : List AV} (hL : RepL M μ W cs news) (hl : news.length = n * size)
    (h : (x = none ∧ n = 0) ∨ (∃ p, x = some p ∧ ∀ (j : Nat) u, news[j]? = some u → W.cell? (p.add j) = some u)) : Src P size t (.slice x n cap) n news W := by
  have one : ∀ u ∈ news, u.oneCell' = true := fun u hu => by
    obtain ⟨j, hj⟩ := List.getElem?_of_mem hu
    exact hL.2.1 j u hj
  rcases h with ⟨rfl, rfl⟩ | ⟨p, rfl, hc⟩
  · obtain rfl : news = [] := List.eq_nil_of_length_eq_zero (by simpa using hl)
    exact .ofNil W hk cap
  · exact .ofSlice W hk p n cap news hl hc one
/-- append onto a slice that is not there. -/
theorem append_nil (hT : TOK P T) (hS : RepS F μ st W) (hn : μ new = none) (hs : st new = none) {t e : Nat} {y z : Ty} (hy : T t = some y) (he : y.elem = some e) (hz : T e = some z) (h0 : z.size ≠ 0) {ty : TypeId} {v : Value} {m : Nat} {news : List Value} {k : Blk}
    (hsrc : Src P z.size t v m news W) (hL : RepL (Mut F μ st) μ W k.cells news) (hel : k.el = e) (hb : m * z.bytes ≤ 140737488355328) (hm : m ≤ 140737488351232) :
    Does P F μ st W new (do pure (Next.value (← Builtin.append_ #[t, t] ty #[.slice none 0 0, v]))) ⟨.sl new 0 m z.size, [(new, some k)], []⟩ := by
  have hF := hT.facts hz
  obtain ⟨i, zv, hi, his, hib, hzv, hzc⟩ := hF.info
  have hu := (hT.facts hy).elem e he
  have hzs : zv.cells.size = z.size := by rw [← hF.len, ← hzc]; simp
  by_cases hm0 : m = 0
  · subst hm0
    obtain rfl : news = [] := List.eq_nil_of_length_eq_zero (by simpa using hsrc.newsLen)
    have hk : k.cells = [] := List.eq_nil_of_length_eq_zero hL.1.symm
    obtain ⟨h1, h2⟩ := hS.empty hn hk
    exact ⟨_, W, μ, .inl (run_v (run_append_nothing W t t ty e i hu hi none 0 0 (Nat.le_refl _) v (by rw [his]; exact hsrc))), h1, .sl0 _ _, h2, fun _ _ => rfl⟩
  · have hr := run_append_grow_src (P := P) W t t ty e i zv hu hi hzv none 0 0 [] (run_firstCells_none _ _ _ _ _) v m news (by rw [his]; exact hsrc) (by omega) (by omega) (growslice_fits (by omega) (by rw [hib]; simpa using hb))
    simp only [Nat.zero_add, List.nil_append] at hr
    have hge := grownCap_ge W m 0 e
    have hsz : (news.toArray ++ Builtin.zeroCells zv.cells (grownCap W m 0 e - m)).size = grownCap W m 0 e * z.size := by
      rw [Array.size_append, size_zeroCells, hzs]
      simp only [List.size_toArray, hsrc.newsLen, ← Nat.add_mul]
      congr 1; omega
    have hkl : k.cells.length = news.length := hL.1.symm
    refine .slice hS hn hs (run_v hr) rfl rfl rfl rfl hel ?_ ?_ hge (grownCap_le_maxLen W m 0 e (by unfold maxLen; omega)) hsz.symm
    · rw [hkl, hsz, hsrc.newsLen]; exact Nat.mul_le_mul_right _ hge
    · rw [hkl]
      simpa using hL
end ops
end Go.Proofs.YtalklhbdpmggjaaDoor.Pw
namespace Go.Proofs.YtalklhbdpmggjaaDoor.Pw
open Go Go.RowKit
section ops
variable {P : Program} {T : Tab} {F : Nat → Prop} {μ : Nat → Option Nat} {st : Store} {W : World} {new : Nat}
theorem RepL.ext {M M' : Nat → Prop} {μ' : Nat → Option Nat} {W' : World} (h : Ext F M μ W M' μ' W') {cs : List AV} {xs : List Value} (r : RepL M μ W cs xs) : RepL M' μ' W' cs xs :=
  ⟨r.1, r.2.1, fun j a x ha hx => (r.2.2 j a x ha hx).ext h⟩
theorem RepS.same (h : RepS F μ st W) {b : Nat} {k k' : Blk} (hk : st b = some k) (hc : k'.cells = k.cells) (he : k'.el = k.el) : RepS F μ (upd1 st b (some k')) W ∧ Ext F (Mut F μ st) μ W (Mut F μ (upd1 st b (some k'))) μ W := by
  have get : ∀ b', upd1 st b (some k') b' ≠ none → st b' ≠ none := fun b' hb' => by
    by_cases e : b' = b
    · subst e; rw [hk]; simp
    · rwa [upd1_ne _ _ _ e] at hb'
  have ext : Ext F (Mut F μ st) μ W (Mut F μ (upd1 st b (some k'))) μ W :=
    ⟨Nat.le_refl _, fun _ _ _ => rfl, fun _ c _ hc => ⟨c, hc, rfl⟩, fun _ _ hb => hb, fun B _ hm => hm.imp id (fun ⟨b', h1, h2⟩ => ⟨b', get b' h1, h2⟩), rfl, rfl, rfl, fun _ _ => rfl⟩
  refine ⟨⟨fun b' k0 hk0 => ?_, fun b1 b2 B h1 h2 h3 h4 => h.inj b1 b2 B (get _ h1) (get _ h2) h3 h4, h.low⟩, ext⟩
  by_cases e : b' = b
  · subst e; rw [upd1_same] at hk0; injection hk0 with hk0; subst hk0
    rw [hc, he]
    rcases h.at_ b' k hk with h0 | ⟨B, c, hB, hF, hcc, hl, h1, hr⟩
    · exact .inl h0
    · exact .inr ⟨B, c, hB, hF, hcc, hl, h1, fun j a ha => (hr j a ha).ext ext⟩
  · rw [upd1_ne _ _ _ e] at hk0
    rcases h.at_ b' k0 hk0 with h0 | ⟨B, c, hB, hF, hcc, hl, h1, hr⟩
    · exact .inl h0
    · exact .inr ⟨B, c, hB, hF, hcc, hl, h1, fun j a ha => (hr j a ha).ext ext⟩
theorem append_own (hT : TOK P T) (hS : RepS F μ st W) (hn : μ new = none) (hs : st new = none) {t e : Nat} {y z : Ty} (hy : T t = some y) (he : y.elem = some e) (hz : T e = some z) (h0 : z.size ≠ 0) {ty : TypeId} {v u : Value} {m n b : Nat} {news : List Value} {d k : Blk} {cs : List AV} {rd : List Nat}
    (hsrc : Src P z.size t v m news W) (hL : RepL (Mut F μ st) μ W cs news) (hd : st b = some d) (hdl : d.cells.length = n * z.size) (hde : d.el = e) (hu : RepA (Mut F μ st) μ W (.sl b 0 n z.size) u) (hk : k.cells = d.cells ++ cs) (hel : k.el = e)
    (hb : (n + m) * z.bytes ≤ 140737488355328) (hm : n + m ≤ 140737488351232) :
    Does P F μ st W new (do pure (Next.value (← Builtin.append_ #[t, t] ty #[u, v]))) ⟨.sl new 0 (n + m) z.size, [(b, none), (new, some k)], rd⟩ := by
  have hF := hT.facts hz
  obtain ⟨i, zv, hi, his, hib, hzv, hzc⟩ := hF.info
  have hund := (hT.facts hy).elem e he
  have hzs : zv.cells.size = z.size := by rw [← hF.len, ← hzc]; simp
  have hbn : new ≠ b := fun e => by subst e; rw [hs] at hd; cases hd
  have hs1 : upd1 st b none new = none := by rw [upd1_ne _ _ _ hbn]; exact hs
  have hE1 := (hS.kill b).2
  rcases hu.sl_inv with ⟨rfl, _, rfl⟩ | ⟨B, cap, el, c, rfl, hB, hnc, hcm, hc, hcs⟩
  · have hd0 : d.cells = [] := List.eq_nil_of_length_eq_zero (by simpa using hdl)
    rw [hd0, List.nil_append] at hk
    rw [Nat.zero_add] at hb hm ⊢
    exact .after_kill (rd := []) hS fun hS1 => append_nil hT hS1 hn hs1 hy he hz h0 hsrc (by rw [hk]; exact hL.ext hE1) hel hb hm
  · obtain ⟨c', hc', hcl, hc1, hcr, hrow⟩ := hS.row hd hB
    rw [hc] at hc'; injection hc' with hc'; injection hc' with e1 e2; subst e1; subst e2
    have hcs' : cap * z.size = c.size := by simpa using hcs
    by_cases hroom : n + m ≤ cap
    · have hfit : n * z.size + news.length ≤ c.size := by rw [hsrc.newsLen, ← hcs', ← Nat.add_mul]; exact Nat.mul_le_mul_right _ hroom
      have hst := run_storeCells_at P B (n * z.size) d.el news 0 c W hc (by simpa using hfit) hsrc.one
      have hrun : (Builtin.append_ #[t, t] ty #[.slice (some ⟨B, 0, none⟩) n cap, v]).run P W = .ok (.slice (some ⟨B, 0, none⟩) (n + m) cap) (W.setRow B (c.toList.take (n * z.size + 0) ++ news ++ c.toList.drop (n * z.size + 0 + news.length)).toArray) := by
        simp only [Nat.add_zero] at hst ⊢
        simp [Builtin.append_, run_underlying hund, sizeOf, typeInfo, hi, his, hsrc.len, hroom, hsrc.cells, Addr.add_lit, hst]
      have hsz : (c.toList.take (n * z.size + 0) ++ news ++ c.toList.drop (n * z.size + 0 + news.length)).toArray.size = c.size := by simp; omega
      have hkl : k.cells.length = n * z.size + news.length := by rw [hk, List.length_append, hdl, hL.1]
      obtain ⟨hS2, hE2⟩ := hS.write (k' := k) (c' := (c.toList.take (n * z.size + 0) ++ news ++ c.toList.drop (n * z.size + 0 + news.length)).toArray) hd hB hc hsz (by rw [hel, hde]) (by rw [hsz, hkl]; exact hfit) (fun j hj => by
        rw [splice_get c (n * z.size) news hfit j (by omega)]
        split
        · rename_i hjj
          have : j - n * z.size < news.length := by omega
          rw [List.getD_eq_getElem?_getD, List.getElem?_eq_getElem this]
          exact hsrc.one _ (List.getElem_mem _)
        · exact hc1 j (by omega)) (fun j a ha => by
        have hj : j < k.cells.length := (List.getElem?_eq_some_iff.1 ha).1
        rw [splice_get c (n * z.size) news hfit j (by omega)]
        rw [hk, List.getElem?_append] at ha
        split at ha
        · rename_i hj1
          rw [if_neg (by omega)]; exact hcr j a ha
        · rename_i hj1
          rw [if_pos (by omega)]
          have : j - n * z.size < news.length := by omega
          rw [hdl] at ha
          rw [List.getD_eq_getElem?_getD, List.getElem?_eq_getElem this]
          exact hL.2.2 _ a _ ha (List.getElem?_eq_getElem this))
      obtain ⟨hS3, hE3⟩ := hS2.rename (new := new) (k := k) (upd1_same _ _ _) hB hn (by rw [upd1_ne _ _ _ hbn]; exact hs)
      have hupd : upd1 (upd1 (upd1 st b (some k)) b none) new (some k) = upds st [(b, none), (new, some k)] := by
        funext i
        show upd1 (upd1 (upd1 st b (some k)) b none) new (some k) i = upd1 (upd1 st b none) new (some k) i
        by_cases e1 : i = new
        · simp [upd1, e1]
        · by_cases e2 : i = b <;> simp [upd1, e1, e2]
      rw [hupd] at hS3 hE3
      refine ⟨_, _, _, .inl (run_v hrun), hS3, .sl new 0 (n + m) z.size B cap d.el _ (upd1_same _ _ _) hroom hcm (setRow_heap W B _ _ _ _ hc) (by rw [hsz]; omega), hE2.trans hE3, fun b' hb' => upd1_ne _ _ _ hb'⟩
    · refine .after_kill (rd := []) hS fun hS1 => ?_
      have hrow' := hrow.loads (P := P)
      obtain ⟨olds, _, hoL, hoc⟩ := hrow'
      have hol : olds.length = n * i.size := by rw [hoL.1, hdl, his]
      have hfirst := run_firstCells_some (P := P) W.drew i.size n ⟨B, 0, none⟩ n cap olds hol (fun j v hv => by rw [Addr.add_lit]; exact hoc j v hv)
      have hr := run_append_grow_src (P := P) W t t ty e i zv hund hi hzv (some ⟨B, 0, none⟩) n cap olds hfirst v m news (by rw [his]; exact hsrc) (by omega) (by omega) (growslice_fits (by omega) (by rw [hib]; exact hb))
      have hge := grownCap_ge W (n + m) cap e
      have hsz : ((olds ++ news).toArray ++ Builtin.zeroCells zv.cells (grownCap W (n + m) cap e - (n + m))).size = grownCap W (n + m) cap e * z.size := by
        rw [Array.size_append, size_zeroCells, hzs]
        simp only [List.size_toArray, List.length_append, hsrc.newsLen, hol, his, ← Nat.add_mul]
        congr 1; omega
      have hkl : k.cells.length = (olds ++ news).length := by rw [hk]; simp [hL.1, hoL.1]
      refine .slice (rd := []) hS1 hn hs1 (run_v hr) rfl rfl rfl rfl hel ?_ ?_ hge (grownCap_le_maxLen W (n + m) cap e (by unfold maxLen; omega)) hsz.symm
      · rw [hkl, hsz, List.length_append, hol, hsrc.newsLen, his, ← Nat.add_mul]; exact Nat.mul_le_mul_right _ hge
      · have htake : (((olds ++ news).toArray ++ Builtin.zeroCells zv.cells (grownCap W (n + m) cap e - (n + m))).toList.take k.cells.length) = olds ++ news := by
          rw [hkl, Array.toList_append]
          exact List.take_left
        rw [htake, hk]
        refine ⟨by simp [hL.1, hoL.1], fun j x hx => ?_, fun j a x ha hx => ?_⟩
        · rw [List.getElem?_append] at hx
          split at hx
          · exact hoL.2.1 j x hx
          · exact hL.2.1 _ x hx
        · rw [List.getElem?_append] at hx ha
          rw [hoL.1] at hx
          split at hx
          · rename_i hj; rw [if_pos hj] at ha; exact (hoL.2.2 j a x ha hx).ext hE1
          · rename_i hj; rw [if_neg hj] at ha; exact (hL.2.2 _ a x ha hx).ext hE1
theorem does_append (hT : TOK P T) (hS : RepS F μ st W) (hn : μ new = none) (hs : st new = none) {t e : Nat} {y z : Ty} (hy : T t = some y) (he : y.elem = some e) (hz : T e = some z) (h0 : z.size ≠ 0) {ty : TypeId} {a : AV} {v u : Value} {q : Nat × Nat × Blk × List Nat} (hq : viewA st a = some q) (hv : RepA (Mut F μ st) μ W a v)
    (hl : q.2.1 + q.1 * z.size ≤ q.2.2.1.cells.length) :
    (u = .slice none 0 0 → q.1 * z.bytes ≤ 140737488355328 → q.1 ≤ 140737488351232 →
      Does P F μ st W new (do pure (Next.value (← Builtin.append_ #[t, t] ty #[u, v]))) ⟨.sl new 0 q.1 z.size, [(new, some (joinB e (.pc e []) (sub q.2.1 (q.1 * z.size) q.2.2.1)))], q.2.2.2⟩) ∧
    (∀ (n b : Nat) (d : Blk) (rd : List Nat), st b = some d → d.el = e → d.cells.length = n * z.size → RepA (Mut F μ st) μ W (.sl b 0 n z.size) u → (n + q.1) * z.bytes ≤ 140737488355328 → n + q.1 ≤ 140737488351232 →
      Does P F μ st W new (do pure (Next.value (← Builtin.append_ #[t, t] ty #[u, v]))) ⟨.sl new 0 (n + q.1) z.size, [(b, none), (new, some (joinB e d (sub q.2.1 (q.1 * z.size) q.2.2.1)))], rd⟩) := by
  obtain ⟨x, cap, rfl, hx⟩ := view_row hS hq hv hl
  obtain ⟨news, hL, hnl, hnx⟩ := hx q.1 (Nat.le_refl _)
  have hsrc := src_of (P := P) (cap := cap) ((hT.facts hy).elem e he) hL hnl hnx
  constructor
  · rintro rfl h1 h2
    obtain ⟨v', W', μ', h⟩ := append_nil (ty := ty) (k := joinB e (.pc e []) (sub q.2.1 (q.1 * z.size) q.2.2.1)) hT hS hn hs hy he hz h0 hsrc (by rw [joinB_cells]; simpa [Blk.cells] using hL) (joinB_el _ _ _) h1 h2
    exact ⟨v', W', μ', h⟩
  · intro n b d rd hd hde hdl hu h1 h2
    exact append_own hT hS hn hs hy he hz h0 hsrc hL hd hdl hde hu (joinB_cells _ _ _) (joinB_el _ _ _) h1 h2
theorem does_copy (hT : TOK P T) (hS : RepS F μ st W) {t t' e : Nat} {y z : Ty} (hy : T t = some y) (he : y.elem = some e) (hz : T e = some z) {ty : TypeId} {a : AV} {v u : Value} {q : Nat × Nat × Blk × List Nat} (hq : viewA st a = some q) (hv : RepA (Mut F μ st) μ W a v)
    (hl : q.2.1 + q.1 * z.size ≤ q.2.2.1.cells.length) {n b o : Nat} {d : Blk} {rd : List Nat} (hd : st b = some d) (hdl : o + n * z.size ≤ d.cells.length) (hu : RepA (Mut F μ st) μ W (.sl b o n z.size) u) :
    Does P F μ st W new (do pure (Next.value (← Builtin.copy_ #[t, t'] ty #[u, v]))) ⟨.p (.v (.int .i64 (min q.1 n : Nat))), [(b, some (overB o (sub q.2.1 ((min q.1 n) * z.size) q.2.2.1) d))], rd⟩ := by
  have hF := hT.facts hz
  obtain ⟨i, zv, hi, his, hib, hzv, hzc⟩ := hF.info
  have hund := (hT.facts hy).elem e he
  obtain ⟨x, cap, rfl, hx⟩ := view_row hS hq hv hl
  obtain ⟨news, hL, hnl, hnx⟩ := hx (min q.1 n) (Nat.min_le_left _ _)
  have hfirst : (Builtin.firstCells i.size (min q.1 n) (.slice x q.1 cap)).run P W = .ok news.toArray W := by
    rcases hnx with ⟨rfl, hn0⟩ | ⟨p, rfl, hc⟩
    · obtain rfl : news = [] := List.eq_nil_of_length_eq_zero (by rw [hnl, hn0]; simp)
      rw [run_firstCells_none]
    · exact run_firstCells_some W i.size _ p _ _ news (by rw [his]; exact hnl) hc
  have hcl : (sub q.2.1 ((min q.1 n) * z.size) q.2.2.1).cells.length = (min q.1 n) * z.size := by rw [← hL.1, hnl]
  have hle : (min q.1 n) * z.size ≤ n * z.size := Nat.mul_le_mul_right _ (Nat.min_le_right _ _)
  have hover : (overB o (sub q.2.1 ((min q.1 n) * z.size) q.2.2.1) d).cells = lay o (sub q.2.1 ((min q.1 n) * z.size) q.2.2.1).cells d.cells := by
    rw [overB_cells, lay_eq _ _ _ (by rw [hcl]; omega)]
  have hmin : Nat.min q.1 n = min q.1 n := rfl
  rcases hu.sl_inv with ⟨rfl, rfl, rfl⟩ | ⟨B, cap', el, c, rfl, hB, hnc, hcm, hc, hcs⟩
  · have h0 : min q.1 0 = 0 := by omega
    obtain ⟨h1, h2⟩ := hS.same (k' := overB 0 (sub q.2.1 ((min q.1 0) * z.size) q.2.2.1) d) hd (by rw [hover, h0, sub_cells]; simp [lay]) (overB_el _ _ _)
    refine ⟨_, W, μ, .inl (run_v (v := .int .i64 (min q.1 0 : Nat)) ?_), h1, .p _ _ (.v _ rfl), h2, fun _ _ => rfl⟩
    rw [h0] at hfirst
    simp [Builtin.copy_, run_underlying hund, Builtin.lenOf, sizeOf, typeInfo, hi, hmin, hfirst, goInt]
  · obtain ⟨W', hr, hS', hE⟩ := hS.put (P := P) (o := o) hd hB hL (by rw [hcl]; omega) hover (overB_el _ _ _)
    refine ⟨_, W', μ, .inl (run_v (v := .int .i64 (min q.1 n : Nat)) ?_), hS', .p _ _ (.v _ rfl), hE, fun _ _ => rfl⟩
    simp [Builtin.copy_, run_underlying hund, Builtin.lenOf, sizeOf, typeInfo, hi, hmin, hfirst, goInt, hr]
end ops
end Go.Proofs.YtalklhbdpmggjaaDoor.Pw
namespace Go.Proofs.YtalklhbdpmggjaaDoor.Pw
open Go Go.RowKit
section ops
variable {P : Program} {T : Tab} {F : Nat → Prop} {μ : Nat → Option Nat} {st : Store} {W : World} {new : Nat}
theorem pure1_eq {x : AV} {e : Eff} {c : Prop} (h : pure1 x = some (e, c)) : e = ⟨x, [], []⟩ := by
  unfold pure1 at h; injection h with h; injection h with h _; exact h.symm
theorem Does.rd {s : Sem Next} {a : AV} {u : List (Nat × Option Blk)} {rd rd' : List Nat} (h : Does P F μ st W new s ⟨a, u, rd⟩) : Does P F μ st W new s ⟨a, u, rd'⟩ := h
theorem builtin_run {b : Builtin} {args : Array Operand} {ts : Array TypeId} {ρ : Operand → Value} {dst ty pos after guard} :
    execOp ρ { dst, op := .call { callee := .builtin b, args, argTypes := ts }, type := ty, pos, after, guard } = builtin b ts ty (args.map fun | .const _ => true | _ => false) (args.map ρ) := rfl
theorem ints_some {a : AV} {q : IntKind × Int} (h : ints a = some q) : a = .p (.v (.int q.1 q.2)) := by
  unfold ints at h
  split at h
  · injection h with h; subst h; rfl
  · cases h
theorem pop_call_sound (hT : TOK P T) (hS : RepS F μ st W) (hn : μ new = none) (hs : st new = none) {cl : Call} {dst : Option Tmp} {ty : TypeId} {pos : String} {after : Array Edge} {guard : Option (Nat × Bool)} {ρA : Operand → AV} {ρ : Operand → Value}
    (hρ : ∀ x ∈ cl.operands, RepA (Mut F μ st) μ W (ρA x) (ρ x)) {e : Eff} {c : Prop} (h : pop T (.call cl) ρA st new = some (e, c)) (hc : c) :
    Does P F μ st W new (execOp ρ { dst, op := .call cl, type := ty, pos, after, guard }) e := by
  obtain ⟨callee, args, ts⟩ := cl
  obtain ⟨args⟩ := args
  obtain ⟨ts⟩ := ts
  cases callee with
  | value f => simp [pop] at h
  | invoke r m => simp [pop] at h
  | builtin b =>
    have hρ' : ∀ x ∈ args, RepA (Mut F μ st) μ W (ρA x) (ρ x) := fun x hx => hρ x (by simp [Call.operands, hx])
    rw [builtin_run]
    cases b <;> simp only [pop, reduceCtorEq] at h
    case len =>
      split at h <;> try cases h
      rename_i x t
      simp only [Option.bind_eq_some_iff] at h
      obtain ⟨y, hy, h⟩ := h
      have hx := hρ' x (by simp)
      have len : ∀ (a : Option Addr) (n cap : Nat) el, y.elem = some el → ρ x = .slice a n cap → (builtin .len #[t] ty (#[x].map fun | .const _ => true | _ => false) (#[x].map ρ)).run P W = .ok (.value (.int .i64 n)) W := fun a n cap el hel hv => by
        have hu := (hT.facts hy).elem el hel
        simp [builtin, Builtin.len_, hv, run_underlying hu, goInt]
      split at h
      · rename_i el n cs hel hxa
        rw [hxa] at hx
        rw [pure1_eq h]
        obtain ⟨a, cap, hv, _⟩ := hx.p_inv.lst_inv
        exact .value hS (len a n cap el hel hv) (.p _ _ (.v _ rfl))
      · rename_i el b o n k hel hxa
        rw [hxa] at hx
        rw [pure1_eq h]
        rcases hx.sl_inv with ⟨hv, _, rfl⟩ | ⟨B, cap, _, _, hv, _⟩
        · exact .value hS (len none 0 0 el hel hv) (.p _ _ (.v _ rfl))
        · exact .value hS (len _ n cap el hel hv) (.p _ _ (.v _ rfl))
      · rename_i el hel hxa
        rw [hxa] at hx
        rw [pure1_eq h]
        exact .value hS (len none 0 0 el hel hx.v_inv) (.p _ _ (.v _ rfl))
      · rename_i s hel hxa
        split at h
        · rename_i hstr
          rw [hxa] at hx
          rw [pure1_eq h]
          have hu := (hT.facts hy).str hstr
          refine .value (v := .int .i64 s.size) hS ?_ (.p _ _ (.v _ rfl))
          simp [builtin, Builtin.len_, hx.v_inv, run_underlying hu, goInt]
        · cases h
      · cases h
    case max =>
      split at h <;> try cases h
      rename_i x y
      simp only [Option.bind_eq_some_iff] at h
      obtain ⟨a, ha, b, hb, h⟩ := h
      rw [pure1_eq h]
      have h1 := ints_inv ha (hρ' x (by simp)); have h2 := ints_inv hb (hρ' y (by simp))
      refine .value (v := .int a.1 (if b.2 > a.2 then b.2 else a.2)) hS ?_ (.p _ _ (.v _ rfl))
      simp [builtin, Builtin.max_, h1, h2, Builtin.max2]
    case min =>
      split at h <;> try cases h
      rename_i x y
      simp only [Option.bind_eq_some_iff] at h
      obtain ⟨a, ha, b, hb, h⟩ := h
      rw [pure1_eq h]
      have h1 := ints_inv ha (hρ' x (by simp)); have h2 := ints_inv hb (hρ' y (by simp))
      refine .value (v := .int a.1 (if b.2 < a.2 then b.2 else a.2)) hS ?_ (.p _ _ (.v _ rfl))
      simp [builtin, Builtin.min_, h1, h2, Builtin.min2]
    case append =>
      split at h <;> try cases h
      rename_i x y t t'
      split at h <;> try cases h
      rename_i htt
      simp only [beq_iff_eq] at htt; subst htt
      simp only [Option.bind_eq_some_iff] at h
      obtain ⟨u, hu, el, hel, z, hz, h⟩ := h
      split at h <;> try cases h
      rename_i h0
      simp only [Option.bind_eq_some_iff] at h
      obtain ⟨q, hq, h⟩ := h
      have hx := hρ' x (by simp)
      have hy := hρ' y (by simp)
      have h0' : z.size ≠ 0 := by simpa using h0
      split at h
      · rename_i hxa
        rw [hxa] at hx
        injection h with h; injection h with h1 h2; subst h1; subst h2
        have := (does_append (ty := ty) hT hS hn hs hu hel hz h0' hq hy hc.1).1 hx.v_inv hc.2.1 hc.2.2
        simpa [builtin] using this
      · rename_i b n k hxa
        split at h <;> try cases h
        rename_i hk
        simp only [Bool.and_eq_true, beq_iff_eq] at hk
        obtain ⟨rfl, _⟩ := hk
        simp only [Option.bind_eq_some_iff] at h
        obtain ⟨d, hd, h⟩ := h
        split at h <;> try cases h
        rename_i hde
        rw [hxa] at hx
        have := (does_append (ty := ty) hT hS hn hs hu hel hz h0' hq hy hc.2.1).2 n b d (b :: q.2.2.2) hd (by simpa using hde) hc.1 hx hc.2.2.1 hc.2.2.2
        simpa [builtin] using this
      · cases h
    case copy =>
      split at h <;> try cases h
      rename_i x y t t'
      simp only [Option.bind_eq_some_iff] at h
      obtain ⟨u, hu, el, hel, z, hz, h⟩ := h
      split at h <;> try cases h
      simp only [Option.bind_eq_some_iff] at h
      obtain ⟨q, hq, h⟩ := h
      have hx := hρ' x (by simp)
      have hy := hρ' y (by simp)
      split at h
      · rename_i b o n k hxa
        split at h <;> try cases h
        rename_i hk
        simp only [Bool.and_eq_true, beq_iff_eq] at hk
        obtain ⟨rfl, _⟩ := hk
        simp only [Option.bind_eq_some_iff] at h
        obtain ⟨d, hd, h⟩ := h
        injection h with h; injection h with h1 h2; subst h1; subst h2
        rw [hxa] at hx
        have := does_copy (new := new) (ty := ty) (t' := t') (rd := b :: q.2.2.2) hT hS hu hel hz hq hy hc.1 hd hc.2 hx
        simpa [builtin] using this
      · cases h
end ops
end Go.Proofs.YtalklhbdpmggjaaDoor.Pw
namespace Go.Proofs.YtalklhbdpmggjaaDoor.Pw
open Go Go.RowKit
section ops
variable {P : Program} {T : Tab} {F : Nat → Prop} {μ : Nat → Option Nat} {st : Store} {W : World} {new : Nat}
theorem opt_int {o : Option Operand} {ρ : Operand → Value} {ρA : Operand → AV} {M : Nat → Prop} (h : ∀ x ∈ o.toArray, RepA M μ W (ρA x) (ρ x)) {x : Operand} (hx : o = some x) {q : IntKind × Int} (hi : ints (ρA x) = some q) (h0 : 0 ≤ q.2) : ∃ k, o.map ρ = some (.int k q.2.toNat) := by
  subst hx
  have := ints_inv (k := q.1) (n := q.2) hi (h x (by simp))
  exact ⟨q.1, by simp [this, Int.toNat_of_nonneg h0]⟩
theorem pop_sound (hT : TOK P T) (hS : RepS F μ st W) (hn : μ new = none) (hs : st new = none) (o : Oper) {ρA : Operand → AV} {ρ : Operand → Value}
    (hρ : ∀ x ∈ o.op.operands, RepA (Mut F μ st) μ W (ρA x) (ρ x)) {e : Eff} {c : Prop} (h : pop T o.op ρA st new = some (e, c)) (hc : c) : Does P F μ st W new (execOp ρ o) e := by
  obtain ⟨dst, op, ty, pos, after, guard⟩ := o
  cases op with
  | call cl => exact pop_call_sound hT hS hn hs hρ h hc
  | move x => rw [pure1_eq h]; exact .value hS rfl (hρ x (by simp [Op.operands]))
  | assign x => rw [pure1_eq h]; exact .value hS rfl (hρ x (by simp [Op.operands]))
  | pick x a b =>
    have hx := hρ x (by simp [Op.operands]); have ha := hρ a (by simp [Op.operands]); have hb := hρ b (by simp [Op.operands])
    simp only [pop] at h
    split at h
    · rename_i t hxa
      rw [hxa] at hx
      have hr : (execOp ρ { dst, op := .pick x a b, type := ty, pos, after, guard }).run P W = .ok (.value (if t then ρ a else ρ b)) W := by
        simp [execOp, hx.v_inv, asBool]
      split at h
      · rename_i p q hpa hqa
        rw [hpa] at ha; rw [hqa] at hb
        rw [pure1_eq h]
        refine .value hS hr ?_
        rw [ha.v_inv, hb.v_inv]
        cases t <;> exact .p _ _ (.v _ rfl)
      · rw [pure1_eq h]
        refine .value hS hr ?_
        cases t <;> simpa
    · cases h
  | alloc el =>
    simp only [pop, Option.bind_eq_some_iff] at h
    obtain ⟨y, hy, h⟩ := h
    injection h with h; injection h with h1 h2; subst h1; subst h2
    exact does_alloc hT hS hn hs hy
  | box el x =>
    simp only [pop] at h
    split at h
    · rename_i hx
      injection h with h; injection h with h1 h2; subst h1; subst h2
      exact does_box hS hn hs hx (hρ x (by simp [Op.operands]))
    · cases h
  | build t parts =>
    simp only [pop, Option.bind_eq_some_iff] at h
    obtain ⟨y, hy, h⟩ := h
    split at h
    · rename_i hf
      simp only [Option.bind_eq_some_iff] at h
      obtain ⟨cs, hcs, h⟩ := h
      rw [pure1_eq h]
      exact does_build hT hS hy (by simp at hf; exact hf.2) (fun x hx => hρ x (by simpa [Op.operands] using hx)) hcs
    · cases h
  | buildSlice t n parts =>
    simp only [pop, Option.bind_eq_some_iff] at h
    obtain ⟨y, hy, el, hel, z, hz, h⟩ := h
    split at h
    · rename_i hf
      simp only [Option.bind_eq_some_iff] at h
      obtain ⟨cs, hcs, h⟩ := h
      injection h with h; injection h with h1 h2; subst h1; subst h2
      simp only [Bool.and_eq_true, Nat.ble_eq, Bool.not_eq_true', beq_eq_false_iff_ne] at hf
      exact does_buildSlice hT hS hn hs hy hel hz hf.1.1 hf.1.2 hf.2 (fun x hx => hρ x (by simpa [Op.operands] using hx)) hcs
    · cases h
  | load t a =>
    have ha := hρ a (by simp [Op.operands])
    simp only [pop, Option.bind_eq_some_iff] at h
    obtain ⟨y, hy, h⟩ := h
    split at h
    · cases h
    · rename_i h0
      have h0' : y.size ≠ 0 := by simpa using h0
      split at h
      · rename_i b o hxa
        rw [hxa] at ha
        simp only [Option.bind_eq_some_iff] at h
        obtain ⟨k, hk, h⟩ := h
        injection h with h; injection h with h1 h2; subst h1; subst h2
        exact does_load hT hS hy h0' hk ha hc.1 hc.2
      · rename_i cs o hxa
        rw [hxa] at ha
        injection h with h; injection h with h1 h2; subst h1; subst h2
        exact does_load_pt hT hS hy h0' ha hc.1 hc.2
      · cases h
  | store t a x =>
    have ha := hρ a (by simp [Op.operands]); have hx := hρ x (by simp [Op.operands])
    simp only [pop, Option.bind_eq_some_iff] at h
    obtain ⟨y, hy, h⟩ := h
    split at h
    · rename_i hf
      simp only [Bool.and_eq_true, beq_iff_eq] at hf
      split at h
      · rename_i b o hxa
        rw [hxa] at ha
        simp only [Option.bind_eq_some_iff] at h
        obtain ⟨k, hk, h⟩ := h
        injection h with h; injection h with h1 h2; subst h1; subst h2
        exact does_store hT hS hy hk ha hf.1 hf.2 hx hc
      · cases h
    · cases h
  | nilCheck x =>
    have hx := hρ x (by simp [Op.operands])
    simp only [pop] at h
    split at h
    · rename_i b o hxa
      rw [hxa] at hx
      rw [pure1_eq h]
      obtain ⟨B, hB, hv⟩ := hx.own_inv
      refine .value hS (v := .pointer (some ⟨B, o, none⟩)) ?_ (.own _ _ _ hB)
      simp [execOp, hv]
    · rename_i cs o hxa
      rw [hxa] at hx
      rw [pure1_eq h]
      obtain ⟨B, base, hv, hB, hM, hr⟩ := hx.p_inv.pt_inv
      refine .value hS (v := .pointer (some ⟨B, base + o, none⟩)) ?_ (.p _ _ (.of_pt hB hM hr))
      simp [execOp, hv]
    · rename_i f cs hxa
      rw [hxa] at hx
      rw [pure1_eq h]
      refine .value hS (v := ρ x) ?_ hx
      simp only [execOp]
      generalize ρ x = w at hx
      cases hx with | fn _ _ xs hl hr => rfl
    · cases h
  | binOp op t x y yt =>
    have hx := hρ x (by simp [Op.operands]); have hy := hρ y (by simp [Op.operands])
    simp only [pop] at h
    split at h
    · rename_i k a k' b hxa hya
      rw [hxa] at hx; rw [hya] at hy
      split at h
      · rename_i hk
        subst hk
        simp only [Option.bind_eq_some_iff] at h
        obtain ⟨r, hr, h⟩ := h
        injection h with h; injection h with h1 h2; subst h1; subst h2
        have hrun := bin_run (P := P) (W := W) (t := t) (x := x) (y := y) (r := r.1) (c := r.2) hr hc
        refine .value hS (v := r.1) ?_ (.p _ _ (.v _ ?_))
        · simp only [execOp, hx.v_inv, hy.v_inv]; exact run_v hrun
        · cases op <;> simp only [binA, Option.some.injEq, reduceCtorEq] at hr <;> subst hr <;> rfl
      · cases h
    · rename_i a b hxa hya
      rw [hxa] at hx; rw [hya] at hy
      simp only [Option.bind_eq_some_iff] at h
      obtain ⟨z, hz, h⟩ := h
      split at h
      · rename_i hb
        have hu := (hT.facts hz).bool hb
        split at h
        · rw [pure1_eq h]
          refine .value hS (v := .bool (a == b)) ?_ (.p _ _ (.v _ rfl))
          simp only [execOp, hx.v_inv, hy.v_inv]; exact run_v (bool_run hu (.inl ⟨rfl, rfl⟩))
        · rw [pure1_eq h]
          refine .value hS (v := .bool (!(a == b))) ?_ (.p _ _ (.v _ rfl))
          simp only [execOp, hx.v_inv, hy.v_inv]; exact run_v (bool_run hu (.inr ⟨rfl, rfl⟩))
        · cases h
      · cases h
    · rename_i a b hxa hya
      rw [hxa] at hx; rw [hya] at hy
      simp only [Option.bind_eq_some_iff] at h
      obtain ⟨r, hr, h⟩ := h
      injection h with h; injection h with h1 h2; subst h1; subst h2
      have hrun := str_run (P := P) (W := W) (t := t) (x := x) (y := y) (r := r.1) (c := r.2) hr hc
      refine .value hS (v := r.1) ?_ (.p _ _ (.v _ ?_))
      · simp only [execOp, hx.v_inv, hy.v_inv]; exact run_v hrun
      · cases op <;> simp only [strA, Option.some.injEq, reduceCtorEq] at hr <;> subst hr <;> rfl
    · cases h
  | unOp op t x =>
    have hx := hρ x (by simp [Op.operands])
    simp only [pop] at h
    split at h
    · rename_i k n hxa
      rw [hxa] at hx
      rw [pure1_eq h]
      refine .value hS (v := .int k (k.wrap (0 - n))) ?_ (.p _ _ (.v _ rfl))
      simp [execOp, hx.v_inv, Op.unary, Op.intArith]
    · rename_i b hxa
      rw [hxa] at hx
      rw [pure1_eq h]
      refine .value hS (v := .bool !b) ?_ (.p _ _ (.v _ rfl))
      simp [execOp, hx.v_inv, Op.unary]
    · cases h
  | convert src dt x =>
    have hx := hρ x (by simp [Op.operands])
    simp only [pop, Option.bind_eq_some_iff] at h
    obtain ⟨y, hy, z, hz, h⟩ := h
    split at h
    · rename_i k q n hk hxa
      rw [hxa] at hx
      rw [pure1_eq h]
      obtain ⟨d, hd⟩ := (hT.facts hy).und
      have hu := (hT.facts hz).int k hk
      refine .value hS (v := .int k (k.wrap n)) ?_ (.p _ _ (.v _ rfl))
      simp [execOp, hx.v_inv, convert, run_underlying hd, run_underlying hu, Conv.intToInt]
    · cases h
  | makeFunc fn first caps =>
    cases fn with
    | func f =>
      simp only [pop] at h
      split at h
      · rename_i h0
        rw [pure1_eq h]
        have hf : first = #[] := by simpa using h0
        subst hf
        refine .value hS (v := .func (.func f) #[] (caps.toList.map ρ).toArray) ?_ (.fn _ _ _ (by simp) (fun j a x ha hx => ?_))
        · simp only [execOp, Instr.makeFunc]
          refine run_v ?_
          rw [show Array.map ρ caps = (caps.toList.map ρ).toArray from by apply Array.ext'; simp, show Array.map ρ (#[] : Array Operand) = #[] from by simp]
          rfl
        · simp only [List.getElem?_map, Option.map_eq_some_iff] at ha hx
          obtain ⟨q, hq, rfl⟩ := ha
          obtain ⟨q', hq', rfl⟩ := hx
          rw [hq] at hq'; injection hq' with hq'; subst hq'
          exact hρ q (by simp [Op.operands]; exact List.mem_of_getElem? hq |> fun h => by simpa using h)
      · cases h
    | _ => simp [pop] at h
  | makeSlice t l cp =>
    have hl := hρ l (by simp [Op.operands]); have hcp := hρ cp (by simp [Op.operands])
    simp only [pop, Option.bind_eq_some_iff] at h
    obtain ⟨y, hy, el, hel, z, hz, h⟩ := h
    split at h
    · cases h
    · rename_i h0
      split at h
      · rename_i k n k' m hla hca
        rw [hla] at hl; rw [hca] at hcp
        injection h with h; injection h with h1 h2; subst h1; subst h2
        obtain ⟨rfl, hc⟩ := hc
        have := does_makeSlice (k := k) (k' := k') hT hS hn hs hy hel hz (by simpa using h0) hc.1 hc.2.1 hc.2.2
        simp only [execOp, hl.v_inv, hcp.v_inv]; exact this
      · cases h
  | slice t x lo hi mx =>
    cases mx with
    | some _ => simp [pop] at h
    | none =>
      have hx := hρ x (by simp [Op.operands])
      have hlo : ∀ x ∈ lo.toArray, RepA (Mut F μ st) μ W (ρA x) (ρ x) := fun x hx => hρ x (by simp [Op.operands] at hx ⊢; simp [hx])
      have hhi : ∀ x ∈ hi.toArray, RepA (Mut F μ st) μ W (ρA x) (ρ x) := fun x hx => hρ x (by simp [Op.operands] at hx ⊢; simp [hx])
      simp only [pop, Option.bind_eq_some_iff] at h
      obtain ⟨y, hy, el, hel, z, hz, h⟩ := h
      unfold sliceA at h
      split at h
      · cases h
      · rename_i hv hhv
        have hbound : ∀ n : Nat, lenA (ρA x) = some (n : Int) → 0 ≤ hv → (hi.map ρ = none ∧ hv.toNat = n) ∨ ∃ k, hi.map ρ = some (.int k hv.toNat) := fun n hn h0 => by
          cases hi with
          | none => left; simp only [Option.map_none] at hhv; rw [hn] at hhv; injection hhv with hhv; exact ⟨rfl, by omega⟩
          | some q =>
            right
            simp only [Option.map_some, Option.map_eq_some_iff] at hhv
            obtain ⟨w, hw, rfl⟩ := hhv
            exact opt_int hhi rfl hw h0
        split at h
        · rename_i b o n k hlq hxa
          rw [Option.map_eq_none_iff] at hlq; subst hlq
          split at h
          · rename_i hk
            simp only [beq_iff_eq] at hk; subst hk
            rw [hxa] at hx
            injection h with h; injection h with h1 h2; subst h1; subst h2
            exact does_slice_sl0 hT hS hy hel hz hx (hbound n (by rw [hxa]; rfl) hc.1) (by omega)
          · cases h
        · rename_i l b o n k hlq hxa
          obtain ⟨lq, rfl, rfl⟩ := Option.map_eq_some_iff.1 hlq
          split at h
          · rename_i hk
            simp only [beq_iff_eq] at hk; subst hk
            simp only [Option.bind_eq_some_iff] at h
            obtain ⟨lv, hlv, h⟩ := h
            rw [hxa] at hx
            injection h with h; injection h with h1 h2; subst h1; subst h2
            obtain ⟨kk, hkk⟩ := opt_int hlo rfl hlv hc.1
            have := does_slice_sl (new := new) (l := lv.2.toNat) (k := kk) hT hS hy hel hz hx (hbound n (by rw [hxa]; rfl) (by omega)) (by omega) (by omega)
            have e1 : (hv - lv.2).toNat = hv.toNat - lv.2.toNat := by omega
            rw [e1]
            simp only [execOp, hkk]; exact this
          · cases h
        · rename_i n cs hlq hxa
          rw [Option.map_eq_none_iff] at hlq; subst hlq
          rw [hxa] at hx
          injection h with h; injection h with h1 h2; subst h1; subst h2
          have := does_slice_lst (new := new) (l := 0) (lo := none) hT hS hy hel hz hx (.inl ⟨rfl, rfl⟩) (hbound n (by rw [hxa]; rfl) hc.1) (Nat.zero_le _) (by omega)
          simpa [execOp] using this
        · rename_i l n cs hlq hxa
          obtain ⟨lq, rfl, rfl⟩ := Option.map_eq_some_iff.1 hlq
          simp only [Option.bind_eq_some_iff] at h
          obtain ⟨lv, hlv, h⟩ := h
          rw [hxa] at hx
          injection h with h; injection h with h1 h2; subst h1; subst h2
          obtain ⟨kk, hkk⟩ := opt_int hlo rfl hlv hc.1
          have := does_slice_lst (new := new) (l := lv.2.toNat) (lo := some (.int kk lv.2.toNat)) hT hS hy hel hz hx (.inr ⟨kk, rfl⟩) (hbound n (by rw [hxa]; rfl) (by omega)) (by omega) (by omega)
          have e1 : (hv - lv.2).toNat = hv.toNat - lv.2.toNat := by omega
          rw [e1]
          simp only [execOp, hkk]; exact this
        · cases h
  | fieldAddr s x f =>
    have hx := hρ x (by simp [Op.operands])
    simp only [pop, Option.bind_eq_some_iff] at h
    obtain ⟨y, hy, q, hq, h⟩ := h
    split at h
    · cases h
    · rename_i h0
      have h0' : q.2 ≠ 0 := by simpa using h0
      split at h
      · rename_i b o hxa
        rw [hxa] at hx
        rw [pure1_eq h]
        exact does_fieldAddr hT hS hy hq h0' hx
      · rename_i cs o hxa
        rw [hxa] at hx
        rw [pure1_eq h]
        exact does_fieldAddr_pt hT hS hy hq h0' hx
      · cases h
  | field s x f =>
    have hx := hρ x (by simp [Op.operands])
    simp only [pop, Option.bind_eq_some_iff] at h
    obtain ⟨y, hy, q, hq, ag, hag, h⟩ := h
    split at h
    · cases h
    · split at h
      · rename_i cs hxa
        rw [hxa] at hx
        injection h with h; injection h with h1 h2; subst h1; subst h2
        obtain ⟨xs, hv, hL⟩ := RepP.agg_inv (μ := μ) hx.p_inv
        have := does_field (new := new) (k := .pc 0 cs) hT hS hy hq hag hL (by simpa [Blk.cells] using hc.1) hc.2
        simp only [execOp, hv]; exact this
      · rename_i cs hxa
        rw [hxa] at hx
        injection h with h; injection h with h1 h2; subst h1; subst h2
        obtain ⟨xs, hv, hL⟩ := RepA.agg_inv hx
        have := does_field (new := new) (k := .mc 0 cs) hT hS hy hq hag hL (by simpa [Blk.cells] using hc.1) hc.2
        simp only [execOp, hv]; exact this
      · cases h
  | indexAddr t x i =>
    have hx := hρ x (by simp [Op.operands]); have hi := hρ i (by simp [Op.operands])
    simp only [pop, Option.bind_eq_some_iff] at h
    obtain ⟨y, hy, el, hel, z, hz, q, hq, h⟩ := h
    have hv := ints_inv (k := q.1) (n := q.2) hq hi
    split at h
    · rename_i n cs hxa
      rw [hxa] at hx
      injection h with h; injection h with h1 h2; subst h1; subst h2
      simp only [execOp, hv]
      exact does_index_lst hT hS hy hel hz hx hc.1 hc.2.1 (fun e => by have := hc.2.2; rw [e] at this; simp at this)
    · rename_i b o n k hxa
      split at h
      · rename_i hk
        simp only [beq_iff_eq] at hk; subst hk
        rw [hxa] at hx
        injection h with h; injection h with h1 h2; subst h1; subst h2
        simp only [execOp, hv]
        exact does_index_sl hT hS hy hel hz hx hc.1 hc.2
      · cases h
    · cases h
  | index t x i =>
    have hx := hρ x (by simp [Op.operands]); have hi := hρ i (by simp [Op.operands])
    simp only [pop, Option.bind_eq_some_iff] at h
    obtain ⟨y, hy, h⟩ := h
    split at h
    · rename_i hstr
      simp only [Option.bind_eq_some_iff] at h
      obtain ⟨q, hq, h⟩ := h
      have hv := ints_inv (k := q.1) (n := q.2) hq hi
      split at h
      · rename_i s hxa
        rw [hxa] at hx
        injection h with h; injection h with h1 h2; subst h1; subst h2
        have hu := (hT.facts hy).str hstr
        refine .value hS (v := .int .u8 ((s.data.toList.getD q.2.toNat 0).toNat : Int)) ?_ (.p _ _ (.v _ rfl))
        have hlt : q.2.toNat < s.size := by omega
        have hlt' : q.2.toNat < s.data.size := hlt
        have hget : s[q.2.toNat]? = some (s.data.toList.getD q.2.toNat 0) := by
          rw [getElem?_pos s q.2.toNat hlt]
          have hg : s[q.2.toNat] = s.data[q.2.toNat] := rfl
          rw [hg]
          rw [List.getD_eq_getElem?_getD, List.getElem?_eq_getElem (by simpa using hlt')]
          simp
        simp only [execOp, hv, hx.v_inv]
        exact run_v (by simp [Instr.index, asIntOf, run_underlying hu, hc.1, hget])
      · cases h
    · cases h
  | extract t ix =>
    have ht := hρ t (by simp [Op.operands])
    simp only [pop] at h
    split at h
    · rename_i cs hxa
      rw [hxa] at ht
      injection h with h; injection h with h1 h2; subst h1; subst h2
      have hp := ht.p_inv
      generalize hw : ρ t = w at hp
      cases hp with
      | tup _ xs hl hr =>
        have hlt : ix < xs.length := by omega
        refine .value hS (v := xs[ix]) ?_ (.p _ _ ?_)
        · simp only [execOp, hw]
          exact run_v (by simp [Instr.extract, hlt])
        · have := hr ix cs[ix] xs[ix] (List.getElem?_eq_getElem hc) (List.getElem?_eq_getElem hlt)
          simpa [List.getD, List.getElem?_eq_getElem hc] using this
    · rename_i cs hxa
      rw [hxa] at ht
      injection h with h; injection h with h1 h2; subst h1; subst h2
      generalize hw : ρ t = w at ht
      cases ht with
      | tup _ xs hl hr =>
        have hlt : ix < xs.length := by omega
        refine .value hS (v := xs[ix]) ?_ ?_
        · simp only [execOp, hw]
          exact run_v (by simp [Instr.extract, hlt])
        · have := hr ix cs[ix] xs[ix] (List.getElem?_eq_getElem hc) (List.getElem?_eq_getElem hlt)
          simpa [List.getD, List.getElem?_eq_getElem hc] using this
    · cases h
  | _ => simp [pop] at h
end ops
end Go.Proofs.YtalklhbdpmggjaaDoor.Pw
namespace Go.Proofs.YtalklhbdpmggjaaDoor.Pw
open Go Go.RowKit
def pow10 : List Int := [1, 10, 100, 1000, 10000, 100000, 1000000, 10000000, 100000000, 1000000000, 10000000000, 100000000000, 1000000000000, 10000000000000, 100000000000000, 1000000000000000, 10000000000000000, 100000000000000000, 1000000000000000000, 10000000000000000000]
def glob : Nat → Option PV := fun g => if g == 0 then some (.pt (pow10.map fun n => .v (.int .u64 n)) 0) else none
end Go.Proofs.YtalklhbdpmggjaaDoor.Pw
namespace Go.Proofs.YtalklhbdpmggjaaDoor.Pw
open Go Go.RowKit
def get : List (Nat × Blk) → Store
  | [], _ => none
  | (i, k) :: r, b => bif i == b then some k else get r b
def del (b : Nat) : List (Nat × Blk) → List (Nat × Blk)
  | [] => []
  | (i, k) :: r => bif i == b then del b r else (i, k) :: del b r
def put (l : List (Nat × Blk)) (b : Nat) : Option Blk → List (Nat × Blk)
  | none => del b l
  | some k => (b, k) :: del b l
def puts (l : List (Nat × Blk)) : List (Nat × Option Blk) → List (Nat × Blk)
  | [] => l
  | (b, x) :: r => puts (put l b x) r
theorem get_del (b : Nat) : ∀ l i, get (del b l) i = if i = b then none else get l i
  | [], i => by simp [del, get]
  | (j, k) :: r, i => by
    have ih := get_del b r i
    by_cases h1 : j = b
    · subst h1
      simp only [del, beq_self_eq_true, cond_true, ih, get]
      by_cases h2 : i = j
      · simp [h2]
      · rw [if_neg h2, if_neg h2, show (j == i) = false by simpa using Ne.symm h2]; rfl
    · rw [del, show (j == b) = false by simpa using h1]
      simp only [cond_false, get, ih]
      by_cases h2 : j = i
      · subst h2; simp [h1]
      · simp [show (j == i) = false by simpa using h2]
theorem get_put (l : List (Nat × Blk)) (b : Nat) (x : Option Blk) : get (put l b x) = upd1 (get l) b x := by
  funext i
  cases x with
  | none => simp [put, get_del, upd1]
  | some k =>
    simp only [put, get, get_del, upd1]
    by_cases h : i = b
    · simp [h]
    · simp [h, show (b == i) = false by simpa using Ne.symm h]
theorem get_puts : ∀ (u : List (Nat × Option Blk)) (l : List (Nat × Blk)), get (puts l u) = upds (get l) u
  | [], _ => rfl
  | (b, x) :: r, l => by rw [puts, get_puts r, get_put]; rfl
def constOne (x : Value) : AV := if x.oneCell' then .p (.v x) else .any
def ev (env : List AV) : Operand → AV
  | .tmp t => env.getD t .any
  | .const v => match v with
    | .agg xs => if xs.toList.all (·.oneCell') then .p (.agg (xs.toList.map .v)) else .any
    | .tuple _ => .any
    | x => .p (.v x)
  | .global g => match glob g with | some x => .p x | none => .any
  | .func f => .fn f []
/-- The package-level variables that are known hold what is known. -/
def GOK (M : Nat → Prop) (W : World) : Prop := ∀ g x, glob g = some x → RepP M W x (.pointer (some ⟨g, 0, none⟩))
theorem GOK.ext {F M M' : Nat → Prop} {μ μ' : Nat → Option Nat} {W W' : World} (r : GOK M W) (h : Ext F M μ W M' μ' W') : GOK M' W' := fun g x hx => (r g x hx).ext h
theorem GOK.mut {M M' : Nat → Prop} {W : World} (r : GOK M W) (h : ∀ B, M' B → M B) : GOK M' W := fun g x hx => (r g x hx).mut h
/-- What a frame's temporaries stand for. -/
def RepE (M : Nat → Prop) (μ : Nat → Option Nat) (W : World) (env : List AV) (tmps : Array Value) : Prop :=
  env.length = tmps.size ∧ (∀ (t : Nat) x, env[t]? = some x → RepA M μ W x (tmps.getD t undef)) ∧ GOK M W
theorem RepE.ext {F M M' : Nat → Prop} {μ μ' : Nat → Option Nat} {W W' : World} {env : List AV} {tmps : Array Value} (r : RepE M μ W env tmps) (h : Ext F M μ W M' μ' W') : RepE M' μ' W' env tmps := ⟨r.1, fun t x hx => (r.2.1 t x hx).ext h, r.2.2.ext h⟩
theorem RepE.put {M : Nat → Prop} {μ : Nat → Option Nat} {W : World} {env : List AV} {a : Act} (r : RepE M μ W env a.tmps) {x : AV} {v : Value} (h : RepA M μ W x v) (dst : Option Tmp) :
    RepE M μ W (match dst with | some d => env.set d x | none => env) (a.put dst v).tmps := by
  cases dst with
  | none => exact r
  | some d =>
    refine ⟨by simp [Act.put, r.1], fun t y hy => ?_, r.2.2⟩
    simp only [List.getElem?_set] at hy
    simp only [Act.put, Array.getD_eq_getD_getElem?, Array.getElem?_setIfInBounds]
    split at hy
    · rename_i e
      subst e
      split at hy
      · rename_i hd
        injection hy with hy; subst hy
        rw [if_pos rfl, if_pos (by rw [← r.1]; exact hd)]; exact h
      · cases hy
    · rename_i e
      rw [if_neg e]
      have := r.2.1 t y hy
      rwa [Array.getD_eq_getD_getElem?] at this
theorem RepE.eval {M : Nat → Prop} {μ : Nat → Option Nat} {W : World} {env : List AV} {a : Act} (r : RepE M μ W env a.tmps) (x : Operand) : RepA M μ W (ev env x) (a.eval x) := by
  cases x with
  | tmp t =>
    simp only [ev, Act.eval, List.getD_eq_getElem?_getD]
    cases h : env[t]? with
    | none => exact .any _
    | some y => exact r.2.1 t y h
  | const v =>
    simp only [ev, Act.eval]
    cases v with
    | agg xs =>
      simp only
      split
      · rename_i h
        obtain ⟨xs⟩ := xs
        simp only [List.all_eq_true] at h
        refine .p _ _ (.agg _ xs (by simp) (fun j x hx => h x (List.mem_of_getElem? hx)) fun j pv x hp hx => ?_)
        simp only [List.getElem?_map, hx, Option.map_some, Option.some.injEq] at hp
        exact hp ▸ .v x (h x (List.mem_of_getElem? hx))
      · exact .any _
    | tuple xs => exact .any _
    | _ => exact .p _ _ (.v _ rfl)
  | global g =>
    simp only [ev, Act.eval]
    split
    · rename_i x hx; exact .p _ _ (r.2.2 g x hx)
    · exact .any _
  | func f => exact .fn f [] [] rfl fun j pv x h _ => by simp at h
/-- A call that the machine enters. -/
def Entered (P : Program) (f : Nat) : Prop := ∃ fn, P.funcs[f]? = some fn ∧ (fn.name == "runtime.NumGoroutine") = false ∧ fn.body.isNone = false
/-- THE CONTRACT OF A FUNCTION OF VALUES: of arguments that stand for 'args' it returns what stands for 'res', and leaves what was there alone. -/
def Sound (P : Program) (f : Nat) (args : List PV) (res : PV) : Prop := Entered P f ∧
  ∀ (F : Nat → Prop) (W : World) (vs : List Value), (∀ B, F B → B < W.heap.size) → GOK F W → vs.length = args.length → (∀ (j : Nat) a v, args[j]? = some a → vs[j]? = some v → RepP F W a v) →
    Calls P f vs.toArray W fun e W' => ∃ v, e = .returned v ∧ RepP F W' res v ∧ Below W.heap.size W W'
/-- THE CONTRACT OF A CALL AT CERTAIN VALUES, with what it does to the caller's own blocks. -/
def SoundE (P : Program) (D f : Nat) (args : List AV) (σ : Store) (new : Nat) (e : Eff) : Prop := Entered P f ∧
  ∀ (F : Nat → Prop) (μ : Nat → Option Nat) (st : Store) (W : World) (vs : List Value), (∀ b ∈ e.rd, st b = σ b) → RepS F μ st W → GOK (Mut F μ st) W → (∀ i, i < D → μ (new + i) = none ∧ st (new + i) = none) → vs.length = args.length →
    (∀ (j : Nat) a v, args[j]? = some a → vs[j]? = some v → RepA (Mut F μ st) μ W a v) →
    Calls P f vs.toArray W fun en W' => ∃ v μ', en = .returned v ∧ RepS F μ' (upds st e.upd) W' ∧ RepA (Mut F μ' (upds st e.upd)) μ' W' e.val v ∧
      Ext F (Mut F μ st) μ W (Mut F μ' (upds st e.upd)) μ' W' ∧ ∀ b, b < new ∨ new + D ≤ b → μ' b = μ b
def wantA (ops : List Oper) (env : List AV) (o : Oper) : Option Bool :=
  match o.guard with
  | none => some true
  | some (j, want) => match (ops[j]?).bind (·.dst) with
    | some t => match env.getD t .any with | .p (.v (.bool b)) => some (b == want) | .p (.tup _) => some false | _ => none
    | none => none
/-- One operation, by its effect. -/
def stepW (P : Program) (T : Tab) (D : Nat) (ops : List Oper) (o : Oper) (new : Nat) (env : List AV) (σ : Store) (K : Eff → Prop) : Prop :=
  match wantA ops env o with
  | some true => match o.op with
    | .call { callee := .value f, args, argTypes := _ } => match ev env f with
      | .fn g caps => ∃ e, SoundE P D g (args.toList.map (ev env) ++ caps) σ new e ∧ K e
      | _ => False
    | op => match pop T op (ev env) σ new with
      | some (e, c) => c ∧ K e
      | none => False
  | some false => K ⟨.p (.tup []), [], []⟩
  | none => False
theorem wanted_of {ops : Array Oper} {env : List AV} {a : Act} {M : Nat → Prop} {μ : Nat → Option Nat} {W : World} (r : RepE M μ W env a.tmps) {o : Oper} {b : Bool} (h : wantA ops.toList env o = some b) : Region.wanted o (yielded ops a.tmps) = b := by
  unfold wantA at h
  unfold Region.wanted
  split at h
  · rename_i hg; rw [hg]; injection h
  · rename_i j want hg
    rw [hg]
    split at h
    · rename_i t ht
      split at h
      · rename_i c hc
        injection h with h; subst h
        rw [List.getD_eq_getElem?_getD] at hc
        cases hx : env[t]? with
        | none => rw [hx] at hc; cases hc
        | some y =>
          rw [hx, Option.getD_some] at hc; subst hc
          have h1 := (r.2.1 t _ hx).v_inv
          have hlt : t < a.tmps.size := by rw [← r.1]; exact (List.getElem?_eq_some_iff.1 hx).1
          have ht' : (ops[j]?).bind (·.dst) = some t := by simpa using ht
          simp only [yielded, ht', Option.bind_some]
          rw [Array.getD_eq_getD_getElem?, Array.getElem?_eq_getElem hlt, Option.getD_some] at h1
          rw [Array.getElem?_eq_getElem hlt, h1]
          cases c <;> cases want <;> rfl
      · rename_i cs hc
        injection h with h; subst h
        rw [List.getD_eq_getElem?_getD] at hc
        cases hx : env[t]? with
        | none => rw [hx] at hc; cases hc
        | some y =>
          rw [hx, Option.getD_some] at hc; subst hc
          have h1 := (r.2.1 t _ hx).p_inv
          have hlt : t < a.tmps.size := by rw [← r.1]; exact (List.getElem?_eq_some_iff.1 hx).1
          have ht' : (ops[j]?).bind (·.dst) = some t := by simpa using ht
          rw [Array.getD_eq_getD_getElem?, Array.getElem?_eq_getElem hlt, Option.getD_some] at h1
          generalize hv : a.tmps[t] = v at h1
          cases h1
          simp only [yielded, ht', Option.bind_some]
          rw [Array.getElem?_eq_getElem hlt, hv]
          rfl
      · cases h
    · cases h
/-- What holds of the state behind an operation whose effect is e. -/
def After (F : Nat → Prop) (μ : Nat → Option Nat) (st : Store) (W : World) (new D : Nat) (e : Eff) (v : Value) (μ' : Nat → Option Nat) (W' : World) : Prop :=
  RepS F μ' (upds st e.upd) W' ∧ RepA (Mut F μ' (upds st e.upd)) μ' W' e.val v ∧ Ext F (Mut F μ st) μ W (Mut F μ' (upds st e.upd)) μ' W' ∧ ∀ b, b < new ∨ new + D ≤ b → μ' b = μ b
theorem Does.wp {P : Program} {F : Nat → Prop} {μ : Nat → Option Nat} {st : Store} {W : World} {new D : Nat} (hD : 0 < D) {o : Oper} {a : Act} {e : Eff} (h : Does P F μ st W new (execOp a.eval o) e) {K : Act → World → Prop} {Q : Exit → Act → World → Prop}
    (hK : ∀ v μ' W', After F μ st W new D e v μ' W' → K (a.put o.dst v) W') : o.wp P a W K Q := by
  obtain ⟨v, W', μ', hr, h1, h2, h3, h4⟩ := h
  have ha : After F μ st W new D e v μ' W' := ⟨h1, h2, h3, fun b hb => h4 b (by omega)⟩
  unfold Oper.wp
  rcases hr with hr | ⟨hr, rfl⟩ <;> rw [hr]
  · exact hK v μ' W' ha
  · exact hK undef μ' W' ha
theorem call_run {P : Program} {W : World} {o : Oper} {f : Operand} {args : Array Operand} {ts : Array TypeId} {ρ : Operand → Value} {g : Nat} {xs : Array Value} (ho : o.op = .call { callee := .value f, args, argTypes := ts }) (hf : ρ f = .func (.func g) #[] xs) (hE : Entered P g) :
    (execOp ρ o).run P W = .ok (.enter g (args.map ρ ++ xs)) W := by
  obtain ⟨fn, h1, h2, h3⟩ := hE
  simp [execOp, ho, resolve, Deferred.ofValue, hf, invoke, callFunc, h1]
  rw [if_neg (by simpa using h2), if_neg (by intro h; simp [h] at h3)]
theorem skipA {M : Nat → Prop} {μ : Nat → Option Nat} {W : World} : RepA M μ W (.p (.tup [])) undef := .p _ _ (.tup [] [] rfl fun j pv x h => by simp at h)
theorem stepW_sound {P : Program} {T : Tab} (hT : TOK P T) {F : Nat → Prop} {μ : Nat → Option Nat} {st : Store} {W : World} {new D : Nat} (hD : 0 < D) (hS : RepS F μ st W) (hnew : ∀ i, i < D → μ (new + i) = none ∧ st (new + i) = none)
    {ops : Array Oper} {o : Oper} {env : List AV} {a : Act} (hE : RepE (Mut F μ st) μ W env a.tmps) {KA : Eff → Prop} (h : stepW P T D ops.toList o new env st KA) :
    ∃ e, KA e ∧ ∀ (K : Act → World → Prop) (Q : Exit → Act → World → Prop), (∀ v μ' W', After F μ st W new D e v μ' W' → K (a.put o.dst v) W') →
      if Region.wanted o (yielded ops a.tmps) then o.wp P a W K Q else K (a.put o.dst undef) W := by
  have h0 := hnew 0 hD
  rw [Nat.add_zero] at h0
  unfold stepW at h
  split at h
  · rename_i hw
    rw [wanted_of hE hw]
    split at h
    · rename_i f args ts ho
      split at h
      · rename_i g caps hf
        obtain ⟨e, ⟨hEn, hs⟩, hKA⟩ := h
        refine ⟨e, hKA, fun K Q hK => ?_⟩
        have hrf := hE.eval f
        rw [hf] at hrf
        generalize hw' : a.eval f = w at hrf
        cases hrf with
        | fn _ _ xs hl hr =>
          have hrun := call_run (W := W) ho hw' hEn
          have hc := hs F μ st W ((args.toList.map a.eval) ++ xs) (fun _ _ => rfl) hS hE.2.2 hnew (by simp [hl]) (fun j x v hx hv => by
            rw [List.getElem?_append] at hx hv
            simp only [List.length_map] at hx hv
            split at hx
            · rename_i hj
              rw [if_pos hj] at hv
              simp only [List.getElem?_map, Option.map_eq_some_iff] at hx hv
              obtain ⟨q, hq, rfl⟩ := hx
              obtain ⟨q', hq', rfl⟩ := hv
              rw [hq] at hq'; injection hq' with hq'; subst hq'
              exact hE.eval q
            · rename_i hj
              rw [if_neg hj] at hv
              exact hr _ x v hx hv)
          simp only [if_true, Oper.wp, hrun, Oper.upon]
          have harr : (args.map a.eval ++ xs.toArray) = ((args.toList.map a.eval) ++ xs).toArray := by apply Array.ext'; simp
          rw [harr]
          refine hc.mono ?_
          rintro _ W' ⟨v, μ', rfl, h1, h2, h3, h4⟩
          exact hK v μ' W' ⟨h1, h2, h3, h4⟩
      · exact h.elim
    · split at h
      · rename_i e c hp
        obtain ⟨hc, hKA⟩ := h
        exact ⟨e, hKA, fun K Q hK => by
          simp only [if_true]
          exact (pop_sound hT hS h0.1 h0.2 o (fun x _ => hE.eval x) hp hc).wp hD hK⟩
      · exact h.elim
  · rename_i hw
    rw [wanted_of hE hw]
    exact ⟨_, h, fun K Q hK => hK undef μ W ⟨hS, skipA, Ext.refl _ _ _ _, fun _ _ => rfl⟩⟩
  · exact h.elim
end Go.Proofs.YtalklhbdpmggjaaDoor.Pw
namespace Go.Proofs.YtalklhbdpmggjaaDoor.Pw
open Go Go.RowKit
theorem viewA_congr {σ σ' : Store} {a : AV} {q : Nat × Nat × Blk × List Nat} (h : viewA σ a = some q) (hs : ∀ b ∈ q.2.2.2, σ b = σ' b) : viewA σ' a = some q := by
  unfold viewA at h ⊢
  split at h
  · exact h
  · exact h
  · simp only [Option.map_eq_some_iff] at h
    obtain ⟨k, hk, rfl⟩ := h
    rename_i b _ _ _
    rw [← hs b (by simp), hk]; rfl
  · cases h
theorem pop_congr {T : Tab} {op : Op} {ρ ρ' : Operand → AV} {σ σ' : Store} {new : Nat} {e : Eff} {c : Prop} (h : pop T op ρ σ new = some (e, c)) (hρ : ∀ x ∈ op.operands, ρ x = ρ' x) (hs : ∀ b ∈ e.rd, σ b = σ' b) :
    pop T op ρ' σ' new = some (e, c) := by
  cases op with
  | call cl =>
    obtain ⟨callee, args, ts⟩ := cl
    obtain ⟨args⟩ := args
    obtain ⟨ts⟩ := ts
    cases callee with
    | value f => simp [pop] at h
    | invoke r m => simp [pop] at h
    | builtin b =>
      have hρ' : ∀ x ∈ args, ρ x = ρ' x := fun x hx => hρ x (by simp [Op.operands, Call.operands, hx])
      cases b <;> simp only [pop, reduceCtorEq] at h ⊢
      case len =>
        split at h <;> try cases h
        rename_i x t
        simp only [← hρ' x (by simp)]; exact h
      case max =>
        split at h <;> try cases h
        rename_i x y
        simp only [← hρ' x (by simp), ← hρ' y (by simp)]; exact h
      case min =>
        split at h <;> try cases h
        rename_i x y
        simp only [← hρ' x (by simp), ← hρ' y (by simp)]; exact h
      case append =>
        split at h <;> try cases h
        rename_i x y t t'
        simp only [← hρ' x (by simp), ← hρ' y (by simp)]
        split at h <;> try cases h
        rename_i htt
        rw [if_pos htt]
        simp only [Option.bind_eq_some_iff] at h ⊢
        obtain ⟨u, hu, el, hel, z, hz, h⟩ := h
        refine ⟨u, hu, el, hel, z, hz, ?_⟩
        split at h <;> try cases h
        rename_i h0
        rw [if_neg h0]
        simp only [Option.bind_eq_some_iff] at h ⊢
        obtain ⟨q, hq, h⟩ := h
        split at h
        · rename_i hxa
          have he := h
          injection h with h; injection h with h1 h2; subst h1
          refine ⟨q, viewA_congr hq hs, ?_⟩
          exact he
        · rename_i b n k hxa
          split at h <;> try cases h
          rename_i hk
          simp only [Option.bind_eq_some_iff] at h
          obtain ⟨d, hd, h⟩ := h
          split at h
          · rename_i hde
            have he := h
            injection h with h; injection h with h1 h2; subst h1
            refine ⟨q, viewA_congr hq (fun b hb => hs b (by simp [hb])), ?_⟩
            rw [if_pos hk]
            simp only [Option.bind_eq_some_iff]
            exact ⟨d, by rw [← hs b (by simp)]; exact hd, by rw [if_pos hde]; exact he⟩
          · cases h
        · cases h
      case copy =>
        split at h <;> try cases h
        rename_i x y t t'
        simp only [← hρ' x (by simp), ← hρ' y (by simp)]
        simp only [Option.bind_eq_some_iff] at h ⊢
        obtain ⟨u, hu, el, hel, z, hz, h⟩ := h
        refine ⟨u, hu, el, hel, z, hz, ?_⟩
        split at h <;> try cases h
        rename_i h0
        rw [if_neg h0]
        simp only [Option.bind_eq_some_iff] at h ⊢
        obtain ⟨q, hq, h⟩ := h
        split at h
        · rename_i b o n k hxa
          split at h <;> try cases h
          rename_i hk
          simp only [Option.bind_eq_some_iff] at h
          obtain ⟨d, hd, h⟩ := h
          have he := h
          injection h with h; injection h with h1 h2; subst h1
          refine ⟨q, viewA_congr hq (fun b hb => hs b (by simp [hb])), ?_⟩
          rw [if_pos hk]
          simp only [Option.bind_eq_some_iff]
          exact ⟨d, by rw [← hs b (by simp)]; exact hd, he⟩
        · cases h
  | build t parts =>
    have : (parts.toList.map fun x => (x.1, ρ' x.2)) = parts.toList.map fun x => (x.1, ρ x.2) := List.map_congr_left fun x hx => by rw [hρ x.2 (by simp [Op.operands]; exact ⟨x.1, by simpa using hx⟩)]
    simp only [pop, this] at h ⊢; exact h
  | buildSlice t n parts =>
    have : (parts.toList.map fun x => (x.1, ρ' x.2)) = parts.toList.map fun x => (x.1, ρ x.2) := List.map_congr_left fun x hx => by rw [hρ x.2 (by simp [Op.operands]; exact ⟨x.1, by simpa using hx⟩)]
    simp only [pop, this] at h ⊢; exact h
  | makeFunc fn first caps =>
    cases fn with
    | func f =>
      have : caps.toList.map ρ' = caps.toList.map ρ := List.map_congr_left fun x hx => (hρ x (by simp [Op.operands]; exact .inr (by simpa using hx))).symm
      simp only [pop, this] at h ⊢; exact h
    | _ => simp [pop] at h
  | load t a =>
    simp only [pop, ← hρ a (by simp [Op.operands])] at h ⊢
    simp only [Option.bind_eq_some_iff] at h ⊢
    obtain ⟨y, hy, h⟩ := h
    refine ⟨y, hy, ?_⟩
    split at h
    · cases h
    · rename_i h0
      rw [if_neg h0]
      split at h
      · rename_i b o hxa
        simp only [Option.bind_eq_some_iff] at h ⊢
        obtain ⟨k, hk, h⟩ := h
        have he := h
        injection h with h; injection h with h1 h2; subst h1
        exact ⟨k, by rw [← hs b (by simp)]; exact hk, he⟩
      · exact h
      · cases h
  | store t a x =>
    simp only [pop, ← hρ a (by simp [Op.operands]), ← hρ x (by simp [Op.operands])] at h ⊢
    simp only [Option.bind_eq_some_iff] at h ⊢
    obtain ⟨y, hy, h⟩ := h
    refine ⟨y, hy, ?_⟩
    split at h
    · rename_i h0
      rw [if_pos h0]
      split at h
      · rename_i b o hxa
        simp only [Option.bind_eq_some_iff] at h ⊢
        obtain ⟨k, hk, h⟩ := h
        have he := h
        injection h with h; injection h with h1 h2; subst h1
        exact ⟨k, by rw [← hs b (by simp)]; exact hk, he⟩
      · cases h
    · cases h
  | slice t x lo hi mx =>
    cases mx with
    | some _ => simp [pop] at h
    | none =>
      have hx := hρ x (by simp [Op.operands])
      have hl : lo.map ρ' = lo.map ρ := by cases lo with | none => rfl | some q => simp [hρ q (by simp [Op.operands])]
      have hh : hi.map ρ' = hi.map ρ := by cases hi with | none => rfl | some q => simp [hρ q (by simp [Op.operands])]
      simp only [pop, ← hx, hl, hh] at h ⊢; exact h
  | move x | assign x | box _ x | nilCheck x | unOp _ _ x | convert _ _ x | fieldAddr _ x _ | field _ x _ | extract x _ => simp only [pop, ← hρ x (by simp [Op.operands])] at h ⊢; exact h
  | pick a b c => simp only [pop, ← hρ a (by simp [Op.operands]), ← hρ b (by simp [Op.operands]), ← hρ c (by simp [Op.operands])] at h ⊢; exact h
  | binOp _ _ a b _ | makeSlice _ a b | indexAddr _ a b | index _ a b => simp only [pop, ← hρ a (by simp [Op.operands]), ← hρ b (by simp [Op.operands])] at h ⊢; exact h
  | alloc _ => exact h
  | _ => simp [pop] at h
/-- What an operation with this effect does, wherever what it looks at is as it was. -/
def OpOK (P : Program) (D : Nat) (ops : Array Oper) (o : Oper) (new : Nat) (env : List AV) (σ : Store) (e : Eff) : Prop :=
  ∀ (F : Nat → Prop) (μ : Nat → Option Nat) (st : Store) (W : World) (a : Act) (env' : List AV), RepS F μ st W → RepE (Mut F μ st) μ W env' a.tmps → (∀ t ∈ o.looksAt ops, env'.getD t .any = env.getD t .any) →
    (∀ b ∈ e.rd, st b = σ b) → (∀ i, i < D → μ (new + i) = none ∧ st (new + i) = none) →
    ∀ (K : Act → World → Prop) (Q : Exit → Act → World → Prop), (∀ v μ' W', After F μ st W new D e v μ' W' → K (a.put o.dst v) W') →
      if Region.wanted o (yielded ops a.tmps) then o.wp P a W K Q else K (a.put o.dst undef) W
theorem ev_congr {env env' : List AV} {x : Operand} (h : ∀ t, x = .tmp t → env'.getD t .any = env.getD t .any) : ev env' x = ev env x := by
  cases x with
  | tmp t => exact h t rfl
  | _ => rfl
theorem mem_looksAt {ops : Array Oper} {o : Oper} {t : Tmp} (h : Operand.tmp t ∈ o.op.operands) : t ∈ o.looksAt ops :=
  List.mem_append_left _ (List.mem_filterMap.2 ⟨.tmp t, by simpa using h, rfl⟩)
theorem wantA_congr {ops : Array Oper} {env env' : List AV} {o : Oper} (h : ∀ t ∈ o.looksAt ops, env'.getD t .any = env.getD t .any) : wantA ops.toList env' o = wantA ops.toList env o := by
  unfold wantA
  cases hg : o.guard with
  | none => rfl
  | some q =>
    obtain ⟨j, w⟩ := q
    simp only
    cases ht : (ops.toList[j]?).bind (·.dst) with
    | none => rfl
    | some t =>
      have ht' : (ops[j]?).bind (·.dst) = some t := by simpa using ht
      simp only
      rw [h t (List.mem_append_right _ (by simp [hg, ht']))]
theorem stepW_ok {P : Program} {T : Tab} (hT : TOK P T) {new D : Nat} (hD : 0 < D) {ops : Array Oper} {o : Oper} {env : List AV} {σ : Store} {KA : Eff → Prop} (h : stepW P T D ops.toList o new env σ KA) :
    ∃ e, KA e ∧ OpOK P D ops o new env σ e := by
  unfold stepW at h
  split at h
  · rename_i hw
    split at h
    · rename_i f args ts ho
      split at h
      · rename_i g caps hf
        obtain ⟨e, hs, hKA⟩ := h
        refine ⟨e, hKA, fun F μ st W a env' hS hE hl hrd hnew K Q hK => ?_⟩
        have hops : ∀ x, x = f ∨ x ∈ args.toList → ev env' x = ev env x := fun x hx => ev_congr fun t ht => hl t (mem_looksAt (by
          subst ht
          rw [ho]
          rcases hx with rfl | hx
          · simp [Op.operands, Call.operands]
          · simp [Op.operands, Call.operands]; exact .inr (by simpa using hx)))
        have hstep : stepW P T D ops.toList o new env' st (fun e' => e' = e) := by
          unfold stepW
          rw [wantA_congr hl, hw]
          simp only [ho, hops f (.inl rfl), hf]
          refine ⟨e, ?_, rfl⟩
          have : args.toList.map (ev env') = args.toList.map (ev env) := List.map_congr_left fun x hx => hops x (.inr hx)
          rw [this]
          exact ⟨hs.1, fun F μ st' W vs hb => hs.2 F μ st' W vs fun b hb' => (hb b hb').trans (hrd b hb')⟩
        obtain ⟨e', rfl, hh⟩ := stepW_sound hT hD hS hnew hE hstep
        exact hh K Q hK
      · exact h.elim
    · rename_i op hnc
      split at h
      · rename_i e c hp
        obtain ⟨hc, hKA⟩ := h
        refine ⟨e, hKA, fun F μ st W a env' hS hE hl hrd hnew K Q hK => ?_⟩
        have hp' := pop_congr (ρ' := ev env') (σ' := st) hp (fun x hx => (ev_congr fun t ht => hl t (mem_looksAt (by subst ht; exact hx))).symm) (fun b hb => (hrd b hb).symm)
        have hw' := wanted_of hE (ops := ops) (o := o) (b := true) (by rw [wantA_congr hl, hw])
        rw [hw']
        simp only [if_true]
        have h0 := hnew 0 hD
        rw [Nat.add_zero] at h0
        exact (pop_sound hT hS h0.1 h0.2 o (fun x _ => hE.eval x) hp' hc).wp hD hK
      · exact h.elim
  · rename_i hw
    refine ⟨_, h, fun F μ st W a env' hS hE hl hrd hnew K Q hK => ?_⟩
    rw [wanted_of hE (ops := ops) (o := o) (b := false) (by rw [wantA_congr hl, hw])]
    exact hK undef μ W ⟨hS, skipA, Ext.refl _ _ _ _, fun _ _ => rfl⟩
  · exact h.elim
end Go.Proofs.YtalklhbdpmggjaaDoor.Pw
namespace Go.Proofs.YtalklhbdpmggjaaDoor.Pw
open Go Go.RowKit
def setD (env : List AV) (dst : Option Tmp) (x : AV) : List AV := match dst with | some d => env.set d x | none => env
/-- The operations of a region, one behind the other, each by its effect. -/
def opsW (P : Program) (T : Tab) (D : Nat) (ops : List Oper) (nx : Nat) : List Oper → Nat → List AV → List (Nat × Blk) → List Eff → (List AV → List (Nat × Blk) → List Eff → Prop) → Prop
  | [], _, env, st, acc, K => K env st acc
  | o :: r, i, env, st, acc, K => stepW P T D ops o (nx + D * i) env (get st) fun e =>
      e.upd.all (fun x => Nat.blt x.1 (nx + D * (i + 1))) = true ∧ opsW P T D ops nx r (i + 1) (setD env o.dst e.val) (puts st e.upd) (e :: acc) K
inductive Chain (P : Program) (D : Nat) (ops : Array Oper) (nx : Nat) : List Oper → Nat → List AV → List (Nat × Blk) → List Eff → List AV → List (Nat × Blk) → Prop
  | nil (i : Nat) (env : List AV) (st : List (Nat × Blk)) : Chain P D ops nx [] i env st [] env st
  | cons (o : Oper) (r : List Oper) (i : Nat) (env : List AV) (st : List (Nat × Blk)) (e : Eff) (es : List Eff) (env' : List AV) (st' : List (Nat × Blk)) :
      OpOK P D ops o (nx + D * i) env (get st) e → (∀ x ∈ e.upd, x.1 < nx + D * (i + 1)) → Chain P D ops nx r (i + 1) (setD env o.dst e.val) (puts st e.upd) es env' st' → Chain P D ops nx (o :: r) i env st (e :: es) env' st'
theorem opsW_chain {P : Program} {T : Tab} (hT : TOK P T) {D : Nat} (hD : 0 < D) {ops : Array Oper} {nx : Nat} : ∀ (l : List Oper) (i : Nat) (env : List AV) (st : List (Nat × Blk)) (acc : List Eff) (K : List AV → List (Nat × Blk) → List Eff → Prop),
    opsW P T D ops.toList nx l i env st acc K → ∃ es env' st', Chain P D ops nx l i env st es env' st' ∧ K env' st' (es.reverse ++ acc)
  | [], i, env, st, acc, K, h => ⟨[], env, st, .nil i env st, h⟩
  | o :: r, i, env, st, acc, K, h => by
    obtain ⟨e, ⟨hb, hk⟩, hok⟩ := stepW_ok hT hD h
    obtain ⟨es, env', st', hc, hK⟩ := opsW_chain hT hD r (i + 1) _ _ _ K hk
    refine ⟨e :: es, env', st', .cons o r i env st e es env' st' hok (fun x hx => ?_) hc, by simpa using hK⟩
    have := List.all_eq_true.1 hb x hx
    exact Nat.blt_eq.mp this
/-- What holds behind a region. -/
structure Behind (nx : Nat) (F : Nat → Prop) (μ : Nat → Option Nat) (st : List (Nat × Blk)) (W : World) (ds : List Deferred) (env' : List AV) (st' : List (Nat × Blk)) (nx' : Nat) (μ' : Nat → Option Nat) (W' : World) (a' : Act) : Prop where
  rs : RepS F μ' (get st') W'
  re : RepE (Mut F μ' (get st')) μ' W' env' a'.tmps
  df : a'.defers = ds
  fr : ∀ b, nx' ≤ b → μ' b = none ∧ get st' b = none
  ex : Ext F (Mut F μ (get st)) μ W (Mut F μ' (get st')) μ' W'
  lo : ∀ b, b < nx → μ' b = μ b
theorem upds_other (u : List (Nat × Option Blk)) : ∀ (st : Store) (b : Nat), (∀ x ∈ u, x.1 ≠ b) → upds st u b = st b := by
  induction u with
  | nil => intro st b _; rfl
  | cons p u ih =>
    intro st b h
    obtain ⟨i, x⟩ := p
    show upds (upd1 st i x) u b = st b
    rw [ih _ b fun x hx => h x (by simp [hx])]
    exact upd1_ne _ _ _ (Ne.symm (h (i, x) (by simp)))
theorem setD_put {M : Nat → Prop} {μ : Nat → Option Nat} {W : World} {env : List AV} {a : Act} (r : RepE M μ W env a.tmps) {x : AV} {v : Value} (h : RepA M μ W x v) (dst : Option Tmp) : RepE M μ W (setD env dst x) (a.put dst v).tmps := r.put h dst
theorem put_defers (a : Act) (d : Option Tmp) (v : Value) : (a.put d v).defers = a.defers := by cases d <;> rfl
theorem wpOps_at {P : Program} {ops : Array Oper} {Q : Exit → Act → World → Prop} {i : Nat} {rest : List Nat} {o : Oper} (ho : ops[i]? = some o) {a : Act} {W : World}
    (h : if Region.wanted o (yielded ops a.tmps) then o.wp P a W (wpOps P ops Q rest) Q else wpOps P ops Q rest (a.put o.dst undef) W) : wpOps P ops Q (i :: rest) a W := by
  simp only [wpOps, ho]
  split
  · rename_i hw; rw [if_pos hw] at h; exact .inl h
  · rename_i hw; rw [if_neg hw] at h; exact h
theorem chain_ord {P : Program} {D : Nat} {ops : Array Oper} {nx : Nat} {l : List Oper} {i : Nat} {env env' : List AV} {st st' : List (Nat × Blk)} {es : List Eff} (h : Chain P D ops nx l i env st es env' st') :
    (∀ j, l[j]? = ops[i + j]?) → ∀ (F : Nat → Prop) (μ : Nat → Option Nat) (W : World) (a : Act), RepS F μ (get st) W → RepE (Mut F μ (get st)) μ W env a.tmps → (∀ b, nx + D * i ≤ b → μ b = none ∧ get st b = none) →
    ∀ (Q : Exit → Act → World → Prop), (∀ μ' W' a', Behind nx F μ st W a.defers env' st' (nx + D * (i + l.length)) μ' W' a' → Q .normal a' W') → wpOps P ops Q (List.range' i l.length) a W := by
  induction h with
  | nil i env st =>
    intro _ F μ W a hS hE hf Q hQ
    exact hQ μ W a ⟨hS, hE, rfl, hf, Ext.refl _ _ _ _, fun _ _ => rfl⟩
  | cons o r i env st e es env' st' hok hb _ ih =>
    intro hl F μ W a hS hE hf Q hQ
    have ho : ops[i]? = some o := by simpa using (hl 0).symm
    have h1 : D * (i + 1) = D * i + D := Nat.mul_succ D i
    rw [List.length_cons, List.range'_succ]
    refine wpOps_at ho (hok F μ (get st) W a env hS hE (fun _ _ => rfl) (fun _ _ => rfl) (fun j hj => hf _ (by omega)) _ Q fun v μ' W' hA => ?_)
    obtain ⟨h1', h2', h3', h4'⟩ := hA
    rw [← get_puts] at h1' h2' h3'
    refine ih (fun j => by have := hl (j + 1); simpa [Nat.add_assoc, Nat.add_comm 1 j] using this) F μ' W' _ h1' (setD_put (hE.ext h3') h2' o.dst) (fun b hbb => ?_) Q fun μ2 W2 a2 hB => hQ μ2 W2 a2 ?_
    · have := hf b (by omega)
      refine ⟨by rw [h4' b (by omega)]; exact this.1, ?_⟩
      rw [get_puts, upds_other _ _ _ fun x hx => by have := hb x hx; omega]; exact this.2
    · refine ⟨hB.rs, hB.re, hB.df.trans (put_defers _ _ _), ?_, h3'.trans hB.ex, fun b hb => (hB.lo b hb).trans (h4' b (.inl (by omega)))⟩
      have e1 : i + 1 + r.length = i + (r.length + 1) := by omega
      rw [List.length_cons, ← e1]; exact hB.fr
end Go.Proofs.YtalklhbdpmggjaaDoor.Pw
namespace Go.Proofs.YtalklhbdpmggjaaDoor.Pw
open Go Go.RowKit
section states
variable (dst : Nat → Option Tmp) (eff : Nat → Eff) (env0 : List AV) (σ0 : Store)
def envS (S : Nat → Bool) : Nat → List AV
  | 0 => env0
  | n + 1 => if S n then setD (envS S n) (dst n) (eff n).val else envS S n
def stS (S : Nat → Bool) : Nat → Store
  | 0 => σ0
  | n + 1 => if S n then upds (stS S n) (eff n).upd else stS S n
theorem envS_congr {S S' : Nat → Bool} : ∀ n, (∀ i, i < n → S i = S' i) → envS dst eff env0 S n = envS dst eff env0 S' n
  | 0, _ => rfl
  | n + 1, h => by rw [envS, envS, envS_congr n (fun i hi => h i (by omega)), h n (by omega)]
theorem stS_congr {S S' : Nat → Bool} : ∀ n, (∀ i, i < n → S i = S' i) → stS eff σ0 S n = stS eff σ0 S' n
  | 0, _ => rfl
  | n + 1, h => by rw [stS, stS, stS_congr n (fun i hi => h i (by omega)), h n (by omega)]
theorem setD_get_ne {env : List AV} {d : Option Tmp} {x : AV} {t : Nat} (h : d ≠ some t) : (setD env d x).getD t .any = env.getD t .any := by
  cases d with
  | none => rfl
  | some d =>
    have : d ≠ t := fun e => h (by rw [e])
    simp [setD, List.getD_eq_getElem?_getD, List.getElem?_set, this]
theorem setD_length (env : List AV) (d : Option Tmp) (x : AV) : (setD env d x).length = env.length := by cases d <;> simp [setD]
theorem envS_length {S : Nat → Bool} : ∀ n, (envS dst eff env0 S n).length = env0.length
  | 0 => rfl
  | n + 1 => by rw [envS]; split <;> simp [setD_length, envS_length n]
theorem setD_get_same {env env' : List AV} {d : Option Tmp} {x : AV} {t : Nat} (hl : env.length = env'.length) (h : env.getD t .any = env'.getD t .any) : (setD env d x).getD t .any = (setD env' d x).getD t .any := by
  cases d with
  | none => exact h
  | some d =>
    by_cases e : d = t
    · subst e; simp [setD, List.getD_eq_getElem?_getD, List.getElem?_set, hl]
    · rw [setD_get_ne (by simpa using e), setD_get_ne (by simpa using e)]; exact h
theorem envS_get {S S' : Nat → Bool} {t : Nat} : ∀ n, (∀ i, i < n → dst i = some t → S i = S' i) → (envS dst eff env0 S n).getD t .any = (envS dst eff env0 S' n).getD t .any
  | 0, _ => rfl
  | n + 1, h => by
    have ih := envS_get (S := S) (S' := S') (t := t) n fun i hi => h i (by omega)
    have hl : (envS dst eff env0 S n).length = (envS dst eff env0 S' n).length := by rw [envS_length, envS_length]
    by_cases hd : dst n = some t
    · have := h n (by omega) hd
      rw [envS, envS, this]
      split
      · exact setD_get_same hl ih
      · exact ih
    · have key : ∀ S : Nat → Bool, (envS dst eff env0 S (n + 1)).getD t .any = (envS dst eff env0 S n).getD t .any := fun S => by
        rw [envS]; split
        · exact setD_get_ne hd
        · rfl
      rw [key, key]; exact ih
theorem upds_same (u : List (Nat × Option Blk)) : ∀ (st st' : Store) (b : Nat), (∃ x ∈ u, x.1 = b) → upds st u b = upds st' u b := by
  induction u with
  | nil => intro st st' b ⟨x, hx, _⟩; cases hx
  | cons p u ih =>
    intro st st' b ⟨x, hx, he⟩
    obtain ⟨i, y⟩ := p
    show upds (upd1 st i y) u b = upds (upd1 st' i y) u b
    by_cases h : ∃ x ∈ u, x.1 = b
    · exact ih _ _ b h
    · have h' : ∀ x ∈ u, x.1 ≠ b := fun x hx he => h ⟨x, hx, he⟩
      rw [upds_other u _ b h', upds_other u _ b h']
      rcases List.mem_cons.1 hx with rfl | hx
      · simp only at he; subst he; rw [upd1_same, upd1_same]
      · exact absurd he (h' x hx)
theorem stS_get {S S' : Nat → Bool} {b : Nat} : ∀ n, (∀ i, i < n → (∃ x ∈ (eff i).upd, x.1 = b) → S i = S' i) → stS eff σ0 S n b = stS eff σ0 S' n b
  | 0, _ => rfl
  | n + 1, h => by
    have ih := stS_get (S := S) (S' := S') (b := b) n fun i hi => h i (by omega)
    by_cases hd : ∃ x ∈ (eff n).upd, x.1 = b
    · have := h n (by omega) hd
      rw [stS, stS, this]
      split
      · exact upds_same _ _ _ b hd
      · exact ih
    · have key : ∀ S : Nat → Bool, stS eff σ0 S (n + 1) b = stS eff σ0 S n b := fun S => by
        rw [stS]; split
        · exact upds_other _ _ b fun x hx he => hd ⟨x, hx, he⟩
        · rfl
      rw [key, key]; exact ih
theorem setD_comm (env : List AV) {d d' : Option Tmp} (x y : AV) (h : ∀ t, d = some t → d' ≠ some t) : setD (setD env d x) d' y = setD (setD env d' y) d x := by
  cases d with
  | none => rfl
  | some d =>
    cases d' with
    | none => rfl
    | some d' => exact List.set_comm _ _ (fun e => h d rfl (by rw [e]))
theorem upds_comm (st : Store) (u u' : List (Nat × Option Blk)) (h : ∀ x ∈ u, ∀ y ∈ u', x.1 ≠ y.1) : upds (upds st u) u' = upds (upds st u') u := by
  funext b
  by_cases h1 : ∃ x ∈ u, x.1 = b
  · have h2 : ∀ y ∈ u', y.1 ≠ b := fun y hy he => by obtain ⟨x, hx, hxb⟩ := h1; exact h x hx y hy (hxb.trans he.symm)
    rw [upds_other u' _ b h2]; exact upds_same u _ _ b h1
  · have h1' : ∀ x ∈ u, x.1 ≠ b := fun x hx he => h1 ⟨x, hx, he⟩
    rw [upds_other u _ b h1']
    by_cases h2 : ∃ y ∈ u', y.1 = b
    · exact upds_same u' _ _ b h2
    · have h2' : ∀ y ∈ u', y.1 ≠ b := fun y hy he => h2 ⟨y, hy, he⟩
      rw [upds_other u' _ b h2', upds_other u' _ b h2', upds_other u _ b h1']
theorem envS_insert {S : Nat → Bool} {j : Nat} : ∀ n, j < n → (∀ i, j < i → i < n → S i = true → ∀ t, dst j = some t → dst i ≠ some t) → S j = false →
    envS dst eff env0 (fun i => S i || i == j) n = setD (envS dst eff env0 S n) (dst j) (eff j).val
  | 0, h, _, _ => by omega
  | n + 1, h, hc, hj => by
    rw [envS, envS]
    by_cases e : j = n
    · subst e
      rw [hj]
      simp only [beq_self_eq_true, Bool.or_true, if_true]
      rw [envS_congr dst eff env0 (S' := S) j fun i hi => by simp; omega]
      simp
    · have ih := envS_insert (S := S) n (by omega) (fun i h1 h2 => hc i h1 (by omega)) hj
      rw [ih]
      have hn : (n == j) = false := by simpa using (Ne.symm e)
      rw [hn, Bool.or_false]
      split
      · rename_i hs
        exact setD_comm _ _ _ (hc n (by omega) (by omega) hs)
      · rfl
theorem stS_insert {S : Nat → Bool} {j : Nat} : ∀ n, j < n → (∀ i, j < i → i < n → S i = true → ∀ x ∈ (eff j).upd, ∀ y ∈ (eff i).upd, x.1 ≠ y.1) → S j = false →
    stS eff σ0 (fun i => S i || i == j) n = upds (stS eff σ0 S n) (eff j).upd
  | 0, h, _, _ => by omega
  | n + 1, h, hc, hj => by
    rw [stS, stS]
    by_cases e : j = n
    · subst e
      rw [hj]
      simp only [beq_self_eq_true, Bool.or_true, if_true]
      rw [stS_congr eff σ0 (S' := S) j fun i hi => by simp; omega]
      simp
    · have ih := stS_insert (S := S) n (by omega) (fun i h1 h2 => hc i h1 (by omega)) hj
      rw [ih]
      have hn : (n == j) = false := by simpa using (Ne.symm e)
      rw [hn, Bool.or_false]
      split
      · rename_i hs
        exact upds_comm _ _ _ (hc n (by omega) (by omega) hs)
      · rfl
theorem envS_upto (j : Nat) : ∀ n, j ≤ n → envS dst eff env0 (fun i => decide (i < j)) n = envS dst eff env0 (fun _ => true) j
  | 0, h => by obtain rfl : j = 0 := by omega
               rfl
  | n + 1, h => by
    by_cases e : j = n + 1
    · subst e; exact envS_congr _ _ _ _ fun i hi => by simp; omega
    · rw [envS, if_neg (by simp; omega)]; exact envS_upto j n (by omega)
theorem stS_upto (j : Nat) : ∀ n, j ≤ n → stS eff σ0 (fun i => decide (i < j)) n = stS eff σ0 (fun _ => true) j
  | 0, h => by obtain rfl : j = 0 := by omega
               rfl
  | n + 1, h => by
    by_cases e : j = n + 1
    · subst e; exact stS_congr _ _ _ fun i hi => by simp; omega
    · rw [stS, if_neg (by simp; omega)]; exact stS_upto j n (by omega)
end states
/-- For each operation, as bits, those that come before it in every order. -/
def bit1 (bs : List Nat) (o : Oper) : Nat := o.after.toList.foldl (fun s e => if Region.binds .any e then (s ||| 2 ^ e.on) ||| bs.getD e.on 0 else s) 0
def befs : List Oper → List Nat → List Nat
  | [], bs => bs
  | o :: r, bs => befs r (bs ++ [bit1 bs o])
/-- What the order of a region must bear, the effects aside. -/
def lexOK (ops : Array Oper) (bs : List Nat) : Bool :=
  (List.range ops.size).all fun j => match ops[j]? with
    | none => true
    | some o => o.after.toList.all (fun e => !Region.binds .any e || Nat.blt e.on j) && (List.range j).all fun i => (bs.getD j 0).testBit i || match ops[i]? with
      | some p => p.apart ops o
      | none => true
def disj (a b : List Nat) : Bool := a.all fun x => !b.contains x
/-- What it must bear of the effects: blocks that are written, blocks that are read. -/
def effsOK (D nx : Nat) (bs : List Nat) (ks : List (List Nat × List Nat)) : Bool :=
  (List.range ks.length).all fun j =>
    (List.range j).all (fun i => (bs.getD j 0).testBit i || (disj (ks.getD i ([], [])).1 (ks.getD j ([], [])).1 && disj (ks.getD i ([], [])).1 (ks.getD j ([], [])).2 && disj (ks.getD j ([], [])).1 (ks.getD i ([], [])).2)) &&
    (ks.getD j ([], [])).1.all fun k => Nat.blt k nx || ((k - nx) / D == j) || (Nat.blt ((k - nx) / D) j && (bs.getD j 0).testBit ((k - nx) / D))
def Down (ops : Array Oper) (S : Nat → Bool) : Prop := ∀ j o, ops[j]? = some o → S j = true → ∀ e ∈ o.after, Region.binds .any e = true → S e.on = true
theorem bit1_spec {bs : List Nat} {o : Oper} {i : Nat} (h : (bit1 bs o).testBit i = true) : ∃ e ∈ o.after, Region.binds .any e = true ∧ (e.on = i ∨ (bs.getD e.on 0).testBit i = true) := by
  have key : ∀ (l : List Edge) (s : Nat), (∀ e ∈ l, e ∈ o.after) → (l.foldl (fun s e => if Region.binds .any e then (s ||| 2 ^ e.on) ||| bs.getD e.on 0 else s) s).testBit i = true →
      s.testBit i = true ∨ ∃ e ∈ o.after, Region.binds .any e = true ∧ (e.on = i ∨ (bs.getD e.on 0).testBit i = true) := by
    intro l
    induction l with
    | nil => intro s _ h; exact .inl h
    | cons e l ih =>
      intro s hm h
      rw [List.foldl_cons] at h
      rcases ih _ (fun x hx => hm x (by simp [hx])) h with h | h
      · split at h
        · rename_i hb
          rw [Nat.testBit_or, Nat.testBit_or, Bool.or_eq_true, Bool.or_eq_true] at h
          rcases h with (h | h) | h
          · exact .inl h
          · rw [Nat.testBit_two_pow] at h
            exact .inr ⟨e, hm e (by simp), hb, .inl (by simpa using h)⟩
          · exact .inr ⟨e, hm e (by simp), hb, .inr h⟩
        · exact .inl h
      · exact .inr h
  rcases key o.after.toList 0 (fun e he => by simpa using he) h with h | h
  · simp at h
  · exact h
theorem befs_spec {ops : Array Oper} {S : Nat → Bool} (hd : Down ops S) : ∀ (l : List Oper) (bs : List Nat), (∀ j, l[j]? = ops[bs.length + j]?) →
    (∀ (k : Nat) o i, k < bs.length → ops[k]? = some o → (bs.getD k 0).testBit i = true → (∀ e ∈ o.after, Region.binds .any e = true → S e.on = true) → S i = true) →
    ∀ (k : Nat) o i, ops[k]? = some o → ((befs l bs).getD k 0).testBit i = true → (∀ e ∈ o.after, Region.binds .any e = true → S e.on = true) → S i = true
  | [], bs, hl, h, k, o, i, ho, hb, hp => by
    refine h k o i ?_ ho hb hp
    rcases Nat.lt_or_ge k bs.length with h' | h'
    · exact h'
    · have := hl (k - bs.length)
      rw [show bs.length + (k - bs.length) = k by omega, ho] at this
      simp at this
  | p :: r, bs, hl, h, k, o, i, ho, hb, hp => by
    have h0 : ops[bs.length]? = some p := by simpa using (hl 0).symm
    refine befs_spec hd r (bs ++ [bit1 bs p]) (fun j => by have := hl (j + 1); simpa [Nat.add_assoc, Nat.add_comm 1 j] using this) (fun k o i hk ho hb hp => ?_) k o i ho hb hp
    rcases Nat.lt_or_ge k bs.length with h' | h'
    · refine h k o i h' ho ?_ hp
      rw [List.getD_eq_getElem?_getD, List.getElem?_append_left h', ← List.getD_eq_getElem?_getD] at hb; exact hb
    · obtain rfl : k = bs.length := by simp at hk; omega
      rw [h0] at ho; injection ho with ho; subst ho
      rw [List.getD_eq_getElem?_getD, List.getElem?_append_right (Nat.le_refl _)] at hb
      simp only [Nat.sub_self, List.getElem?_cons_zero, Option.getD_some] at hb
      obtain ⟨e, he, hbe, h1⟩ := bit1_spec hb
      have hS := hp e he hbe
      rcases h1 with rfl | h1
      · exact hS
      · rcases Nat.lt_or_ge e.on bs.length with h2 | h2
        · cases hoe : ops[e.on]? with
          | none =>
            have h3 := Array.getElem?_eq_none_iff.1 hoe
            have h4 := (Array.getElem?_eq_some_iff.1 h0).1
            omega
          | some q => exact h e.on q i h2 hoe h1 (hd e.on q hoe hS)
        · rw [List.getD_eq_getElem?_getD, List.getElem?_eq_none h2] at h1; simp at h1
end Go.Proofs.YtalklhbdpmggjaaDoor.Pw
namespace Go.Proofs.YtalklhbdpmggjaaDoor.Pw
open Go Go.RowKit
instance : Inhabited Eff := ⟨⟨.any, [], []⟩⟩
theorem chain_get {P : Program} {D : Nat} {ops : Array Oper} {nx : Nat} {env0 : List AV} {σ0 : Store} {dst : Nat → Option Tmp} {eff : Nat → Eff} (hdst : ∀ (j : Nat) o, ops[j]? = some o → dst j = o.dst)
    {l : List Oper} {i : Nat} {env env' : List AV} {st st' : List (Nat × Blk)} {es : List Eff} (h : Chain P D ops nx l i env st es env' st') :
    (∀ j, l[j]? = ops[i + j]?) → (∀ (j : Nat) e, es[j]? = some e → eff (i + j) = e) → env = envS dst eff env0 (fun _ => true) i → get st = stS eff σ0 (fun _ => true) i →
    (∀ (j : Nat) o, i ≤ j → ops[j]? = some o → OpOK P D ops o (nx + D * j) (envS dst eff env0 (fun _ => true) j) (stS eff σ0 (fun _ => true) j) (eff j) ∧ ∀ x ∈ (eff j).upd, x.1 < nx + D * (j + 1)) ∧
      env' = envS dst eff env0 (fun _ => true) (i + l.length) ∧ get st' = stS eff σ0 (fun _ => true) (i + l.length) ∧ es.length = l.length := by
  induction h with
  | nil i env st =>
    intro hl _ he hs
    refine ⟨fun j o hj ho => ?_, he, hs, rfl⟩
    have := hl (j - i)
    rw [show i + (j - i) = j by omega, ho] at this
    simp at this
  | cons o r i env st e es env' st' hok hb _ ih =>
    intro hl hes he hs
    have ho : ops[i]? = some o := by simpa using (hl 0).symm
    have hei : eff i = e := by simpa using hes 0 e rfl
    obtain ⟨h1, h2, h3, h4⟩ := ih (fun j => by have := hl (j + 1); simpa [Nat.add_assoc, Nat.add_comm 1 j] using this) (fun j e' hj => by have := hes (j + 1) e' (by simpa using hj); rwa [show i + 1 + j = i + (j + 1) by omega])
      (by rw [envS, if_pos rfl, ← he, hdst i o ho, hei]) (by rw [get_puts, stS, if_pos rfl, ← hs, hei])
    have e1 : i + 1 + r.length = i + (o :: r).length := by rw [List.length_cons]; omega
    rw [e1] at h2 h3
    refine ⟨fun j o' hj ho' => ?_, h2, h3, by simp [h4]⟩
    rcases Nat.lt_or_ge i j with h' | h'
    · exact h1 j o' (by omega) ho'
    · obtain rfl : i = j := by omega
      rw [ho] at ho'; injection ho' with ho'; subst ho'
      rw [← he, ← hs, hei]
      exact ⟨hok, hb⟩
def cnt (S : Nat → Bool) : Nat → Nat
  | 0 => 0
  | n + 1 => cnt S n + if S n then 1 else 0
theorem cnt_le (S : Nat → Bool) : ∀ n, cnt S n ≤ n
  | 0 => Nat.le_refl _
  | n + 1 => by have := cnt_le S n; rw [cnt]; split <;> omega
theorem cnt_full {S : Nat → Bool} : ∀ n, cnt S n = n → ∀ i, i < n → S i = true
  | 0, _, i, h => by omega
  | n + 1, h, i, hi => by
    have hle := cnt_le S n
    rw [cnt] at h
    split at h
    · rename_i hs
      by_cases e : i = n
      · rw [e]; exact hs
      · exact cnt_full n (by omega) i (by omega)
    · omega
theorem cnt_congr {S S' : Nat → Bool} : ∀ n, (∀ i, i < n → S i = S' i) → cnt S n = cnt S' n
  | 0, _ => rfl
  | n + 1, h => by rw [cnt, cnt, cnt_congr n (fun i hi => h i (by omega)), h n (by omega)]
theorem cnt_insert {S : Nat → Bool} {j : Nat} (hj : S j = false) : ∀ n, j < n → cnt (fun i => S i || i == j) n = cnt S n + 1
  | 0, h => by omega
  | n + 1, h => by
    rw [cnt, cnt]
    by_cases e : j = n
    · subst e
      rw [cnt_congr (S' := S) j fun i hi => by simp; omega, hj]; simp
    · rw [cnt_insert hj n (by omega)]
      have hn : (n == j) = false := by simpa using (Ne.symm e)
      rw [hn, Bool.or_false]; omega
theorem getD_true_false {l : Array Bool} {i : Nat} (h : i < l.size) : l.getD i true = l.getD i false := by simp [h]
theorem disj_spec {a b : List Nat} (h : disj a b = true) : ∀ x ∈ a, x ∉ b := by
  intro x hx hb
  have := List.all_eq_true.1 h x hx
  simp at this
  exact this hb
theorem div_range {D i q : Nat} (hq : q < D) : (D * i + q) / D = i := by
  rw [Nat.mul_add_div (by omega), Nat.div_eq_of_lt hq]; rfl
theorem region_drawn {P : Program} {D : Nat} (hD : 0 < D) {ops : Array Oper} {nx : Nat} {env0 env' : List AV} {st0 st' : List (Nat × Blk)} {es : List Eff} (hC : Chain P D ops nx ops.toList 0 env0 st0 es env' st')
    (hlex : lexOK ops (befs ops.toList []) = true) (heff : effsOK D nx (befs ops.toList []) (es.map fun e => (e.upd.map (·.1), e.rd)) = true)
    {F : Nat → Prop} {μ0 : Nat → Option Nat} {W0 : World} {ds : List Deferred} (hf0 : ∀ b, nx ≤ b → get st0 b = none) {Q : Exit → Act → World → Prop}
    (hQ : ∀ μ' W' a', Behind nx F μ0 st0 W0 ds env' st' (nx + D * ops.size) μ' W' a' → Q .normal a' W') :
    ∀ (fuel : Nat) (listed : Array Bool) (a : Act) (W : World) (μ : Nat → Option Nat), listed.size = ops.size → fuel + cnt (fun i => listed.getD i false) ops.size = ops.size → Down ops (fun i => listed.getD i false) →
      RepS F μ (stS (fun i => es.getD i default) (get st0) (fun i => listed.getD i false) ops.size) W →
      RepE (Mut F μ (stS (fun i => es.getD i default) (get st0) (fun i => listed.getD i false) ops.size)) μ W (envS (fun i => (ops[i]?).bind (·.dst)) (fun i => es.getD i default) env0 (fun i => listed.getD i false) ops.size) a.tmps →
      a.defers = ds → (∀ b, nx ≤ b → (∀ i, i < ops.size → listed.getD i false = true → ¬ (nx + D * i ≤ b ∧ b < nx + D * (i + 1))) → μ b = none) →
      Ext F (Mut F μ0 (get st0)) μ0 W0 (Mut F μ (stS (fun i => es.getD i default) (get st0) (fun i => listed.getD i false) ops.size)) μ W → (∀ b, b < nx → μ b = μ0 b) → wpAny P .any ops Q fuel listed a W := by
  obtain ⟨hok, henv, hst, hlen⟩ := chain_get (env0 := env0) (σ0 := get st0) (dst := fun i => (ops[i]?).bind (·.dst)) (eff := fun i => es.getD i default) (fun j o ho => by simp [ho]) hC (by simp) (fun j e he => by simp [List.getD_eq_getElem?_getD, he]) rfl rfl
  simp only [Nat.zero_add, Array.length_toList] at henv hst hlen
  -- the pairs
  have pair : ∀ (i j : Nat) oi oj, i < j → ops[i]? = some oi → ops[j]? = some oj → ((befs ops.toList []).getD j 0).testBit i = true ∨ (oi.apart ops oj = true ∧
      (∀ x ∈ (es.getD i default).upd, ∀ y ∈ (es.getD j default).upd, x.1 ≠ y.1) ∧ (∀ x ∈ (es.getD i default).upd, x.1 ∉ (es.getD j default).rd) ∧ (∀ x ∈ (es.getD j default).upd, x.1 ∉ (es.getD i default).rd)) := fun i j oi oj hij hi hj => by
    have hjl : j < ops.size := (Array.getElem?_eq_some_iff.1 hj).1
    have h1 := List.all_eq_true.1 hlex j (List.mem_range.2 hjl)
    rw [hj] at h1
    simp only [Bool.and_eq_true] at h1
    have h2 := List.all_eq_true.1 h1.2 i (List.mem_range.2 hij)
    rw [hi, Bool.or_eq_true] at h2
    have h3 := List.all_eq_true.1 heff j (List.mem_range.2 (by simpa [hlen] using hjl))
    simp only [Bool.and_eq_true] at h3
    have h4 := List.all_eq_true.1 h3.1 i (List.mem_range.2 hij)
    rw [Bool.or_eq_true] at h4
    rcases h2 with h2 | h2
    · exact .inl h2
    rcases h4 with h4 | h4
    · exact .inl h4
    right
    have gk : ∀ k, k < ops.size → (es.map fun e => (e.upd.map (·.1), e.rd)).getD k ([], []) = ((es.getD k default).upd.map (·.1), (es.getD k default).rd) := fun k hk => by
      rw [List.getD_eq_getElem?_getD, List.getD_eq_getElem?_getD, List.getElem?_map, List.getElem?_eq_getElem (by omega)]; rfl
    rw [gk i (by omega), gk j hjl] at h4
    simp only [Bool.and_eq_true] at h4
    refine ⟨h2, fun x hx y hy e => ?_, fun x hx hr => ?_, fun x hx hr => ?_⟩
    · exact disj_spec h4.1.1 x.1 (List.mem_map.2 ⟨x, hx, rfl⟩) (List.mem_map.2 ⟨y, hy, e.symm⟩)
    · exact disj_spec h4.1.2 x.1 (List.mem_map.2 ⟨x, hx, rfl⟩) hr
    · exact disj_spec h4.2 x.1 (List.mem_map.2 ⟨x, hx, rfl⟩) hr
  have keys : ∀ (j : Nat), j < ops.size → ∀ x ∈ (es.getD j default).upd, x.1 < nx ∨ (x.1 - nx) / D = j ∨ ((x.1 - nx) / D < j ∧ ((befs ops.toList []).getD j 0).testBit ((x.1 - nx) / D) = true) := fun j hj x hx => by
    have h3 := List.all_eq_true.1 heff j (List.mem_range.2 (by simpa [hlen] using hj))
    simp only [Bool.and_eq_true] at h3
    have gk : (es.map fun e => (e.upd.map (·.1), e.rd)).getD j ([], []) = ((es.getD j default).upd.map (·.1), (es.getD j default).rd) := by
      rw [List.getD_eq_getElem?_getD, List.getD_eq_getElem?_getD, List.getElem?_map, List.getElem?_eq_getElem (by omega)]; rfl
    rw [gk] at h3
    have h4 := List.all_eq_true.1 h3.2 x.1 (List.mem_map.2 ⟨x, hx, rfl⟩)
    simp only [Bool.or_eq_true, Bool.and_eq_true, beq_iff_eq, Nat.blt_eq] at h4
    rcases h4 with (h4 | h4) | h4
    · exact .inl h4
    · exact .inr (.inl h4)
    · exact .inr (.inr h4)
  have edges : ∀ (j : Nat) o, ops[j]? = some o → ∀ e ∈ o.after, Region.binds .any e = true → e.on < j := fun j o ho e he hb => by
    have hjl : j < ops.size := (Array.getElem?_eq_some_iff.1 ho).1
    have h1 := List.all_eq_true.1 hlex j (List.mem_range.2 hjl)
    rw [ho] at h1
    simp only [Bool.and_eq_true] at h1
    have := List.all_eq_true.1 h1.1 e (by simpa using he)
    simpa [hb] using this
  have finish : ∀ (listed : Array Bool) (a : Act) (W : World) (μ : Nat → Option Nat), (∀ i, i < ops.size → listed.getD i false = true) →
      RepS F μ (stS (fun i => es.getD i default) (get st0) (fun i => listed.getD i false) ops.size) W →
      RepE (Mut F μ (stS (fun i => es.getD i default) (get st0) (fun i => listed.getD i false) ops.size)) μ W (envS (fun i => (ops[i]?).bind (·.dst)) (fun i => es.getD i default) env0 (fun i => listed.getD i false) ops.size) a.tmps →
      a.defers = ds → (∀ b, nx ≤ b → (∀ i, i < ops.size → listed.getD i false = true → ¬ (nx + D * i ≤ b ∧ b < nx + D * (i + 1))) → μ b = none) →
      Ext F (Mut F μ0 (get st0)) μ0 W0 (Mut F μ (stS (fun i => es.getD i default) (get st0) (fun i => listed.getD i false) ops.size)) μ W → (∀ b, b < nx → μ b = μ0 b) → Q .normal a W := fun listed a W μ hall hS hE hd hf hx hlo => by
    rw [stS_congr _ _ (S' := fun _ => true) ops.size fun i hi => hall i hi] at hS hE hx
    rw [envS_congr _ _ _ (S' := fun _ => true) ops.size fun i hi => hall i hi] at hE
    rw [← hst] at hS hE hx
    rw [← henv] at hE
    refine hQ μ W a ⟨hS, hE, hd, fun b hb => ⟨hf b (by omega) fun i hi _ hr => ?_, ?_⟩, hx, hlo⟩
    · have : D * (i + 1) ≤ D * ops.size := Nat.mul_le_mul_left D (by omega)
      omega
    · rw [hst]
      have : stS (fun i => es.getD i default) (get st0) (fun _ => true) ops.size b = stS (fun i => es.getD i default) (get st0) (fun _ => false) ops.size b := by
        refine stS_get _ _ ops.size fun i hi hx => ?_
        obtain ⟨x, hx, rfl⟩ := hx
        cases ho : ops[i]? with
        | none => have := Array.getElem?_eq_none_iff.1 ho; omega
        | some o =>
          have := (hok i o (Nat.zero_le _) ho).2 x hx
          have h2 : D * (i + 1) ≤ D * ops.size := Nat.mul_le_mul_left D (by omega)
          omega
      rw [this]
      have none : ∀ n, stS (fun i => es.getD i default) (get st0) (fun _ => false) n = get st0 := fun n => by
        induction n with
        | zero => rfl
        | succ n ih => rw [stS, if_neg (by simp), ih]
      rw [none]
      exact hf0 b (by omega)
  intro fuel
  induction fuel with
  | zero =>
    intro listed a W μ hsz hcnt _ hS hE hd hf hx hlo
    have hall := cnt_full ops.size (by omega : cnt (fun i => listed.getD i false) ops.size = ops.size)
    refine ⟨?_, finish listed a W μ hall hS hE hd hf hx hlo⟩
    cases hr : Region.ready .any ops listed with
    | nil => rfl
    | cons j r =>
      have hj : j ∈ Region.ready .any ops listed := by rw [hr]; simp
      obtain ⟨h0, o, ho, _⟩ := mem_ready.1 hj
      have hjl : j < ops.size := (Array.getElem?_eq_some_iff.1 ho).1
      rw [getD_true_false (by omega)] at h0
      rw [hall j hjl] at h0; cases h0
  | succ fuel ih =>
    intro listed a W μ hsz hcnt hdown hS hE hd hf hx hlo
    refine ⟨fun hr => ?_, fun i hi => ?_⟩
    · refine finish listed a W μ ?_ hS hE hd hf hx hlo
      intro i
      induction i using Nat.strongRecOn with
      | _ i ihi =>
        intro hil
        cases hS' : listed.getD i false with
        | true => rfl
        | false =>
          exfalso
          cases ho : ops[i]? with
          | none => have := Array.getElem?_eq_none_iff.1 ho; omega
          | some o =>
            have : i ∈ Region.ready .any ops listed := mem_ready.2 ⟨by rw [getD_true_false (by omega)]; exact hS', o, ho, fun e he hb => ihi e.on (edges i o ho e he hb) (by have := edges i o ho e he hb; omega)⟩
            rw [hr] at this; cases this
    · obtain ⟨h0, o, ho, hpre⟩ := mem_ready.1 hi
      have hil : i < ops.size := (Array.getElem?_eq_some_iff.1 ho).1
      rw [getD_true_false (by omega)] at h0
      have before : ∀ k, ((befs ops.toList []).getD i 0).testBit k = true → listed.getD k false = true := fun k hk => befs_spec hdown ops.toList [] (by simp) (fun k o i hk => by simp at hk) i o k ho hk hpre
      have later : ∀ (k : Nat) ok, ops[k]? = some ok → listed.getD k false = true → ((befs ops.toList []).getD k 0).testBit i = true → False := fun k ok hok' hk hb => by
        have := befs_spec hdown ops.toList [] (by simp) (fun k o i hk => by simp at hk) k ok i hok' hb (hdown k ok hok' hk)
        rw [h0] at this; cases this
      have some_of : ∀ k, k < ops.size → ∃ ok, ops[k]? = some ok := fun k hk => ⟨ops[k], Array.getElem?_eq_getElem hk⟩
      have hOK := (hok i o (Nat.zero_le _) ho).1
      unfold wpOp
      rw [ho]
      simp only
      have goal : (if Region.wanted o (yielded ops a.tmps) then o.wp P a W (wpAny P .any ops Q fuel (listed.setIfInBounds i true)) Q else wpAny P .any ops Q fuel (listed.setIfInBounds i true) (a.put o.dst undef) W) := by
        refine hOK F μ _ W a _ hS hE (fun t ht => ?_) (fun b hb => ?_) (fun q hq => ⟨?_, ?_⟩) _ Q fun v μ' W' hA => ?_
        · rw [← envS_upto _ _ _ i ops.size (by omega)]
          refine envS_get _ _ _ ops.size fun k hk hkt => ?_
          obtain ⟨ok, hok'⟩ := some_of k hk
          have hkd : ok.dst = some t := by simpa [hok'] using hkt
          by_cases h1 : k < i
          · rcases pair k i ok o h1 hok' ho with hb | ⟨ha, _⟩
            · simp only [h1, decide_true]; exact before k hb
            · exact absurd ht ((Oper.apart_spec ha).1 t hkd)
          · by_cases h2 : k = i
            · subst h2; simpa using h0
            · simp only [h1, decide_false]
              cases hSk : listed.getD k false with
              | false => rfl
              | true =>
                exfalso
                rcases pair i k o ok (by omega) ho hok' with hb | ⟨ha, _⟩
                · exact later k ok hok' hSk hb
                · exact (Oper.apart_spec ha).2.2 t hkd ht
        · rw [← stS_upto _ _ i ops.size (by omega)]
          refine stS_get _ _ ops.size fun k hk ⟨x, hxu, hxb⟩ => ?_
          obtain ⟨ok, hok'⟩ := some_of k hk
          by_cases h1 : k < i
          · rcases pair k i ok o h1 hok' ho with hb' | ⟨_, _, ha, _⟩
            · simp only [h1, decide_true]; exact before k hb'
            · exact absurd hb (hxb ▸ ha x hxu)
          · by_cases h2 : k = i
            · subst h2; simpa using h0
            · simp only [h1, decide_false]
              cases hSk : listed.getD k false with
              | false => rfl
              | true =>
                exfalso
                rcases pair i k o ok (by omega) ho hok' with hb' | ⟨_, _, _, ha⟩
                · exact later k ok hok' hSk hb'
                · exact ha x hxu (hxb ▸ hb)
        · refine hf _ (by omega) fun k hk hSk hr => ?_
          have hki : k ≠ i := fun e => by subst e; rw [h0] at hSk; cases hSk
          rcases Nat.lt_or_ge k i with h1 | h1
          · have : D * (k + 1) ≤ D * i := Nat.mul_le_mul_left D h1
            omega
          · have : D * (i + 1) ≤ D * k := Nat.mul_le_mul_left D (by omega)
            rw [Nat.mul_succ] at this
            omega
        · have hnone : stS (fun i => es.getD i default) (get st0) (fun i => listed.getD i false) ops.size (nx + D * i + q) = stS (fun i => es.getD i default) (get st0) (fun _ => false) ops.size (nx + D * i + q) := by
            refine stS_get _ _ ops.size fun k hk ⟨x, hxu, hxb⟩ => ?_
            obtain ⟨ok, hok'⟩ := some_of k hk
            cases hSk : listed.getD k false with
            | false => rfl
            | true =>
              exfalso
              have hdiv : (x.1 - nx) / D = i := by
                rw [hxb, show nx + D * i + q - nx = D * i + q by omega]; exact div_range hq
              rcases keys k hk x hxu with h1 | h1 | h1
              · omega
              · rw [hdiv] at h1; subst h1; rw [h0] at hSk; cases hSk
              · rw [hdiv] at h1; exact later k ok hok' hSk h1.2
          rw [hnone]
          have none : ∀ n, stS (fun i => es.getD i default) (get st0) (fun _ => false) n = get st0 := fun n => by
            induction n with
            | zero => rfl
            | succ n ih => rw [stS, if_neg (by simp), ih]
          rw [none]; exact hf0 _ (by omega)
        · obtain ⟨h1, h2, h3, h4⟩ := hA
          have hSeq : (fun k => (listed.setIfInBounds i true).getD k false) = fun k => listed.getD k false || k == i := by
            funext k
            by_cases e : i = k
            · subst e; simp [hsz, hil]
            · rw [getD_set_ne false e, show (k == i) = false by simpa using Ne.symm e, Bool.or_false]
          have hst' : stS (fun i => es.getD i default) (get st0) (fun k => (listed.setIfInBounds i true).getD k false) ops.size = upds (stS (fun i => es.getD i default) (get st0) (fun k => listed.getD k false) ops.size) (es.getD i default).upd := by
            rw [hSeq]
            refine stS_insert _ _ ops.size hil (fun k hk1 hk2 hSk x hxu y hyu => ?_) h0
            obtain ⟨ok, hok'⟩ := some_of k hk2
            rcases pair i k o ok hk1 ho hok' with hb' | ⟨_, ha, _⟩
            · exact (later k ok hok' hSk hb').elim
            · exact ha x hxu y hyu
          have henv' : envS (fun i => (ops[i]?).bind (·.dst)) (fun i => es.getD i default) env0 (fun k => (listed.setIfInBounds i true).getD k false) ops.size = setD (envS (fun i => (ops[i]?).bind (·.dst)) (fun i => es.getD i default) env0 (fun k => listed.getD k false) ops.size) o.dst (es.getD i default).val := by
            rw [hSeq]
            have := envS_insert (fun i => (ops[i]?).bind (·.dst)) (fun i => es.getD i default) env0 (S := fun k => listed.getD k false) (j := i) ops.size hil (fun k hk1 hk2 hSk t hdt hkt => ?_) h0
            · simpa [ho] using this
            · obtain ⟨ok, hok'⟩ := some_of k hk2
              rcases pair i k o ok hk1 ho hok' with hb' | ⟨ha, _⟩
              · exact (later k ok hok' hSk hb').elim
              · exact (Oper.apart_spec ha).2.1 t (by simpa [ho] using hdt) (by simpa [hok'] using hkt)
          refine ih (listed.setIfInBounds i true) _ W' μ' (by simpa using hsz) ?_ (fun j oj hj hSj e he hb => ?_) (by rw [hst']; exact h1) (by rw [hst', henv']; exact setD_put (hE.ext h3) h2 o.dst) ((put_defers _ _ _).trans hd) (fun b hb hout => ?_) (by rw [hst']; exact hx.trans h3) (fun b hb => (h4 b (.inl (by omega))).trans (hlo b hb))
          · rw [hSeq, cnt_insert h0 _ hil]; omega
          · have hSj' : (listed.getD j false || j == i) = true := by rw [← hSj]; exact (congrFun hSeq j).symm
            show (listed.setIfInBounds i true).getD e.on false = true
            refine getD_set_true ?_
            rw [Bool.or_eq_true, beq_iff_eq] at hSj'
            rcases hSj' with h5 | h5
            · exact hdown j oj hj h5 e he hb
            · subst h5; rw [ho] at hj; injection hj with hj; subst hj; exact hpre e he hb
          · have hmem : (listed.setIfInBounds i true).getD i false = true := by rw [congrFun hSeq i]; simp
            have hni := hout i hil hmem
            rw [Nat.mul_succ] at hni
            rw [h4 b (by omega)]
            exact hf b hb fun k hk hSk => hout k hk (getD_set_true hSk)
      by_cases hw : Region.wanted o (yielded ops a.tmps) = true
      · rw [if_pos hw] at goal ⊢; exact .inl goal
      · rw [if_neg hw] at goal ⊢; exact goal
end Go.Proofs.YtalklhbdpmggjaaDoor.Pw
namespace Go.Proofs.YtalklhbdpmggjaaDoor.Pw
open Go Go.RowKit
inductive X where
  | normal
  | exit (id : Nat)
  | ret
def X.of : X → Exit | .normal => .normal | .exit id => .exit id | .ret => .ret
/-- What is kept; of the call's own blocks, where those numbered below 'base' lie. -/
structure Keep (base : Nat) (F M : Nat → Prop) (μ : Nat → Option Nat) (W : World) (M' : Nat → Prop) (μ' : Nat → Option Nat) (W' : World) : Prop where
  size : W.heap.size ≤ W'.heap.size
  keep : ∀ B, B < W.heap.size → ¬ M B → W'.heap[B]? = W.heap[B]?
  shape : ∀ (B : Nat) c el, W.heap[B]? = some (.cells c el (0, 0)) → ∃ c', W'.heap[B]? = some (.cells c' el (0, 0)) ∧ c'.size = c.size
  grow : ∀ b, b < base → μ' b = μ b
  fresh : ∀ B, B < W.heap.size → M' B → M B
  os : W'.os = W.os
  tape : W'.tape = W.tape
  output : W'.output = W.output
  keepF : ∀ B, F B → W'.heap[B]? = W.heap[B]?
theorem Ext.to {F M M' : Nat → Prop} {μ μ' : Nat → Option Nat} {W W' : World} (base : Nat) (hlo : ∀ b, b < base → μ' b = μ b) (h : Ext F M μ W M' μ' W') : Keep base F M μ W M' μ' W' := ⟨h.size, h.keep, h.shape, hlo, h.fresh, h.os, h.tape, h.output, h.keepF⟩
theorem Keep.trans {base : Nat} {F M M' M'' : Nat → Prop} {μ μ' μ'' : Nat → Option Nat} {W W' W'' : World} (h : Keep base F M μ W M' μ' W') (k : Keep base F M' μ' W' M'' μ'' W'') : Keep base F M μ W M'' μ'' W'' where
  size := Nat.le_trans h.size k.size
  keep B hB hM := (k.keep B (Nat.lt_of_lt_of_le hB h.size) (fun hm => hM (h.fresh B hB hm))).trans (h.keep B hB hM)
  shape B c el hc := by
    obtain ⟨c1, h1, e1⟩ := h.shape B c el hc
    obtain ⟨c2, h2, e2⟩ := k.shape B c1 el h1
    exact ⟨c2, h2, e2.trans e1⟩
  grow b hb := (k.grow b hb).trans (h.grow b hb)
  fresh B hB hm := h.fresh B hB (k.fresh B (Nat.lt_of_lt_of_le hB h.size) hm)
  os := k.os.trans h.os
  tape := k.tape.trans h.tape
  output := k.output.trans h.output
  keepF B hB := (k.keepF B hB).trans (h.keepF B hB)
abbrev Stores := List (Nat × Blk)
/-- The machine stands where the abstract state says. -/
structure At (F : Nat → Prop) (μ : Nat → Option Nat) (env : List AV) (st : Stores) (nx : Nat) (W : World) (a : Act) : Prop where
  rs : RepS F μ (get st) W
  re : RepE (Mut F μ (get st)) μ W env a.tmps
  df : a.defers = []
  fr : ∀ b, nx ≤ b → μ b = none ∧ get st b = none
abbrev PostA := X → List AV → Stores → Nat → Prop
def QC (base : Nat) (Q : PostA) (F : Nat → Prop) (μ : Nat → Option Nat) (st : Stores) (W : World) : Exit → Act → World → Prop := fun e a' W' =>
  ∃ x env' st' nx' μ', e = X.of x ∧ Q x env' st' nx' ∧ base ≤ nx' ∧ At F μ' env' st' nx' W' a' ∧ Keep base F (Mut F μ (get st)) μ W (Mut F μ' (get st')) μ' W'
def WP (P : Program) (base : Nat) (c : Code) (Q : PostA) (env : List AV) (st : Stores) (nx : Nat) : Prop :=
  base ≤ nx → ∀ F μ W a, At F μ env st nx W a → c.wp P (QC base Q F μ st W) a W
/-- A loop, from where its round begins. -/
def LW (P : Program) (c : Code) (Q : Exit → Act → World → Prop) (a : Act) (w : World) : Prop :=
  ∀ (b : Frame) (k : List Item) (cs : List Frame), ∃ e a' w', Q e a' w' ∧ Arrives P (lone (b.at a (.code c :: .inLoop c :: k)) cs w) b k cs e a' w'
theorem LW.wp {P : Program} {c : Code} {Q : Exit → Act → World → Prop} {a : Act} {w : World} (h : LW P c Q a w) : (Code.loop c).wp P Q a w := fun b k cs => by
  obtain ⟨e, a', w', hq, harr⟩ := h b k cs
  exact ⟨e, a', w', hq, .of_steps (.one step_loop) harr⟩
theorem LW.unroll {P : Program} {c : Code} {Q : Exit → Act → World → Prop} {a : Act} {w : World} (h : c.wp P (Exit.then (LW P c Q) Q) a w) : LW P c Q a w := fun b k cs => by
  obtain ⟨e, a₁, w₁, hq, harr⟩ := h b (.inLoop c :: k) cs
  cases e with
  | normal =>
    obtain ⟨e₂, a₂, w₂, hq₂, harr₂⟩ := hq b k cs
    exact ⟨e₂, a₂, w₂, hq₂, .of_steps (Steps.trans harr (.one step_inLoop)) harr₂⟩
  | exit id => exact ⟨_, a₁, w₁, hq, .pass (x := .inLoop c) rfl (fun _ _ => .inl (by simp)) harr⟩
  | goto l => exact ⟨_, a₁, w₁, hq, .pass (x := .inLoop c) rfl (fun _ _ => .inl (by simp)) harr⟩
  | ret => exact ⟨_, a₁, w₁, hq, .pass (x := .inLoop c) rfl (fun _ _ => .inl (by simp)) harr⟩
  | panic ch => exact ⟨_, a₁, w₁, hq, .pass (x := .inLoop c) rfl (fun _ _ => .inl (by simp)) harr⟩
  | outgrown => exact ⟨_, a₁, w₁, hq, .pass (x := .inLoop c) rfl (fun _ _ => .inl (by simp)) harr⟩
theorem LW.mono {P : Program} {c : Code} {Q Q' : Exit → Act → World → Prop} {a : Act} {w : World} (h : LW P c Q a w) (hq : ∀ e a w, Q e a w → Q' e a w) : LW P c Q' a w := fun b k cs => by
  obtain ⟨e, a', w', h1, h2⟩ := h b k cs
  exact ⟨e, a', w', hq _ _ _ h1, h2⟩
def WPL (P : Program) (base : Nat) (c : Code) (Q : PostA) (env : List AV) (st : Stores) (nx : Nat) : Prop :=
  base ≤ nx → ∀ F μ W a, At F μ env st nx W a → LW P c (QC base Q F μ st W) a W
section rules
variable {P : Program} {base : Nat} {Q : PostA} {env : List AV} {st : Stores} {nx : Nat}
theorem QC.trans {F : Nat → Prop} {μ μ' : Nat → Option Nat} {st' : Stores} {W W' : World} (hk : Keep base F (Mut F μ (get st)) μ W (Mut F μ' (get st')) μ' W') {e : Exit} {a : Act} {W2 : World}
    (h : QC base Q F μ' st' W' e a W2) : QC base Q F μ st W e a W2 := by
  obtain ⟨x, env2, st2, nx2, μ2, h1, h2, h3, h4, h5⟩ := h
  exact ⟨x, env2, st2, nx2, μ2, h1, h2, h3, h4, hk.trans h5⟩
theorem Keep.refl (base : Nat) (F M : Nat → Prop) (μ : Nat → Option Nat) (W : World) : Keep base F M μ W M μ W := (Ext.refl F M μ W).to base fun _ _ => rfl
theorem QC.here {F : Nat → Prop} {μ : Nat → Option Nat} {W : World} {a : Act} {x : X} (h : At F μ env st nx W a) (hb : base ≤ nx) (hq : Q x env st nx) : QC base Q F μ st W x.of a W :=
  ⟨x, env, st, nx, μ, rfl, hq, hb, h, Keep.refl _ _ _ _ _⟩
theorem WP_skip (h : Q .normal env st nx) : WP P base .skip Q env st nx := fun hb _ _ _ _ hA => wp_skip (QC.here (x := .normal) hA hb h)
theorem WP_exit {id : Nat} (h : Q (.exit id) env st nx) : WP P base (.exit id) Q env st nx := fun hb _ _ _ _ hA => wp_exit (QC.here (x := .exit id) hA hb h)
theorem WP_ret (h : Q .ret env st nx) : WP P base .ret Q env st nx := fun hb _ _ _ _ hA => wp_ret (QC.here (x := .ret) hA hb h)
theorem WP_mono {c : Code} {Q' : PostA} (h : WP P base c Q env st nx) (hq : ∀ x env st nx, Q x env st nx → Q' x env st nx) : WP P base c Q' env st nx := fun hb F μ W a hA =>
  wp_mono (h hb F μ W a hA) fun _ _ _ ⟨x, env2, st2, nx2, μ2, h1, h2, h3⟩ => ⟨x, env2, st2, nx2, μ2, h1, hq _ _ _ _ h2, h3⟩
def seqK (P : Program) (base : Nat) (y : Code) (Q : PostA) : PostA := fun x env st nx => match x with
  | .normal => WP P base y Q env st nx
  | x => Q x env st nx
theorem WP_seq {x y : Code} (h : WP P base x (seqK P base y Q) env st nx) : WP P base (.seq x y) Q env st nx := fun hb F μ W a hA => by
  refine wp_seq (wp_mono (h hb F μ W a hA) ?_)
  rintro e a' W' ⟨x, env2, st2, nx2, μ2, rfl, h2, h3, h4, h5⟩
  cases x with
  | normal => exact wp_mono (h2 h3 F μ2 W' a' h4) fun _ _ _ hq => hq.trans h5
  | exit id => exact ⟨_, env2, st2, nx2, μ2, rfl, h2, h3, h4, h5⟩
  | ret => exact ⟨_, env2, st2, nx2, μ2, rfl, h2, h3, h4, h5⟩
theorem WP_cond {c : Operand} {x y : Code} {t : Bool} (hc : ev env c = .p (.v (.bool t))) (h : WP P base (if t then x else y) Q env st nx) : WP P base (.cond c x y) Q env st nx := fun hb F μ W a hA => by
  have := hA.re.eval c
  rw [hc] at this
  exact wp_cond this.v_inv (h hb F μ W a hA)
theorem WP_cond2 {c : Operand} {x y : Code} {t : Bool} (hc : ev env c = .p (.v (.bool t))) (h1 : t = true → WP P base x Q env st nx) (h2 : t = false → WP P base y Q env st nx) : WP P base (.cond c x y) Q env st nx :=
  WP_cond hc (by cases t; exact h2 rfl; exact h1 rfl)
def blockK (id : Nat) (Q : PostA) : PostA := fun x env st nx => match x with
  | .exit i => if i = id then Q .normal env st nx else Q (.exit i) env st nx
  | x => Q x env st nx
theorem WP_block {id : Nat} {c : Code} (h : WP P base c (blockK id Q) env st nx) : WP P base (.block id c) Q env st nx := fun hb F μ W a hA => by
  refine wp_block (wp_mono (h hb F μ W a hA) ?_)
  rintro e a' W' ⟨x, env2, st2, nx2, μ2, rfl, h2, h3, h4, h5⟩
  cases x with
  | normal => exact ⟨_, env2, st2, nx2, μ2, rfl, h2, h3, h4, h5⟩
  | ret => exact ⟨_, env2, st2, nx2, μ2, rfl, h2, h3, h4, h5⟩
  | exit i =>
    simp only [blockK] at h2
    simp only [X.of, Exit.inBlock]
    split at h2
    · rename_i e; rw [if_pos e]; exact ⟨.normal, env2, st2, nx2, μ2, rfl, h2, h3, h4, h5⟩
    · rename_i e; rw [if_neg e]; exact ⟨.exit i, env2, st2, nx2, μ2, rfl, h2, h3, h4, h5⟩
def loopK (P : Program) (base : Nat) (c : Code) (Q : PostA) : PostA := fun x env st nx => match x with
  | .normal => WPL P base c Q env st nx
  | x => Q x env st nx
theorem WP_loop {c : Code} (h : WPL P base c Q env st nx) : WP P base (.loop c) Q env st nx := fun hb F μ W a hA => (h hb F μ W a hA).wp
theorem WPL_unroll {c : Code} (h : WP P base c (loopK P base c Q) env st nx) : WPL P base c Q env st nx := fun hb F μ W a hA => by
  refine .unroll (wp_mono (h hb F μ W a hA) ?_)
  rintro e a' W' ⟨x, env2, st2, nx2, μ2, rfl, h2, h3, h4, h5⟩
  cases x with
  | normal => exact (h2 h3 F μ2 W' a' h4).mono fun _ _ _ hq => hq.trans h5
  | exit id => exact ⟨_, env2, st2, nx2, μ2, rfl, h2, h3, h4, h5⟩
  | ret => exact ⟨_, env2, st2, nx2, μ2, rfl, h2, h3, h4, h5⟩
theorem RepS.drew {F : Nat → Prop} {μ : Nat → Option Nat} {s : Store} {W : World} (h : RepS F μ s W) : RepS F μ s W.drew ∧ Ext F (Mut F μ s) μ W (Mut F μ s) μ W.drew := by
  have ext : Ext F (Mut F μ s) μ W (Mut F μ s) μ W.drew := ⟨Nat.le_refl _, fun _ _ _ => rfl, fun _ c _ hc => ⟨c, hc, rfl⟩, fun _ _ hb => hb, fun _ _ hm => hm, rfl, rfl, rfl, fun _ _ => rfl⟩
  refine ⟨⟨fun b k hk => ?_, h.inj, h.low⟩, ext⟩
  rcases h.at_ b k hk with h0 | ⟨B, c, hB, hF, hc, hl, h1, hr⟩
  · exact .inl h0
  · exact .inr ⟨B, c, hB, hF, hc, hl, h1, fun j a ha => (hr j a ha).ext ext⟩
theorem WP_region {T : Tab} (hT : TOK P T) (hm : P.follows .mixedOrders = true) {D : Nat} (hD : 0 < D) {id : Nat} {ops : Array Oper} {draw : Bool} (hlex : draw = true → lexOK ops (befs ops.toList []) = true)
    (h : opsW P T D ops.toList nx ops.toList 0 env st [] fun env' st' acc => (draw = true → effsOK D nx (befs ops.toList []) (acc.reverse.map fun e => (e.upd.map (·.1), e.rd)) = true) ∧ Q .normal env' st' (nx + D * ops.size)) :
    WP P base (.region id ops draw) Q env st nx := fun hb F μ W a hA => by
  obtain ⟨es, env', st', hC, heff, hQ⟩ := opsW_chain hT hD _ _ _ _ _ _ h
  have fin : ∀ {W0 : World} (_ : Ext F (Mut F μ (get st)) μ W (Mut F μ (get st)) μ W0) (μ' : Nat → Option Nat) (W' : World) (a' : Act), Behind nx F μ st W0 a.defers env' st' (nx + D * ops.size) μ' W' a' → QC base Q F μ st W .normal a' W' :=
    fun h0 μ' W' a' hB => ⟨.normal, env', st', _, μ', rfl, hQ, by omega, ⟨hB.rs, hB.re, hB.df.trans hA.df, hB.fr⟩, (h0.trans hB.ex).to base fun b hb' => hB.lo b (by omega)⟩
  cases draw with
  | false =>
    refine wp_region ?_
    have := chain_ord hC (by simp) F μ W a hA.rs hA.re (by simpa using hA.fr) (QC base Q F μ st W) (fun μ' W' a' hB => fin (Ext.refl _ _ _ _) μ' W' a' (by simpa using hB))
    rw [List.range_eq_range']
    simpa using this
  | true =>
    obtain ⟨hS', hX⟩ := hA.rs.drew
    have he := heff rfl
    rw [List.append_nil, List.reverse_reverse] at he
    have e0 : ∀ i, (Array.replicate ops.size false).getD i false = false := fun i => by
      by_cases h : i < ops.size <;> simp [h]
    have hS0 : ∀ n, stS (fun i => es.getD i default) (get st) (fun i => (Array.replicate ops.size false).getD i false) n = get st := fun n => by
      induction n with
      | zero => rfl
      | succ n ih => rw [stS, e0]; exact ih
    have hE0 : ∀ n, envS (fun i => (ops[i]?).bind (·.dst)) (fun i => es.getD i default) env (fun i => (Array.replicate ops.size false).getD i false) n = env := fun n => by
      induction n with
      | zero => rfl
      | succ n ih => rw [envS, e0]; exact ih
    have hc0 : ∀ n, cnt (fun i => (Array.replicate ops.size false).getD i false) n = 0 := fun n => by
      induction n with
      | zero => rfl
      | succ n ih => rw [cnt, ih, e0]; rfl
    refine wp_region_any hm ?_
    refine region_drawn (W0 := W.drew) (ds := a.defers) (μ0 := μ) hD hC (hlex rfl) he (F := F) (fun b hb => (hA.fr b hb).2) (fun μ' W' a' hB => fin hX μ' W' a' hB) ops.size (Array.replicate ops.size false) a _ μ (by simp) (by rw [hc0]; omega)
      (fun j o _ hj => by have h : false = true := (e0 j).symm.trans hj; cases h) (by rw [hS0]; exact hS') (by rw [hS0, hE0]; exact hA.re.ext hX) rfl (fun b hb _ => (hA.fr b hb).1) (by rw [hS0]; exact Ext.refl _ _ _ _) (fun _ _ => rfl)
/-- Less is known. -/
def Wk (base : Nat) (env : List AV) (st : Stores) (nx : Nat) (env' : List AV) (st' : Stores) (nx' : Nat) : Prop := base ≤ nx → base ≤ nx' ∧ ∀ F μ W a, At F μ env st nx W a →
  ∃ μ', At F μ' env' st' nx' W a ∧ Keep base F (Mut F μ (get st)) μ W (Mut F μ' (get st')) μ' W
theorem WP_weaken {c : Code} {env' : List AV} {st' : Stores} {nx' : Nat} (hk : Wk base env st nx env' st' nx') (h : WP P base c Q env' st' nx') : WP P base c Q env st nx := fun hb F μ W a hA => by
  obtain ⟨h1, h2⟩ := hk hb
  obtain ⟨μ', h3, h4⟩ := h2 F μ W a hA
  exact wp_mono (h h1 F μ' W a h3) fun _ _ _ hq => hq.trans h4
theorem WPL_weaken {c : Code} {env' : List AV} {st' : Stores} {nx' : Nat} (hk : Wk base env st nx env' st' nx') (h : WPL P base c Q env' st' nx') : WPL P base c Q env st nx := fun hb F μ W a hA => by
  obtain ⟨h1, h2⟩ := hk hb
  obtain ⟨μ', h3, h4⟩ := h2 F μ W a hA
  exact (h h1 F μ' W a h3).mono fun _ _ _ hq => hq.trans h4
end rules
end Go.Proofs.YtalklhbdpmggjaaDoor.Pw
namespace Go.Proofs.YtalklhbdpmggjaaDoor.Pw
open Go Go.RowKit
/-- A slice that is not there reads as the empty one. -/
def nrm : PV → PV
  | .v (.slice none 0 0) => .lst 0 []
  | x => x
def nrm1 : PV → PV
  | .agg cs => .agg (cs.map nrm)
  | .tup cs => .tup (cs.map nrm)
  | x => nrm x
theorem nrm_rep {M : Nat → Prop} {W : World} {x : PV} {v : Value} (h : RepP M W x v) : RepP M W (nrm x) v := by
  unfold nrm
  split
  · cases h; exact .lst0 _ _
  · exact h
theorem nrm1_rep {M : Nat → Prop} {W : World} {x : PV} {v : Value} (h : RepP M W x v) : RepP M W (nrm1 x) v := by
  unfold nrm1
  split
  · cases h with
    | agg cs xs hl h1 hr =>
      refine .agg _ xs (by simpa using hl) h1 fun j pv x hp hx => ?_
      simp only [List.getElem?_map, Option.map_eq_some_iff] at hp
      obtain ⟨q, hq, rfl⟩ := hp
      exact nrm_rep (hr j q x hq hx)
  · cases h with
    | tup cs xs hl hr =>
      refine .tup _ xs (by simpa using hl) fun j pv x hp hx => ?_
      simp only [List.getElem?_map, Option.map_eq_some_iff] at hp
      obtain ⟨q, hq, rfl⟩ := hp
      exact nrm_rep (hr j q x hq hx)
  · exact nrm_rep h
mutual
def frz (σ : Store) : Nat → AV → Option (PV × List Nat)
  | _, .p x => some (nrm1 x, [])
  | n + 1, .sl b o m k => match σ b with
    | some (.pc _ cs) => some (.lst m ((cs.drop o).take (m * k)), [b])
    | some (.mc _ cs) => (frzs σ n ((cs.drop o).take (m * k))).map fun r => (.lst m r.1, b :: r.2)
    | none => none
  | n + 1, .agg cs => (frzs σ n cs).map fun r => (.agg r.1, r.2)
  | n + 1, .tup cs => (frzs σ n cs).map fun r => (.tup r.1, r.2)
  | _, _ => none
def frzs (σ : Store) : Nat → List AV → Option (List PV × List Nat)
  | _, [] => some ([], [])
  | n + 1, x :: r => (frz σ n x).bind fun a => (frzs σ n r).map fun q => (a.1 :: q.1, a.2 ++ q.2)
  | 0, _ :: _ => none
end
def dels (st : Store) (rd : List Nat) : Store := fun b => if b ∈ rd then none else st b
theorem upds_dels (st : Store) (rd : List Nat) : upds st (rd.map fun b => (b, none)) = dels st rd := by
  induction rd generalizing st with
  | nil => funext b; simp [upds, dels]
  | cons a rd ih =>
    show upds (upd1 st a none) _ = _
    rw [ih]
    funext b
    simp only [dels, List.mem_cons, upd1]
    by_cases h : b ∈ rd <;> by_cases e : b = a <;> simp [h, e]
theorem mut_dels {F : Nat → Prop} {μ : Nat → Option Nat} {st : Store} {rd : List Nat} {B : Nat} (h : Mut F μ (dels st rd) B) : Mut F μ st B := by
  rcases h with h | ⟨b, h1, h2⟩
  · exact .inl h
  · refine .inr ⟨b, fun e => h1 ?_, h2⟩
    unfold dels; split
    · rfl
    · exact e
section
variable {F : Nat → Prop} {μ : Nat → Option Nat} {st : Store} {W : World}
theorem frz_both (hS : RepS F μ st W) (R : List Nat) : ∀ n,
    (∀ (a : AV) (p : PV) (rd : List Nat) (v : Value), frz st n a = some (p, rd) → (∀ b ∈ rd, b ∈ R) → RepA (Mut F μ st) μ W a v → RepP (Mut F μ (dels st R)) W p v) ∧
    (∀ (cs : List AV) (ps : List PV) (rd : List Nat) (vs : Nat → Value), frzs st n cs = some (ps, rd) → (∀ b ∈ rd, b ∈ R) → (∀ (j : Nat) a, cs[j]? = some a → RepA (Mut F μ st) μ W a (vs j)) → ps.length = cs.length ∧ ∀ (j : Nat) p, ps[j]? = some p → RepP (Mut F μ (dels st R)) W p (vs j)) := by
  intro n
  induction n with
  | zero =>
    refine ⟨fun a p rd v h hR hr => ?_, fun cs ps rd vs h hR hr => ?_⟩
    · cases a <;> simp only [frz, Option.some.injEq, Prod.mk.injEq, reduceCtorEq] at h
      obtain ⟨rfl, _⟩ := h
      exact nrm1_rep (hr.p_inv.mut fun B hB => mut_dels hB)
    · cases cs with
      | nil => simp only [frzs, Option.some.injEq, Prod.mk.injEq] at h; obtain ⟨rfl, _⟩ := h; exact ⟨rfl, fun j p hp => by simp at hp⟩
      | cons x r => simp [frzs] at h
  | succ n ih =>
    obtain ⟨ih1, ih2⟩ := ih
    refine ⟨fun a p rd v h hR hr => ?_, fun cs ps rd vs h hR hr => ?_⟩
    · have list : ∀ (cs : List AV) (xs : List Value), xs.length = cs.length → (∀ (j : Nat) pv x, cs[j]? = some pv → xs[j]? = some x → RepA (Mut F μ st) μ W pv x) → ∀ (j : Nat) a, cs[j]? = some a → RepA (Mut F μ st) μ W a (xs.getD j undef) := fun cs xs hl hr j a ha => by
        have hj := (List.getElem?_eq_some_iff.1 ha).1
        rw [List.getD_eq_getElem?_getD, List.getElem?_eq_getElem (by omega)]
        exact hr j a _ ha (List.getElem?_eq_getElem (by omega))
      have back : ∀ (ps : List PV) (xs : List Value), (∀ (j : Nat) p, ps[j]? = some p → RepP (Mut F μ (dels st R)) W p (xs.getD j undef)) → ∀ (j : Nat) pv x, ps[j]? = some pv → xs[j]? = some x → RepP (Mut F μ (dels st R)) W pv x := fun ps xs hp j pv x h1 h2 => by
        have := hp j pv h1
        rwa [List.getD_eq_getElem?_getD, h2] at this
      cases a with
      | p x => simp only [frz, Option.some.injEq, Prod.mk.injEq] at h; obtain ⟨rfl, _⟩ := h; exact nrm1_rep (hr.p_inv.mut fun B hB => mut_dels hB)
      | sl b o m k =>
        have row : ∀ (K : Blk) (B : Nat), st b = some K → μ b = some B → b ∈ R → ∃ c : Nat → Value, B < W.heap.size ∧ ¬ Mut F μ (dels st R) B ∧ ∀ (j : Nat) a, K.cells[j]? = some a → W.cell? ⟨B, j, none⟩ = some (c j) ∧ (c j).oneCell' = true ∧ RepA (Mut F μ st) μ W a (c j) := fun K B hK hB hbR => by
          obtain ⟨c, hc, _, _, _, g, hg⟩ := hS.row hK hB
          refine ⟨g, lt_of_cells hc, fun hm => ?_, fun j a ha => by have := hg j a ha; rwa [Nat.zero_add] at this⟩
          rcases hm with hm | ⟨b', h1, h2⟩
          · rcases hS.at_ b K hK with ⟨h0, _⟩ | ⟨B', _, hB', hF, _⟩
            · rw [h0] at hB; cases hB
            · rw [hB'] at hB; injection hB with hB; subst hB; exact hF hm
          · unfold dels at h1
            split at h1
            · exact h1 rfl
            · rename_i hn
              exact hn ((hS.inj b' b B h1 (by rw [hK]; simp) h2 hB) ▸ hbR)
        simp only [frz] at h
        split at h
        · rename_i e cs hst
          injection h with h; injection h with h1 h2; subst h1; subst h2
          rcases hr.sl_inv with ⟨rfl, rfl, rfl⟩ | ⟨B, cap, el, c, rfl, hb, hn, hm, hc, hs⟩
          · simp only [Nat.zero_mul, List.take_zero]; exact .lst0 _ _
          · obtain ⟨g, hB, hM, hg⟩ := row _ B hst hb (hR b (by simp))
            refine .lst m cap _ B o (fun j => g (o + j)) hB hM ⟨hn, hm⟩ (fun j hj => ?_) (fun j hj => ?_) (fun j pv hp => ?_)
            all_goals
              have get : ∀ pv, ((cs.drop o).take (m * k))[j]? = some pv → (Blk.pc e cs).cells[o + j]? = some (.p pv) := fun pv hp => by
                rw [List.getElem?_take] at hp
                split at hp
                · rw [List.getElem?_drop] at hp; simp [Blk.cells, hp]
                · cases hp
            · exact (hg (o + j) _ (get _ (List.getElem?_eq_getElem hj))).1
            · exact (hg (o + j) _ (get _ (List.getElem?_eq_getElem hj))).2.1
            · exact (hg (o + j) _ (get _ hp)).2.2.p_inv.mut fun B hB => mut_dels hB
        · rename_i e cs hst
          simp only [Option.map_eq_some_iff] at h
          obtain ⟨r, hr', h⟩ := h
          injection h with h1 h2; subst h1; subst h2
          rcases hr.sl_inv with ⟨rfl, rfl, rfl⟩ | ⟨B, cap, el, c, rfl, hb, hn, hm, hc, hs⟩
          · rw [Nat.zero_mul, List.take_zero] at hr'
            cases n with
            | zero => simp only [frzs, Option.some.injEq] at hr'; subst hr'; exact .lst0 _ _
            | succ n => simp only [frzs, Option.some.injEq] at hr'; subst hr'; exact .lst0 _ _
          · obtain ⟨g, hB, hM, hg⟩ := row _ B hst hb (hR b (by simp))
            have get : ∀ (j : Nat) a, ((cs.drop o).take (m * k))[j]? = some a → (Blk.mc e cs).cells[o + j]? = some a := fun j a hp => by
              rw [List.getElem?_take] at hp
              split at hp
              · rw [List.getElem?_drop] at hp; simp [Blk.cells, hp]
              · cases hp
            obtain ⟨hl, hp⟩ := ih2 _ r.1 r.2 (fun j => g (o + j)) hr' (fun b hb => hR b (by simp [hb])) (fun j a ha => (hg (o + j) a (get j a ha)).2.2)
            refine .lst m cap _ B o (fun j => g (o + j)) hB hM ⟨hn, hm⟩ (fun j hj => ?_) (fun j hj => ?_) hp
            · rw [hl] at hj; exact (hg (o + j) _ (get j _ (List.getElem?_eq_getElem hj))).1
            · rw [hl] at hj; exact (hg (o + j) _ (get j _ (List.getElem?_eq_getElem hj))).2.1
        · cases h
      | agg cs =>
        simp only [frz, Option.map_eq_some_iff] at h
        obtain ⟨r, hr', h⟩ := h
        injection h with h1 h2; subst h1; subst h2
        obtain ⟨xs, rfl, hl, h1, hx⟩ := hr.agg_inv
        obtain ⟨hl2, hp⟩ := ih2 cs r.1 r.2 (fun j => xs.getD j undef) hr' hR (list cs xs hl hx)
        exact .agg _ xs (by omega) h1 (back _ xs hp)
      | tup cs =>
        simp only [frz, Option.map_eq_some_iff] at h
        obtain ⟨r, hr', h⟩ := h
        injection h with h1 h2; subst h1; subst h2
        cases hr with
        | tup _ xs hl hx =>
          obtain ⟨hl2, hp⟩ := ih2 cs r.1 r.2 (fun j => xs.getD j undef) hr' hR (list cs xs hl hx)
          exact .tup _ xs (by omega) (back _ xs hp)
      | any => simp [frz] at h
      | own b o => simp [frz] at h
      | fn f cs => simp [frz] at h
    · cases cs with
      | nil => simp only [frzs, Option.some.injEq, Prod.mk.injEq] at h; obtain ⟨rfl, _⟩ := h; exact ⟨rfl, fun j p hp => by simp at hp⟩
      | cons x r =>
        simp only [frzs, Option.bind_eq_some_iff, Option.map_eq_some_iff] at h
        obtain ⟨a, ha, q, hq, h⟩ := h
        injection h with h1 h2; subst h1; subst h2
        have h1 := ih1 x a.1 a.2 (vs 0) ha (fun b hb => hR b (by simp [hb])) (hr 0 x rfl)
        obtain ⟨hl, hp⟩ := ih2 r q.1 q.2 (fun j => vs (j + 1)) hq (fun b hb => hR b (by simp [hb])) (fun j a ha => hr (j + 1) a (by simpa using ha))
        refine ⟨by simp [hl], fun j p hp' => ?_⟩
        cases j with
        | zero => simp only [List.getElem?_cons_zero, Option.some.injEq] at hp'; subst hp'; exact h1
        | succ j => exact hp j p (by simpa using hp')
theorem RepS.dels (h : RepS F μ st W) (rd : List Nat) : RepS F μ (dels st rd) W ∧ Ext F (Mut F μ st) μ W (Mut F μ (dels st rd)) μ W := by
  rw [← upds_dels]
  induction rd generalizing st with
  | nil => exact ⟨h, Ext.refl _ _ _ _⟩
  | cons b rd ih =>
    obtain ⟨h1, h2⟩ := h.kill b
    obtain ⟨h3, h4⟩ := ih h1
    exact ⟨h3, h2.trans h4⟩
end
mutual
def PV.flat : PV → Bool
  | .v _ => true
  | .lst _ _ | .pt _ _ => false
  | .agg cs => flats cs
  | .tup cs => flats cs
def flats : List PV → Bool
  | [] => true
  | x :: r => x.flat && flats r
end
theorem flats_get : ∀ {cs : List PV}, flats cs = true → ∀ (j : Nat) p, cs[j]? = some p → p.flat = true
  | [], _, j, p, h => by simp at h
  | x :: r, hf, j, p, h => by
    simp only [flats, Bool.and_eq_true] at hf
    cases j with
    | zero => simp at h; exact h ▸ hf.1
    | succ j => exact flats_get hf.2 j p (by simpa using h)
theorem RepP.flat {M M' : Nat → Prop} {W W' : World} {x : PV} {v : Value} (r : RepP M W x v) : x.flat = true → RepP M' W' x v := by
  induction r with
  | v x hx => exact fun _ => .v x hx
  | lst0 a cap => exact fun h => by simp [PV.flat] at h
  | lst => exact fun h => by simp [PV.flat] at h
  | pt => exact fun h => by simp [PV.flat] at h
  | agg cs xs hl h1 _ ih => exact fun h => .agg cs xs hl h1 fun j pv x hp hx => ih j pv x hp hx (flats_get (by simpa [PV.flat] using h) j pv hp)
  | tup cs xs hl _ ih => exact fun h => .tup cs xs hl fun j pv x hp hx => ih j pv x hp hx (flats_get (by simpa [PV.flat] using h) j pv hp)
/-- A call of a function of values, as its caller sees it. -/
theorem SoundE.of {P : Program} {D f : Nat} {args : List AV} {σ : Store} {new : Nat} {n : Nat} {ps : List PV} {rd : List Nat} {r : PV} (hf : frzs σ n args = some (ps, rd)) (h : Sound P f ps r) :
    SoundE P D f args σ new ⟨.p r, if r.flat then [] else rd.map fun b => (b, none), rd⟩ := by
  refine ⟨h.1, fun F μ st W vs hrd hS hG hnew hl hv => ?_⟩
  have key : ∀ n, (∀ (a : AV) p rd, frz σ n a = some (p, rd) → (∀ b ∈ rd, st b = σ b) → frz st n a = some (p, rd)) ∧ (∀ (avs : List AV) ps rd, frzs σ n avs = some (ps, rd) → (∀ b ∈ rd, st b = σ b) → frzs st n avs = some (ps, rd)) := by
    intro n
    induction n with
    | zero => exact ⟨fun a p rd h _ => by cases a <;> simp_all [frz], fun avs ps rd h _ => by cases avs <;> simp_all [frzs]⟩
    | succ n ih =>
      obtain ⟨ih1, ih2⟩ := ih
      refine ⟨fun a p rd h hs => ?_, fun avs ps rd h hs => ?_⟩
      · cases a with
        | sl b o m k =>
          simp only [frz] at h ⊢
          have hb : st b = σ b := by
            apply hs
            split at h
            · injection h with h; injection h with _ h; subst h; simp
            · simp only [Option.map_eq_some_iff] at h
              obtain ⟨r, _, h⟩ := h
              injection h with _ h; subst h; simp
            · cases h
          rw [hb]
          split at h
          · exact h
          · simp only [Option.map_eq_some_iff] at h ⊢
            obtain ⟨r, hr, h⟩ := h
            refine ⟨r, ih2 _ _ _ hr fun b' hb' => hs b' ?_, h⟩
            injection h with _ h; subst h; simp [hb']
          · cases h
        | agg cs =>
          simp only [frz, Option.map_eq_some_iff] at h ⊢
          obtain ⟨r, hr, h⟩ := h
          exact ⟨r, ih2 _ _ _ hr fun b' hb' => hs b' (by injection h with _ h; subst h; exact hb'), h⟩
        | tup cs =>
          simp only [frz, Option.map_eq_some_iff] at h ⊢
          obtain ⟨r, hr, h⟩ := h
          exact ⟨r, ih2 _ _ _ hr fun b' hb' => hs b' (by injection h with _ h; subst h; exact hb'), h⟩
        | p x => simpa [frz] using h
        | any => simp [frz] at h
        | own b o => simp [frz] at h
        | fn f cs => simp [frz] at h
      · cases avs with
        | nil => simpa [frzs] using h
        | cons x r =>
          simp only [frzs, Option.bind_eq_some_iff, Option.map_eq_some_iff] at h ⊢
          obtain ⟨a, ha, q, hq, h⟩ := h
          injection h with h1 h2
          refine ⟨a, ih1 _ _ _ ha fun b hb => hs b (by subst h2; simp [hb]), q, ih2 _ _ _ hq fun b hb => hs b (by subst h2; simp [hb]), by rw [← h1, ← h2]⟩
  have hf' := (key n).2 args ps rd hf hrd
  obtain ⟨hpl, hp⟩ := (frz_both hS rd n).2 args ps rd (fun j => vs.getD j undef) hf' (fun b hb => hb) (fun j a ha => by
    have hj := (List.getElem?_eq_some_iff.1 ha).1
    rw [List.getD_eq_getElem?_getD, List.getElem?_eq_getElem (by omega)]
    exact hv j a _ ha (List.getElem?_eq_getElem (by omega)))
  have hlow : ∀ B, Mut F μ (dels st rd) B → B < W.heap.size := fun B hB => by
    rcases mut_dels hB with h1 | ⟨b, h1, h2⟩
    · exact hS.low B h1
    · obtain ⟨k, hk⟩ := Option.ne_none_iff_exists'.1 h1
      obtain ⟨c, hc, _⟩ := hS.row hk h2
      exact lt_of_cells hc
  have hcall := h.2 (Mut F μ (dels st rd)) W vs hlow (hG.mut fun B hB => mut_dels hB) (by omega) (fun j a v ha hv' => by
    have := hp j a ha
    rwa [List.getD_eq_getElem?_getD, hv'] at this)
  refine hcall.mono ?_
  rintro en W' ⟨v, rfl, hr, hB⟩
  have ext : Ext F (Mut F μ st) μ W (Mut F μ st) μ W' := ⟨hB.size, fun B hb _ => hB.block B hb, fun B c el hc => ⟨c, by rw [hB.block B (lt_of_cells hc)]; exact hc, rfl⟩, fun _ _ hb => hb, fun _ _ hm => hm, hB.os, hB.tape, hB.output, fun B hF => hB.block B (hS.low B hF)⟩
  have hS' : RepS F μ st W' := ⟨fun b k hk => by
    rcases hS.at_ b k hk with h0 | ⟨B, c, h1, h2, h3, h4, h5, h6⟩
    · exact .inl h0
    · exact .inr ⟨B, c, h1, h2, by rw [hB.block B (lt_of_cells h3)]; exact h3, h4, h5, fun j a ha => (h6 j a ha).ext ext⟩, hS.inj, fun B hF => Nat.lt_of_lt_of_le (hS.low B hF) hB.size⟩
  refine ⟨v, μ, rfl, ?_⟩
  simp only
  split
  · rename_i hfl
    exact ⟨hS', .p _ _ (hr.flat hfl), ext, fun _ _ => trivial⟩
  · rw [upds_dels]
    obtain ⟨h1, h2⟩ := hS'.dels rd
    exact ⟨h1, .p _ _ hr, ext.trans h2, fun _ _ => trivial⟩
end Go.Proofs.YtalklhbdpmggjaaDoor.Pw
namespace Go.Proofs.YtalklhbdpmggjaaDoor.Pw
open Go Go.RowKit
def resOne (T : Tab) (env : List AV) (σ : Store) : ResultVar → Option (AV × Prop)
  | .tmp t => some (env.getD t .any, True)
  | .cell a t => (T t).bind fun y => if y.size == 0 then none else match env.getD a .any with
    | .own b o => (σ b).bind fun k => some (cellsTo y.agg y.size o k, o + y.size ≤ k.cells.length ∧ (y.agg = false → y.size = 1))
    | _ => none
def resAll (T : Tab) (env : List AV) (σ : Store) : List ResultVar → Option (List AV × Prop)
  | [] => some ([], True)
  | r :: rs => (resOne T env σ r).bind fun a => (resAll T env σ rs).map fun q => (a.1 :: q.1, a.2 ∧ q.2)
def pack : List AV → AV
  | [a] => a
  | avs => .tup avs
def Res (T : Tab) (rs : List ResultVar) (env : List AV) (st : Stores) (K : AV → Prop) : Prop :=
  match resAll T env (get st) rs with
  | some (avs, c) => c ∧ K (pack avs)
  | none => False
section
variable {P : Program} {T : Tab} {F : Nat → Prop} {μ : Nat → Option Nat} {st : Store} {W : World}
theorem resOne_sound (hT : TOK P T) (hS : RepS F μ st W) {env : List AV} {tmps : Array Value} (hE : RepE (Mut F μ st) μ W env tmps) {r : ResultVar} {a : AV} {c : Prop} (h : resOne T env st r = some (a, c)) (hc : c) :
    ∃ v, ((match r with | .tmp t => pure (tmps.getD t undef) | .cell a t => do loadVar t (← asAddr (tmps.getD a undef)) : Sem Value)).run P W = .ok v W ∧ RepA (Mut F μ st) μ W a v := by
  have hget : ∀ t, RepA (Mut F μ st) μ W (env.getD t .any) (tmps.getD t undef) := fun t => by
    rw [List.getD_eq_getElem?_getD]
    cases hx : env[t]? with
    | none => exact .any _
    | some y => exact hE.2.1 t y hx
  cases r with
  | tmp t =>
    simp only [resOne, Option.some.injEq, Prod.mk.injEq] at h
    obtain ⟨rfl, _⟩ := h
    exact ⟨_, rfl, hget t⟩
  | cell p t =>
    simp only [resOne, Option.bind_eq_some_iff] at h
    obtain ⟨y, hy, h⟩ := h
    split at h
    · cases h
    · rename_i h0
      split at h
      · rename_i b o hp
        simp only [Option.bind_eq_some_iff] at h
        obtain ⟨k, hk, h⟩ := h
        injection h with h; injection h with h1 h2; subst h1; subst h2
        have hv := hget p
        rw [hp] at hv
        obtain ⟨B, hB, hv⟩ := hv.own_inv
        obtain ⟨cc, _, _, _, _, hrow⟩ := hS.row hk hB
        obtain ⟨x, hx, hrep⟩ := load_row (P := P) (o := o) (hT.facts hy) hrow hc.1 hc.2 (by simpa using h0)
        rw [Nat.zero_add] at hx
        refine ⟨x, ?_, hrep⟩
        simp only [hv]
        simp [asAddr, hx]
      · cases h
theorem resAll_sound (hT : TOK P T) (hS : RepS F μ st W) {env : List AV} {tmps : Array Value} (hE : RepE (Mut F μ st) μ W env tmps) : ∀ (rs : List ResultVar) (avs : List AV) (c : Prop), resAll T env st rs = some (avs, c) → c →
    ∃ vs : List Value, (rs.mapM fun | .tmp t => pure (tmps.getD t undef) | .cell a t => do loadVar t (← asAddr (tmps.getD a undef)) : Sem (List Value)).run P W = .ok vs W ∧ vs.length = avs.length ∧ ∀ (j : Nat) a v, avs[j]? = some a → vs[j]? = some v → RepA (Mut F μ st) μ W a v
  | [], avs, c, h, _ => by
    simp only [resAll, Option.some.injEq, Prod.mk.injEq] at h
    obtain ⟨rfl, _⟩ := h
    exact ⟨[], by simp, rfl, fun j a v ha => by simp at ha⟩
  | r :: rs, avs, c, h, hc => by
    simp only [resAll, Option.bind_eq_some_iff, Option.map_eq_some_iff] at h
    obtain ⟨q, hq, p, hp, h⟩ := h
    injection h with h1 h2; subst h1; subst h2
    obtain ⟨v, hv, hr⟩ := resOne_sound hT hS hE (a := q.1) (c := q.2) hq hc.1
    obtain ⟨vs, hvs, hl, hrs⟩ := resAll_sound hT hS hE rs p.1 p.2 hp hc.2
    refine ⟨v :: vs, ?_, by simp [hl], fun j a w ha hw => ?_⟩
    · rw [List.mapM_cons, Sem.run_bind, hv, Result.andThen_ok, Sem.run_bind, hvs]; rfl
    · cases j with
      | zero => simp at ha hw; exact ha ▸ hw ▸ hr
      | succ j => exact hrs j a w (by simpa using ha) (by simpa using hw)
theorem results_sound (hT : TOK P T) (hS : RepS F μ st W) {env : List AV} {tmps : Array Value} (hE : RepE (Mut F μ st) μ W env tmps) {fn : Func} {avs : List AV} {c : Prop} (h : resAll T env st fn.results.toList = some (avs, c)) (hc : c) :
    ∃ v, (results fn tmps).run P W = .ok v W ∧ RepA (Mut F μ st) μ W (pack avs) v := by
  obtain ⟨vs, hvs, hl, hrs⟩ := resAll_sound hT hS hE _ avs c h hc
  have hrun : (results fn tmps).run P W = .ok (if h : vs.toArray.size = 1 then vs.toArray[0] else .tuple vs.toArray) W := by
    unfold results
    rw [Array.mapM_eq_mapM_toList]
    simp only [Sem.run_bind, Sem.run_map]
    exact congrArg (fun r : Result (List Value) => ((r.andThen fun a w' => Result.ok (List.toArray a) w').andThen fun a w' => Sem.run P (pure (if h : a.size = 1 then a[0] else Value.tuple a)) w')) hvs
  refine ⟨_, hrun, ?_⟩
  cases vs with
  | nil =>
    have : avs = [] := List.eq_nil_of_length_eq_zero (by simpa using hl.symm)
    subst this
    exact .tup [] [] rfl fun j a v ha => by simp at ha
  | cons v vs =>
    cases vs with
    | nil =>
      obtain ⟨a, rfl⟩ := List.length_eq_one_iff.1 (by simpa using hl.symm)
      exact hrs 0 a v rfl rfl
    | cons v2 vs =>
      have h2 : ¬ (v :: v2 :: vs).toArray.size = 1 := by simp
      rw [dif_neg h2]
      have hp : pack avs = .tup avs := by
        match avs, hl with
        | [], _ => rfl
        | [a], hl => simp at hl
        | _ :: _ :: _, _ => rfl
      rw [hp]
      exact .tup avs _ hl hrs
end
def Fin (T : Tab) (rs : List ResultVar) (K : AV → Stores → Prop) : PostA := fun x env st _ => match x with
  | .exit _ => False
  | _ => Res T rs env st fun a => K a st
def args0 (n : Nat) (args : List AV) : List AV := args ++ List.replicate (n - args.length) .any
theorem args0_rep {M : Nat → Prop} {μ : Nat → Option Nat} {W : World} {n : Nat} {args : List AV} {vs : List Value} (hG : GOK M W) (hl : vs.length = args.length) (h : ∀ (j : Nat) a v, args[j]? = some a → vs[j]? = some v → RepA M μ W a v) :
    RepE M μ W (args0 n args) (vs.toArray ++ Array.replicate (n - vs.toArray.size) undef) := by
  refine ⟨by simp [args0, hl], fun t x hx => ?_, hG⟩
  unfold args0 at hx
  rw [List.getElem?_append] at hx
  split at hx
  · rename_i ht
    have hlt : t < vs.length := by omega
    have : (vs.toArray ++ Array.replicate (n - vs.toArray.size) undef).getD t undef = vs[t] := by
      simp [Array.getElem?_append, hlt]
    rw [this]
    exact h t x _ hx (List.getElem?_eq_getElem hlt)
  · rw [List.getElem?_replicate] at hx
    split at hx
    · injection hx with hx; subst hx; exact .any _
    · cases hx
/-- THE CONTRACT OF A FUNCTION OF VALUES, out of its body. -/
theorem Sound.of_WPn {m : Nat} {P : Program} {T : Tab} (hT : TOK P T) {f : Nat} {fn : Func} {c : Code} {args : List PV} {res : PV} (hf : P.funcs[f]? = some fn) (hb : fn.body = some c) (hnm : (fn.name == "runtime.NumGoroutine") = false)
    (h : WP P 0 c (Fin T fn.results.toList fun a st => ∃ rd, frz (get st) m a = some (res, rd)) (args0 fn.ntmps (args.map .p)) [] 0) : Sound P f args res := by
  refine ⟨⟨fn, hf, hnm, by rw [hb]; rfl⟩, fun F W vs hF hG hl hv => ?_⟩
  have hA : At F (fun _ => none) (args0 fn.ntmps (args.map .p)) [] 0 W { tmps := vs.toArray ++ Array.replicate (fn.ntmps - vs.toArray.size) undef, defers := [] } := by
    refine ⟨⟨fun b k hk => by simp [get] at hk, fun _ _ _ hb => absurd rfl hb, hF⟩, args0_rep (hG.mut fun B hB => by rcases hB with h1 | ⟨b, h1, _⟩; exact h1; exact absurd rfl h1) (by simpa using hl) fun j a v ha hx => ?_, rfl, fun b _ => ⟨rfl, rfl⟩⟩
    simp only [List.getElem?_map, Option.map_eq_some_iff] at ha
    obtain ⟨p, hp, rfl⟩ := ha
    exact .p _ _ ((hv j p v hp hx).mut fun B hB => by rcases hB with h1 | ⟨b, h1, _⟩; exact h1; exact absurd rfl h1)
  refine calls_of_wp hf hb (wp_mono (h (Nat.le_refl _) F _ W _ hA) ?_)
  rintro e a' W' ⟨x, env', st', nx', μ', rfl, hq, _, hA', hK⟩
  have fin : Res T fn.results.toList env' st' (fun a => ∃ rd, frz (get st') m a = some (res, rd)) → a'.defers = [] ∧ ∃ v, (results fn a'.tmps).run P W' = .ok v W' ∧ ∃ u, Ending.returned v = .returned u ∧ RepP F W' res u ∧ Below W.heap.size W W' := by
    intro hr
    unfold Res at hr
    split at hr
    · rename_i avs c hres
      obtain ⟨hc, rd, hrd⟩ := hr
      obtain ⟨v, hv, hrep⟩ := results_sound hT hA'.rs hA'.re hres hc
      refine ⟨hA'.df, v, hv, v, rfl, ?_, hK.os, hK.tape, hK.output, hK.size, fun B hB => ?_⟩
      · exact ((frz_both hA'.rs rd m).1 _ _ _ v hrd (fun b hb => hb) hrep).mut fun B hB => .inl hB
      · by_cases hFB : F B
        · exact hK.keepF B hFB
        · exact hK.keep B hB fun hm => by rcases hm with h1 | ⟨b, h1, _⟩; exact hFB h1; exact absurd rfl h1
    · exact hr.elim
  cases x with
  | normal => exact fin hq
  | ret => exact fin hq
  | exit id => exact hq.elim
theorem Sound.of_WP {P : Program} {T : Tab} (hT : TOK P T) {f : Nat} {fn : Func} {c : Code} {args : List PV} {res : PV} (hf : P.funcs[f]? = some fn) (hb : fn.body = some c) (hnm : (fn.name == "runtime.NumGoroutine") = false)
    (h : WP P 0 c (Fin T fn.results.toList fun a st => ∃ rd, frz (get st) 9 a = some (res, rd)) (args0 fn.ntmps (args.map .p)) [] 0) : Sound P f args res := Sound.of_WPn (m := 9) hT hf hb hnm h
theorem Sound.of_WP99 {P : Program} {T : Tab} (hT : TOK P T) {f : Nat} {fn : Func} {c : Code} {args : List PV} {res : PV} (hf : P.funcs[f]? = some fn) (hb : fn.body = some c) (hnm : (fn.name == "runtime.NumGoroutine") = false)
    (h : WP P 0 c (Fin T fn.results.toList fun a st => ∃ rd, frz (get st) 99 a = some (res, rd)) (args0 fn.ntmps (args.map .p)) [] 0) : Sound P f args res := Sound.of_WPn (m := 99) hT hf hb hnm h
end Go.Proofs.YtalklhbdpmggjaaDoor.Pw
namespace Go.Proofs.YtalklhbdpmggjaaDoor.Pw
open Go
def tab : Tab := fun t => match t with
  | 1 => some ⟨1, 8, false, [.nilFunc], none, [], [], false, false, none⟩
  | 2 => some ⟨1, 8, false, [.int .i64 0], none, [], [], false, false, some .i64⟩
  | 3 => some ⟨1, 8, false, [.int .i64 0], none, [], [], false, false, some .i64⟩
  | 4 => some ⟨1, 1, false, [.bool false], none, [], [], true, false, none⟩
  | 5 => some ⟨1, 1, false, [.int .u8 0], none, [], [], false, false, some .u8⟩
  | 6 => some ⟨1, 1, false, [.int .u8 0], none, [], [], false, false, some .u8⟩
  | 7 => some ⟨4, 24, true, [.int .i64 0, .int .i64 0, .bool false, .int .u8 0], none, [(0, 1), (1, 1), (2, 1), (3, 1)], [false, false, false, false], false, false, none⟩
  | 8 => some ⟨4, 24, true, [.int .i64 0, .int .i64 0, .bool false, .int .u8 0], none, [(0, 1), (1, 1), (2, 1), (3, 1)], [false, false, false, false], false, false, none⟩
  | 9 => some ⟨1, 16, false, [.string ByteArray.empty], none, [], [], false, true, none⟩
  | 10 => some ⟨1, 16, false, [.string ByteArray.empty], none, [], [], false, true, none⟩
  | 11 => some ⟨1, 16, false, [.string ByteArray.empty], none, [], [], false, true, none⟩
  | 12 => some ⟨1, 8, false, [.int .u64 0], none, [], [], false, false, some .u64⟩
  | 13 => some ⟨2, 24, true, [.string ByteArray.empty, .int .u64 0], none, [(0, 1), (1, 1)], [false, false], false, false, none⟩
  | 14 => some ⟨2, 24, true, [.string ByteArray.empty, .int .u64 0], none, [(0, 1), (1, 1)], [false, false], false, false, none⟩
  | 15 => some ⟨1, 8, false, [.pointer none], none, [], [], false, false, none⟩
  | 16 => some ⟨1, 8, false, [.pointer none], none, [], [], false, false, none⟩
  | 17 => some ⟨1, 8, false, [.pointer none], none, [], [], false, false, none⟩
  | 18 => some ⟨1, 8, true, [.pointer none], none, [(0, 1)], [false], false, false, none⟩
  | 19 => some ⟨1, 8, true, [.pointer none], none, [(0, 1)], [false], false, false, none⟩
  | 21 => some ⟨1, 4, false, [.int .i32 0], none, [], [], false, false, some .i32⟩
  | 22 => some ⟨1, 24, false, [.slice none 0 0], some 3, [], [], false, false, none⟩
  | 23 => some ⟨1, 24, false, [.slice none 0 0], some 3, [], [], false, false, none⟩
  | 24 => some ⟨1, 8, false, [.nilFunc], none, [], [], false, false, none⟩
  | 25 => some ⟨1, 8, false, [.nilFunc], none, [], [], false, false, none⟩
  | 26 => some ⟨1, 8, false, [.int .i64 0], none, [], [], false, false, some .i64⟩
  | 28 => some ⟨1, 8, false, [.nilFunc], none, [], [], false, false, none⟩
  | 30 => some ⟨1, 8, false, [.nilFunc], none, [], [], false, false, none⟩
  | 31 => some ⟨1, 8, false, [.nilFunc], none, [], [], false, false, none⟩
  | 33 => some ⟨1, 8, false, [.nilFunc], none, [], [], false, false, none⟩
  | 34 => some ⟨1, 8, false, [.nilFunc], none, [], [], false, false, none⟩
  | 35 => some ⟨1, 8, false, [.nilFunc], none, [], [], false, false, none⟩
  | 37 => some ⟨1, 8, false, [.nilFunc], none, [], [], false, false, none⟩
  | 38 => some ⟨1, 8, false, [.nilFunc], none, [], [], false, false, none⟩
  | 39 => some ⟨1, 8, false, [.nilFunc], none, [], [], false, false, none⟩
  | 40 => some ⟨1, 8, false, [.nilFunc], none, [], [], false, false, none⟩
  | 41 => some ⟨1, 8, false, [.nilFunc], none, [], [], false, false, none⟩
  | 42 => some ⟨3, 56, true, [.bool false, .slice none 0 0, .slice none 0 0], none, [(0, 1), (1, 1), (2, 1)], [false, false, false], false, false, none⟩
  | 43 => some ⟨3, 56, true, [.bool false, .slice none 0 0, .slice none 0 0], none, [(0, 1), (1, 1), (2, 1)], [false, false, false], false, false, none⟩
  | 45 => some ⟨1, 8, false, [.nilFunc], none, [], [], false, false, none⟩
  | 46 => some ⟨1, 8, false, [.nilFunc], none, [], [], false, false, none⟩
  | 47 => some ⟨1, 8, false, [.nilFunc], none, [], [], false, false, none⟩
  | 48 => some ⟨1, 8, false, [.nilFunc], none, [], [], false, false, none⟩
  | 49 => some ⟨1, 8, false, [.nilFunc], none, [], [], false, false, none⟩
  | 50 => some ⟨1, 8, false, [.nilFunc], none, [], [], false, false, none⟩
  | 51 => some ⟨1, 8, false, [.nilFunc], none, [], [], false, false, none⟩
  | 52 => some ⟨1, 8, false, [.nilFunc], none, [], [], false, false, none⟩
  | 53 => some ⟨1, 8, false, [.nilFunc], none, [], [], false, false, none⟩
  | 54 => some ⟨1, 8, false, [.nilFunc], none, [], [], false, false, none⟩
  | 55 => some ⟨1, 24, false, [.slice none 0 0], some 43, [], [], false, false, none⟩
  | 56 => some ⟨1, 8, false, [.nilFunc], none, [], [], false, false, none⟩
  | 57 => some ⟨1, 8, false, [.nilFunc], none, [], [], false, false, none⟩
  | 58 => some ⟨1, 8, false, [.nilFunc], none, [], [], false, false, none⟩
  | 59 => some ⟨1, 24, false, [.slice none 0 0], some 26, [], [], false, false, none⟩
  | 60 => some ⟨1, 8, false, [.nilFunc], none, [], [], false, false, none⟩
  | 61 => some ⟨1, 8, false, [.nilFunc], none, [], [], false, false, none⟩
  | 62 => some ⟨1, 8, false, [.nilFunc], none, [], [], false, false, none⟩
  | 64 => some ⟨1, 8, false, [.nilFunc], none, [], [], false, false, none⟩
  | 65 => some ⟨1, 8, false, [.nilFunc], none, [], [], false, false, none⟩
  | 66 => some ⟨1, 8, false, [.nilFunc], none, [], [], false, false, none⟩
  | 67 => some ⟨1, 8, false, [.nilFunc], none, [], [], false, false, none⟩
  | 68 => some ⟨1, 8, false, [.nilFunc], none, [], [], false, false, none⟩
  | 69 => some ⟨1, 8, false, [.pointer none], none, [], [], false, false, none⟩
  | 70 => some ⟨1, 24, false, [.slice none 0 0], some 5, [], [], false, false, none⟩
  | 71 => some ⟨2, 32, true, [.pointer none, .slice none 0 0], none, [(0, 1), (1, 1)], [false, false], false, false, none⟩
  | 72 => some ⟨2, 32, true, [.pointer none, .slice none 0 0], none, [(0, 1), (1, 1)], [false, false], false, false, none⟩
  | 76 => some ⟨1, 8, false, [.nilFunc], none, [], [], false, false, none⟩
  | 77 => some ⟨1, 8, false, [.nilFunc], none, [], [], false, false, none⟩
  | 78 => some ⟨1, 8, false, [.nilFunc], none, [], [], false, false, none⟩
  | 79 => some ⟨1, 8, false, [.nilFunc], none, [], [], false, false, none⟩
  | 80 => some ⟨1, 8, false, [.nilFunc], none, [], [], false, false, none⟩
  | 81 => some ⟨1, 8, false, [.nilFunc], none, [], [], false, false, none⟩
  | 82 => some ⟨1, 8, false, [.nilFunc], none, [], [], false, false, none⟩
  | 83 => some ⟨1, 8, false, [.nilFunc], none, [], [], false, false, none⟩
  | 84 => some ⟨1, 8, false, [.nilFunc], none, [], [], false, false, none⟩
  | 85 => some ⟨1, 8, false, [.nilFunc], none, [], [], false, false, none⟩
  | 86 => some ⟨1, 8, false, [.nilFunc], none, [], [], false, false, none⟩
  | 87 => some ⟨1, 8, false, [.nilFunc], none, [], [], false, false, none⟩
  | 88 => some ⟨1, 8, false, [.nilFunc], none, [], [], false, false, none⟩
  | 89 => some ⟨1, 8, false, [.nilFunc], none, [], [], false, false, none⟩
  | 90 => some ⟨1, 8, false, [.nilFunc], none, [], [], false, false, none⟩
  | 91 => some ⟨1, 8, false, [.nilFunc], none, [], [], false, false, none⟩
  | 92 => some ⟨1, 8, false, [.nilFunc], none, [], [], false, false, none⟩
  | 93 => some ⟨1, 8, false, [.pointer none], none, [], [], false, false, none⟩
  | 95 => some ⟨1, 8, false, [.nilFunc], none, [], [], false, false, none⟩
  | 96 => some ⟨1, 8, false, [.nilFunc], none, [], [], false, false, none⟩
  | 97 => some ⟨1, 8, false, [.nilFunc], none, [], [], false, false, none⟩
  | 98 => some ⟨1, 8, false, [.int .u64 0], none, [], [], false, false, some .u64⟩
  | 100 => some ⟨1, 8, false, [.nilFunc], none, [], [], false, false, none⟩
  | 101 => some ⟨1, 8, false, [.nilFunc], none, [], [], false, false, none⟩
  | 102 => some ⟨1, 8, false, [.nilFunc], none, [], [], false, false, none⟩
  | 103 => some ⟨1, 8, false, [.nilFunc], none, [], [], false, false, none⟩
  | 104 => some ⟨1, 8, false, [.pointer none], none, [], [], false, false, none⟩
  | 105 => some ⟨1, 24, false, [.slice none 0 0], some 91, [], [], false, false, none⟩
  | 106 => some ⟨1, 8, false, [.nilFunc], none, [], [], false, false, none⟩
  | 107 => some ⟨1, 8, false, [.nilFunc], none, [], [], false, false, none⟩
  | 108 => some ⟨1, 8, false, [.nilFunc], none, [], [], false, false, none⟩
  | 110 => some ⟨1, 8, false, [.nilFunc], none, [], [], false, false, none⟩
  | 111 => some ⟨1, 8, false, [.nilFunc], none, [], [], false, false, none⟩
  | 112 => some ⟨1, 4, false, [.int .u32 0], none, [], [], false, false, some .u32⟩
  | 114 => some ⟨1, 8, false, [.nilFunc], none, [], [], false, false, none⟩
  | 115 => some ⟨1, 8, false, [.int .u64 0], none, [], [], false, false, some .u64⟩
  | 117 => some ⟨1, 8, false, [.nilFunc], none, [], [], false, false, none⟩
  | 119 => some ⟨1, 8, false, [.nilFunc], none, [], [], false, false, none⟩
  | 120 => some ⟨1, 8, false, [.nilFunc], none, [], [], false, false, none⟩
  | 122 => some ⟨1, 8, false, [.nilFunc], none, [], [], false, false, none⟩
  | 123 => some ⟨1, 8, false, [.nilFunc], none, [], [], false, false, none⟩
  | 124 => some ⟨1, 8, false, [.nilFunc], none, [], [], false, false, none⟩
  | 125 => some ⟨1, 8, false, [.nilFunc], none, [], [], false, false, none⟩
  | 128 => some ⟨1, 8, false, [.nilFunc], none, [], [], false, false, none⟩
  | 129 => some ⟨1, 8, false, [.nilFunc], none, [], [], false, false, none⟩
  | 132 => some ⟨4, 40, true, [.pointer none, .pointer none, .pointer none, .string ByteArray.empty], none, [(0, 1), (1, 1), (2, 1), (3, 1)], [false, false, false, false], false, false, none⟩
  | 133 => some ⟨4, 40, true, [.pointer none, .pointer none, .pointer none, .string ByteArray.empty], none, [(0, 1), (1, 1), (2, 1), (3, 1)], [false, false, false, false], false, false, none⟩
  | 135 => some ⟨0, 0, true, [], none, [(0, 0)], [true], false, false, none⟩
  | 136 => some ⟨0, 0, true, [], none, [(0, 0)], [true], false, false, none⟩
  | 137 => some ⟨1, 1, false, [.int .u8 0], none, [], [], false, false, some .u8⟩
  | 138 => some ⟨1, 1, false, [.int .u8 0], none, [], [], false, false, some .u8⟩
  | 139 => some ⟨1, 8, false, [.nilFunc], none, [], [], false, false, none⟩
  | 140 => some ⟨1, 4, false, [.int .i32 0], none, [], [], false, false, some .i32⟩
  | 141 => some ⟨1, 4, false, [.int .i32 0], none, [], [], false, false, some .i32⟩
  | 142 => some ⟨11, 48, true, [.int .u64 0, .int .u64 0, .int .u32 0, .int .u8 0, .int .u8 0, .int .u8 0, .int .u8 0, .nilFunc, .pointer none, .int .i32 0, .int .i32 0], none, [(0, 1), (1, 1), (2, 1), (3, 1), (4, 1), (5, 1), (6, 1), (7, 1), (8, 1), (9, 1), (10, 1)], [false, false, false, false, false, false, false, false, false, false, false], false, false, none⟩
  | 143 => some ⟨11, 48, true, [.int .u64 0, .int .u64 0, .int .u32 0, .int .u8 0, .int .u8 0, .int .u8 0, .int .u8 0, .nilFunc, .pointer none, .int .i32 0, .int .i32 0], none, [(0, 1), (1, 1), (2, 1), (3, 1), (4, 1), (5, 1), (6, 1), (7, 1), (8, 1), (9, 1), (10, 1)], [false, false, false, false, false, false, false, false, false, false, false], false, false, none⟩
  | _ => none
theorem tok : TOK Tryd.prog tab := by
  intro t y h
  unfold tab at h
  split at h <;> first | (injection h with h; subst h; exact ⟨by kernel_rfl, rfl, rfl⟩) | cases h
theorem mixed : Tryd.prog.follows .mixedOrders = true := by kernel_rfl
end Go.Proofs.YtalklhbdpmggjaaDoor.Pw
namespace Go.Proofs.YtalklhbdpmggjaaDoor.Pw
open Go Go.RowKit
mutual
/-- The blocks that it names are numbered below n. -/
def AV.lt (n : Nat) : AV → Bool
  | .any | .p _ => true
  | .own b _ => Nat.blt b n
  | .sl b _ _ _ => Nat.blt b n
  | .agg cs => lts n cs
  | .tup cs => lts n cs
  | .fn _ cs => lts n cs
def lts (n : Nat) : List AV → Bool
  | [] => true
  | x :: r => x.lt n && lts n r
end
theorem lts_get {n : Nat} : ∀ {cs : List AV}, lts n cs = true → ∀ (j : Nat) a, cs[j]? = some a → a.lt n = true
  | [], _, j, a, h => by simp at h
  | x :: r, hf, j, a, h => by
    simp only [lts, Bool.and_eq_true] at hf
    cases j with
    | zero => simp at h; exact h ▸ hf.1
    | succ j => exact lts_get hf.2 j a (by simpa using h)
theorem RepA.restrict {M M' : Nat → Prop} {μ μ' : Nat → Option Nat} {W : World} {n : Nat} (hμ : ∀ b, b < n → μ' b = μ b) (hM : ∀ B, M' B → M B) {a : AV} {v : Value} (r : RepA M μ W a v) : a.lt n = true → RepA M' μ' W a v := by
  induction r with
  | any x => exact fun _ => .any x
  | p x v r => exact fun _ => .p x v (r.mut hM)
  | own b o B hb => exact fun h => .own b o B (by rw [hμ b (by simpa [AV.lt] using h)]; exact hb)
  | sl0 b k => exact fun _ => .sl0 b k
  | sl b o n' k B cap el c hb hn hm hc hs => exact fun h => .sl b o n' k B cap el c (by rw [hμ b (by simpa [AV.lt] using h)]; exact hb) hn hm hc hs
  | agg cs xs hl h1 _ ih => exact fun h => .agg cs xs hl h1 fun j pv x hp hx => ih j pv x hp hx (lts_get (by simpa [AV.lt] using h) j pv hp)
  | tup cs xs hl _ ih => exact fun h => .tup cs xs hl fun j pv x hp hx => ih j pv x hp hx (lts_get (by simpa [AV.lt] using h) j pv hp)
  | fn f caps xs hl _ ih => exact fun h => .fn f caps xs hl fun j pv x hp hx => ih j pv x hp hx (lts_get (by simpa [AV.lt] using h) j pv hp)
theorem RepA.remap {M M' : Nat → Prop} {μ μ' : Nat → Option Nat} {W : World} (hμ : ∀ b B, μ b = some B → μ' b = some B) (hM : ∀ B, M' B → M B) {a : AV} {v : Value} (r : RepA M μ W a v) : RepA M' μ' W a v := by
  induction r with
  | any x => exact .any x
  | p x v r => exact .p x v (r.mut hM)
  | own b o B hb => exact .own b o B (hμ b B hb)
  | sl0 b k => exact .sl0 b k
  | sl b o n' k B cap el c hb hn hm hc hs => exact .sl b o n' k B cap el c (hμ b B hb) hn hm hc hs
  | agg cs xs hl h1 _ ih => exact .agg cs xs hl h1 ih
  | tup cs xs hl _ ih => exact .tup cs xs hl ih
  | fn f caps xs hl _ ih => exact .fn f caps xs hl ih
theorem SoundE.of_WP {P : Program} {T : Tab} (hT : TOK P T) {D f : Nat} {fn : Func} {c : Code} {args : List AV} {σ : Store} {new : Nat} {e : Eff} (hf : P.funcs[f]? = some fn) (hb : fn.body = some c) (hnm : (fn.name == "runtime.NumGoroutine") = false)
    (st0 : Stores) (h0 : ∀ b k, get st0 b = some k → σ b = some k ∧ b ∈ e.rd ∧ b < new ∧ lts new k.cells = true) (hargs : lts new args = true) (hkeys : ∀ x ∈ e.upd, (get st0 x.1 ≠ none ∨ new ≤ x.1) ∧ x.1 < new + D)
    (h : WP P new c (fun x env st nx => nx ≤ new + D ∧ Fin T fn.results.toList (fun a st => a = e.val ∧ ∀ b k, upds (get st0) e.upd b = some k → get st b = some k) x env st nx) (args0 fn.ntmps args) st0 new) : SoundE P D f args σ new e := by
  refine ⟨⟨fn, hf, hnm, by rw [hb]; rfl⟩, fun F μ st W vs hrd hS hG hnew hl hv => ?_⟩
  have hst0 : ∀ b k, get st0 b = some k → st b = some k := fun b k hk => by obtain ⟨h1, h2, _⟩ := h0 b k hk; rw [hrd b h2]; exact h1
  have hst0' : ∀ b, get st0 b ≠ none → st b = get st0 b ∧ b < new := fun b hb => by
    obtain ⟨k, hk⟩ := Option.ne_none_iff_exists'.1 hb
    exact ⟨by rw [hst0 b k hk, hk], (h0 b k hk).2.2.1⟩
  let μ0 : Nat → Option Nat := fun b => if b < new then μ b else none
  let stR : Store := fun b => if get st0 b = none then st b else none
  have hμ0 : ∀ b, b < new → μ0 b = μ b := fun b hb => if_pos hb
  have hμ0' : ∀ b, new ≤ b → μ0 b = none := fun b hb => if_neg (by omega)
  have hstR : ∀ b, get st0 b = none → stR b = st b := fun b hb => if_pos hb
  have hstR' : ∀ b, stR b ≠ none → get st0 b = none ∧ st b ≠ none := fun b hb => by
    by_cases h : get st0 b = none
    · exact ⟨h, by rw [hstR b h] at hb; exact hb⟩
    · exact absurd (if_neg h) hb
  have lowB : ∀ b B, st b ≠ none → μ b = some B → B < W.heap.size := fun b B hb hB => by
    obtain ⟨k, hk⟩ := Option.ne_none_iff_exists'.1 hb
    obtain ⟨c, hc, _⟩ := hS.row hk hB
    exact lt_of_cells hc
  have claimA : ∀ B, Mut (Mut F μ stR) μ0 (get st0) B → Mut F μ st B := fun B hB => by
    rcases hB with (hB | ⟨b, h1, h2⟩) | ⟨b, h1, h2⟩
    · exact .inl hB
    · exact .inr ⟨b, (hstR' b h1).2, h2⟩
    · obtain ⟨h3, h4⟩ := hst0' b h1
      exact .inr ⟨b, by rw [h3]; exact h1, by rw [← hμ0 b h4]; exact h2⟩
  have claimB : ∀ B, Mut F μ st B → Mut (Mut F μ stR) μ0 (get st0) B := fun B hB => by
    rcases hB with hB | ⟨b, h1, h2⟩
    · exact .inl (.inl hB)
    · by_cases h : get st0 b = none
      · exact .inl (.inr ⟨b, by rw [hstR b h]; exact h1, h2⟩)
      · exact .inr ⟨b, h, by rw [hμ0 b (hst0' b h).2]; exact h2⟩
  have hS0 : RepS (Mut F μ stR) μ0 (get st0) W := by
    refine ⟨fun b k hk => ?_, fun b b' B h1 h2 h3 h4 => ?_, fun B hB => ?_⟩
    · have hlt := (h0 b k hk).2.2
      rcases hS.at_ b k (hst0 b k hk) with ⟨h1, h2⟩ | ⟨B, cc, h1, h2, h3, h4, h5, h6⟩
      · exact .inl ⟨by rw [hμ0 b hlt.1]; exact h1, h2⟩
      · refine .inr ⟨B, cc, by rw [hμ0 b hlt.1]; exact h1, fun hB => ?_, h3, h4, h5, fun j a ha => (h6 j a ha).restrict hμ0 claimA (lts_get hlt.2 j a ha)⟩
        rcases hB with hB | ⟨b', h7, h8⟩
        · exact h2 hB
        · obtain ⟨h9, h10⟩ := hstR' b' h7
          have := hS.inj b' b B h10 (by rw [hst0 b k hk]; simp) h8 h1
          subst this
          rw [hk] at h9; cases h9
    · rw [hμ0 b (hst0' b h1).2] at h3
      rw [hμ0 b' (hst0' b' h2).2] at h4
      exact hS.inj b b' B (by rw [(hst0' b h1).1]; exact h1) (by rw [(hst0' b' h2).1]; exact h2) h3 h4
    · rcases hB with hB | ⟨b, h1, h2⟩
      · exact hS.low B hB
      · exact lowB b B (hstR' b h1).2 h2
  have hA : At (Mut F μ stR) μ0 (args0 fn.ntmps args) st0 new W { tmps := vs.toArray ++ Array.replicate (fn.ntmps - vs.toArray.size) undef, defers := [] } := by
    refine ⟨hS0, args0_rep (hG.mut claimA) hl fun j a v ha hx => (hv j a v ha hx).restrict hμ0 claimA (lts_get hargs j a ha), rfl, fun b hb => ⟨hμ0' b hb, ?_⟩⟩
    cases hg : get st0 b with
    | none => rfl
    | some k => have := (h0 b k hg).2.2.1; omega
  refine calls_of_wp hf hb (wp_mono (h (Nat.le_refl _) _ _ W _ hA) ?_)
  rintro en a' W' ⟨x, env', st', nx', μ', rfl, ⟨hnx, hq⟩, _, hA', hK⟩
  let μ2 : Nat → Option Nat := fun b => if b < new + D then μ' b else μ b
  have hμ2 : ∀ b, b < new + D → μ2 b = μ' b := fun b hb => if_pos hb
  have hμ2' : ∀ b, new + D ≤ b → μ2 b = μ b := fun b hb => if_neg (by omega)
  have hlow : ∀ b, b < new → μ' b = μ b := fun b hb => (hK.grow b hb).trans (hμ0 b hb)
  have keyed : ∀ b, (get st0 b ≠ none ∨ ∃ x ∈ e.upd, x.1 = b) ∨ (get st0 b = none ∧ ∀ x ∈ e.upd, x.1 ≠ b) := fun b => by
    by_cases h1 : get st0 b = none
    · by_cases h2 : ∃ x ∈ e.upd, x.1 = b
      · exact .inl (.inr h2)
      · exact .inr ⟨h1, fun x hx e => h2 ⟨x, hx, e⟩⟩
    · exact .inl (.inl h1)
  have fin : Res T fn.results.toList env' st' (fun a => a = e.val ∧ ∀ b k, upds (get st0) e.upd b = some k → get st' b = some k) → a'.defers = [] ∧ ∃ v, (results fn a'.tmps).run P W' = .ok v W' ∧ ∃ u μ', Ending.returned v = .returned u ∧ RepS F μ' (upds st e.upd) W' ∧
      RepA (Mut F μ' (upds st e.upd)) μ' W' e.val u ∧ Ext F (Mut F μ st) μ W (Mut F μ' (upds st e.upd)) μ' W' ∧ ∀ b, b < new ∨ new + D ≤ b → μ' b = μ b := by
    intro hr
    unfold Res at hr
    split at hr
    · rename_i avs c hres
      obtain ⟨hc, hval, hupd⟩ := hr
      obtain ⟨v, hv', hrep⟩ := results_sound hT hA'.rs hA'.re hres hc
      rw [hval] at hrep
      have hkey : ∀ b k, (get st0 b ≠ none ∨ ∃ x ∈ e.upd, x.1 = b) → upds st e.upd b = some k → get st' b = some k ∧ b < new + D := fun b k hb hk => by
        have h1 : get st' b = some k := by
          refine hupd b k ?_
          by_cases h2 : ∃ x ∈ e.upd, x.1 = b
          · rw [upds_same e.upd (get st0) st b h2]; exact hk
          · have h2' : ∀ x ∈ e.upd, x.1 ≠ b := fun x hx e' => h2 ⟨x, hx, e'⟩
            rw [upds_other e.upd st b h2'] at hk
            rw [upds_other e.upd _ b h2']
            rcases hb with hb | hb
            · rw [← (hst0' b hb).1]; exact hk
            · exact absurd hb h2
        refine ⟨h1, ?_⟩
        rcases Nat.lt_or_ge b (new + D) with h2 | h2
        · exact h2
        · rw [(hA'.fr b (by omega)).2] at h1; cases h1
      have hunt : ∀ b, (get st0 b = none ∧ ∀ x ∈ e.upd, x.1 ≠ b) → upds st e.upd b = st b ∧ stR b = st b ∧ (st b ≠ none → μ2 b = μ b) := fun b hb => by
        refine ⟨upds_other e.upd st b hb.2, hstR b hb.1, fun hs => ?_⟩
        rcases Nat.lt_or_ge b new with h1 | h1
        · rw [hμ2 b (by omega)]; exact hlow b h1
        · rcases Nat.lt_or_ge b (new + D) with h2 | h2
          · have := (hnew (b - new) (by omega)).2
            rw [show new + (b - new) = b by omega] at this
            exact absurd this hs
          · exact hμ2' b h2
      have hmap : ∀ b B, μ' b = some B → μ2 b = some B := fun b B hb => by
        rcases Nat.lt_or_ge b (new + D) with h2 | h2
        · rw [hμ2 b h2]; exact hb
        · rw [(hA'.fr b (by omega)).1] at hb; cases hb
      have hM2 : ∀ B, Mut F μ2 (upds st e.upd) B → Mut (Mut F μ stR) μ' (get st') B := fun B hB => by
        rcases hB with hB | ⟨b, h1, h2⟩
        · exact .inl (.inl hB)
        · rcases keyed b with hk | hk
          · obtain ⟨k, hk'⟩ := Option.ne_none_iff_exists'.1 h1
            obtain ⟨h3, h4⟩ := hkey b k hk hk'
            exact .inr ⟨b, by rw [h3]; simp, by rw [← hμ2 b h4]; exact h2⟩
          · obtain ⟨h3, h4, h5⟩ := hunt b hk
            rw [h3] at h1
            exact .inl (.inr ⟨b, by rw [h4]; exact h1, by rw [← h5 h1]; exact h2⟩)
      have hext : Ext F (Mut F μ st) μ W (Mut F μ2 (upds st e.upd)) μ2 W' := by
        refine ⟨hK.size, fun B hB hm => hK.keep B hB fun hm' => hm (claimA B hm'), hK.shape, fun b B hb => ?_, fun B hB hm => claimA B (hK.fresh B hB (hM2 B hm)), hK.os, hK.tape, hK.output, fun B hF => hK.keepF B (.inl hF)⟩
        rcases Nat.lt_or_ge b new with h1 | h1
        · rw [hμ2 b (by omega), hlow b h1]; exact hb
        · rcases Nat.lt_or_ge b (new + D) with h2 | h2
          · have := (hnew (b - new) (by omega)).1
            rw [show new + (b - new) = b by omega, hb] at this; cases this
          · rw [hμ2' b h2]; exact hb
      refine ⟨hA'.df, v, hv', v, μ2, rfl, ⟨fun b k hk => ?_, fun b1 b2 B h1 h2 h3 h4 => ?_, fun B hF => Nat.lt_of_lt_of_le (hS.low B hF) hK.size⟩, hrep.remap hmap hM2, hext, fun b hb => ?_⟩
      · rcases keyed b with hkk | hkk
        · obtain ⟨h3, h4⟩ := hkey b k hkk hk
          rcases hA'.rs.at_ b k h3 with ⟨h5, h6⟩ | ⟨B, cc, h5, h6, h7, h8, h9, h10⟩
          · exact .inl ⟨by rw [hμ2 b h4]; exact h5, h6⟩
          · exact .inr ⟨B, cc, by rw [hμ2 b h4]; exact h5, fun hF => h6 (.inl hF), h7, h8, h9, fun j a ha => (h10 j a ha).remap hmap hM2⟩
        · obtain ⟨h3, h4, h5⟩ := hunt b hkk
          rw [h3] at hk
          rcases hS.at_ b k hk with ⟨h6, h7⟩ | ⟨B, cc, h6, h7, h8, h9, h10, h11⟩
          · exact .inl ⟨by rw [h5 (by rw [hk]; simp)]; exact h6, h7⟩
          · exact .inr ⟨B, cc, by rw [h5 (by rw [hk]; simp)]; exact h6, h7, by rw [hK.keepF B (.inr ⟨b, by rw [h4, hk]; simp, h6⟩)]; exact h8, h9, h10, fun j a ha => (h11 j a ha).ext hext⟩
      · have side : ∀ b, upds st e.upd b ≠ none → μ2 b = some B → (get st' b ≠ none ∧ μ' b = some B ∧ ¬ Mut F μ stR B) ∨ (st b ≠ none ∧ μ b = some B ∧ Mut F μ stR B) := fun b hb hB => by
          rcases keyed b with hkk | hkk
          · obtain ⟨k, hk'⟩ := Option.ne_none_iff_exists'.1 hb
            obtain ⟨h5, h6⟩ := hkey b k hkk hk'
            rw [hμ2 b h6] at hB
            refine .inl ⟨by rw [h5]; simp, hB, ?_⟩
            rcases hA'.rs.at_ b k h5 with ⟨h7, _⟩ | ⟨B', _, h7, h8, _⟩
            · rw [h7] at hB; cases hB
            · rw [h7] at hB; injection hB with hB; subst hB; exact h8
          · obtain ⟨h5, h6, h7⟩ := hunt b hkk
            rw [h5] at hb
            have h8 := h7 hb
            rw [h8] at hB
            exact .inr ⟨hb, hB, .inr ⟨b, by rw [h6]; exact hb, hB⟩⟩
        rcases side b1 h1 h3 with ⟨s1, s2, s3⟩ | ⟨s1, s2, s3⟩ <;> rcases side b2 h2 h4 with ⟨t1, t2, t3⟩ | ⟨t1, t2, t3⟩
        · exact hA'.rs.inj b1 b2 B s1 t1 s2 t2
        · exact absurd t3 s3
        · exact absurd s3 t3
        · exact hS.inj b1 b2 B s1 t1 s2 t2
      · rcases hb with hb | hb
        · rw [hμ2 b (by omega)]; exact hlow b hb
        · exact hμ2' b hb
    · exact hr.elim
  cases x with
  | normal => exact fin hq
  | ret => exact fin hq
  | exit id => exact hq.elim
/-- A function of values that returns a slice of its own: the contract at number 0 holds at any number. -/
theorem SoundE.fresh {P : Program} {D f : Nat} {args : List PV} {σ0 : Store} {j n k : Nat} {b : Blk} (hb : ∃ e cs, b = .pc e cs) (hj : j < D)
    (h : SoundE P D f (args.map .p) σ0 0 ⟨.sl j 0 n k, [(j, some b)], []⟩) (σ : Store) (new : Nat) : SoundE P D f (args.map .p) σ new ⟨.sl (new + j) 0 n k, [(new + j, some b)], []⟩ := by
  refine ⟨h.1, fun F μ st W vs _ hS hG hnew hl hv => ?_⟩
  obtain ⟨e0, cs0, rfl⟩ := hb
  have hlow : ∀ B, Mut F μ st B → B < W.heap.size := fun B hB => by
    rcases hB with hB | ⟨b, h1, h2⟩
    · exact hS.low B hB
    · obtain ⟨k, hk⟩ := Option.ne_none_iff_exists'.1 h1
      obtain ⟨c, hc, _⟩ := hS.row hk h2
      exact lt_of_cells hc
  have pure_ : ∀ {M M' : Nat → Prop} {μ1 μ2 : Nat → Option Nat} {W : World} {x : PV} {v : Value}, (∀ B, M' B → M B) → RepA M μ1 W (.p x) v → RepA M' μ2 W (.p x) v := fun hM hr => .p _ _ (hr.p_inv.mut hM)
  have hM1 : ∀ B, Mut (Mut F μ st) (fun _ => none) (fun _ => none) B → Mut F μ st B := fun B hB => by
    rcases hB with hB | ⟨b, h1, _⟩
    · exact hB
    · exact absurd rfl h1
  refine (h.2 (Mut F μ st) (fun _ => none) (fun _ => none) W vs (fun b hb => by cases hb) ⟨fun b k hk => (by cases hk), fun b b' B h1 => absurd rfl h1, hlow⟩ (hG.mut hM1) (fun i _ => ⟨rfl, rfl⟩) hl (fun i a v ha hx => ?_)).mono ?_
  · have h1 := hv i a v ha hx
    simp only [List.getElem?_map, Option.map_eq_some_iff] at ha
    obtain ⟨p, hp, rfl⟩ := ha
    exact pure_ hM1 h1
  · rintro en W' ⟨v, μ1, rfl, hS1, hr1, hE, hμ1⟩
    have hst1 : upds (fun _ => none) [(j, some (Blk.pc e0 cs0))] j = some (Blk.pc e0 cs0) := by simp [upds, upd1]
    have e1 : ∀ b, upds st [(new + j, some (Blk.pc e0 cs0))] b = if b = new + j then some (Blk.pc e0 cs0) else st b := fun b => by
      simp only [upds, upd1, List.foldl]
    have live : ∀ B, μ1 j = some B → Mut (Mut F μ st) μ1 (upds (fun _ => none) [(j, some (Blk.pc e0 cs0))]) B := fun B hB => .inr ⟨j, by rw [hst1]; simp, hB⟩
    have notold : ∀ B, μ1 j = some B → ¬ Mut F μ st B := fun B hB => by
      rcases hS1.at_ j _ hst1 with ⟨h1, _⟩ | ⟨B', c, h1, h2, _⟩
      · rw [h1] at hB; cases hB
      · rw [h1] at hB; cases hB; exact h2
    have hM' : ∀ B, Mut F (fun b => if b = new + j then μ1 j else μ b) (upds st [(new + j, some (Blk.pc e0 cs0))]) B → Mut F μ st B ∨ μ1 j = some B := fun B hB => by
      rcases hB with hB | ⟨b, h1, h2⟩
      · exact .inl (.inl hB)
      · rw [e1] at h1
        by_cases hb : b = new + j
        · simp only [if_pos hb] at h2; exact .inr h2
        · simp only [if_neg hb] at h1 h2; exact .inl (.inr ⟨b, h1, h2⟩)
    have hMM : ∀ B, Mut F (fun b => if b = new + j then μ1 j else μ b) (upds st [(new + j, some (Blk.pc e0 cs0))]) B → Mut (Mut F μ st) μ1 (upds (fun _ => none) [(j, some (Blk.pc e0 cs0))]) B := fun B hB => (hM' B hB).elim .inl (live B)
    have hX : Ext F (Mut F μ st) μ W (Mut F (fun b => if b = new + j then μ1 j else μ b) (upds st [(new + j, some (Blk.pc e0 cs0))])) (fun b => if b = new + j then μ1 j else μ b) W' := by
      refine ⟨hE.size, fun B hB hM => hE.keep B hB fun h => hM (hM1 B h), hE.shape, fun b B hb => ?_, fun B hB hm => ?_, hE.os, hE.tape, hE.output, fun B hB => hE.keepF B (.inl hB)⟩
      · by_cases e : b = new + j
        · subst e; rw [(hnew j hj).1] at hb; cases hb
        · simp only [if_neg e]; exact hb
      · rcases hM' B hm with h1 | h1
        · exact h1
        · exact hM1 B (hE.fresh B hB (live B h1))
    refine ⟨v, fun b => if b = new + j then μ1 j else μ b, rfl, ⟨fun b k hk => ?_, fun b b' B h1 h2 h3 h4 => ?_, fun B hB => Nat.lt_of_lt_of_le (hS.low B hB) hE.size⟩, ?_, hX, fun b hb => if_neg (by omega)⟩
    · rw [e1] at hk
      by_cases e : b = new + j
      · simp only [if_pos e, Option.some.injEq] at hk ⊢
        subst hk
        rcases hS1.at_ j _ hst1 with h1 | ⟨B, c, h1, h2, h3, h4, h5, h6⟩
        · exact .inl h1
        · refine .inr ⟨B, c, h1, fun hF => h2 (.inl hF), h3, h4, h5, fun i a ha => ?_⟩
          have h7 := h6 i a ha
          simp only [Blk.cells, List.getElem?_map, Option.map_eq_some_iff] at ha
          obtain ⟨p, hp, rfl⟩ := ha
          exact pure_ hMM h7
      · simp only [if_neg e] at hk ⊢
        rcases hS.at_ b k hk with h1 | ⟨B, c, h1, h2, h3, h4, h5, h6⟩
        · exact .inl h1
        · refine .inr ⟨B, c, h1, h2, ?_, h4, h5, fun i a ha => (h6 i a ha).ext hX⟩
          rw [hE.keepF B (.inr ⟨b, by rw [hk]; simp, h1⟩)]; exact h3
    · rw [e1] at h1 h2
      by_cases e : b = new + j <;> by_cases e' : b' = new + j
      · rw [e, e']
      · simp only [if_pos e, if_neg e'] at h1 h2 h3 h4
        exact absurd (.inr ⟨b', h2, h4⟩) (notold B h3)
      · simp only [if_neg e, if_pos e'] at h1 h2 h3 h4
        exact absurd (.inr ⟨b, h1, h3⟩) (notold B h4)
      · simp only [if_neg e, if_neg e'] at h1 h2 h3 h4
        exact hS.inj b b' B h1 h2 h3 h4
    · cases hr1 with
      | sl0 b k => exact .sl0 _ _
      | sl b o n k B cap el c h1 h2 h3 h4 h5 => exact .sl _ _ _ _ B cap el c (by simp only [if_pos]; exact h1) h2 h3 h4 h5
end Go.Proofs.YtalklhbdpmggjaaDoor.Pw
