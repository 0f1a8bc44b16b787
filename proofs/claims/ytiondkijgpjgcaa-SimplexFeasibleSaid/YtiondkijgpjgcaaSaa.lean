/- The functions of the program as functions of values, part 1: a proof's lemmas, with no condition of their own. -/
import Derived.Laws.Rows
import Derived.Laws.AppendOwn
import Derived.Below
import Derived.Laws.MakeOwn
import Derived.Deep.Upon
import Derived.Laws.BitsLemmas
import Derived.Great.BuildSlice
set_option linter.unusedVariables false
set_option linter.unusedSimpArgs false
namespace Go.Proofs.Ytiondkijgpjgcaa.Pw
open Go Go.RowKit
/-- A value that nobody writes behind: a number, a slice as the list of its cells, a cell's address in such a list. -/
inductive PV where
  | v (x : Value)
  | lst (n : Nat) (cs : List PV)
  | pt (cs : List PV) (o : Nat)
  | agg (cs : List PV)
  | tup (cs : List PV)
  deriving Inhabited
/-- A value of a running call: it may lie in a block of the call's own. -/
inductive AV where
  | any
  | p (x : PV)
  | own (b o : Nat)
  | sl (b o n k : Nat)
  | agg (cs : List AV)
  | tup (cs : List AV)
  | fn (f : Nat) (caps : List AV)
  deriving Inhabited
inductive Blk where
  | pc (el : Nat) (cs : List PV)
  | mc (el : Nat) (cs : List AV)
  deriving Inhabited
def Blk.el : Blk → Nat | .pc e _ => e | .mc e _ => e
def Blk.cells : Blk → List AV | .pc _ cs => cs.map .p | .mc _ cs => cs
abbrev Store := Nat → Option Blk
/-- What a pure value stands for: memory outside the blocks M, that are there. -/
inductive RepP (M : Nat → Prop) (W : World) : PV → Value → Prop
  | v (x : Value) : x.oneCell' = true → RepP M W (.v x) x
  | lst0 (a : Option Addr) (cap : Nat) : RepP M W (.lst 0 []) (.slice a 0 cap)
  | lst (n cap : Nat) (cs : List PV) (B o : Nat) (g : Nat → Value) : B < W.heap.size → ¬ M B → n ≤ cap ∧ cap ≤ maxLen →
      (∀ j, j < cs.length → W.cell? ⟨B, o + j, none⟩ = some (g j)) → (∀ j, j < cs.length → (g j).oneCell' = true) →
      (∀ (j : Nat) pv, cs[j]? = some pv → RepP M W pv (g j)) → RepP M W (.lst n cs) (.slice (some ⟨B, o, none⟩) n cap)
  | pt (cs : List PV) (o B base : Nat) (g : Nat → Value) : B < W.heap.size → ¬ M B →
      (∀ j, j < cs.length → W.cell? ⟨B, base + j, none⟩ = some (g j)) → (∀ j, j < cs.length → (g j).oneCell' = true) →
      (∀ (j : Nat) pv, cs[j]? = some pv → RepP M W pv (g j)) → RepP M W (.pt cs o) (.pointer (some ⟨B, base + o, none⟩))
  | agg (cs : List PV) (xs : List Value) : xs.length = cs.length → (∀ (j : Nat) x, xs[j]? = some x → x.oneCell' = true) →
      (∀ (j : Nat) pv x, cs[j]? = some pv → xs[j]? = some x → RepP M W pv x) → RepP M W (.agg cs) (.agg xs.toArray)
  | tup (cs : List PV) (xs : List Value) : xs.length = cs.length →
      (∀ (j : Nat) pv x, cs[j]? = some pv → xs[j]? = some x → RepP M W pv x) → RepP M W (.tup cs) (.tuple xs.toArray)
inductive RepA (M : Nat → Prop) (μ : Nat → Option Nat) (W : World) : AV → Value → Prop
  | any (x : Value) : RepA M μ W .any x
  | p (x : PV) (v : Value) : RepP M W x v → RepA M μ W (.p x) v
  | own (b o B : Nat) : μ b = some B → RepA M μ W (.own b o) (.pointer (some ⟨B, o, none⟩))
  | sl0 (b k : Nat) : RepA M μ W (.sl b 0 0 k) (.slice none 0 0)
  | sl (b o n k B cap el : Nat) (c : Array Value) : μ b = some B → n ≤ cap → cap ≤ maxLen → W.heap[B]? = some (.cells c el (0, 0)) → o + cap * k = c.size →
      RepA M μ W (.sl b o n k) (.slice (some ⟨B, o, none⟩) n cap)
  | agg (cs : List AV) (xs : List Value) : xs.length = cs.length → (∀ (j : Nat) x, xs[j]? = some x → x.oneCell' = true) →
      (∀ (j : Nat) pv x, cs[j]? = some pv → xs[j]? = some x → RepA M μ W pv x) → RepA M μ W (.agg cs) (.agg xs.toArray)
  | tup (cs : List AV) (xs : List Value) : xs.length = cs.length →
      (∀ (j : Nat) pv x, cs[j]? = some pv → xs[j]? = some x → RepA M μ W pv x) → RepA M μ W (.tup cs) (.tuple xs.toArray)
  | fn (f : Nat) (caps : List AV) (xs : List Value) : xs.length = caps.length →
      (∀ (j : Nat) pv x, caps[j]? = some pv → xs[j]? = some x → RepA M μ W pv x) → RepA M μ W (.fn f caps) (.func (.func f) #[] xs.toArray)
/-- The blocks that the call may write: those that a live block of its own lies in, and those that others hold. -/
def Mut (F : Nat → Prop) (μ : Nat → Option Nat) (st : Store) (B : Nat) : Prop := F B ∨ ∃ b, st b ≠ none ∧ μ b = some B
/-- What lies in the call's own blocks. -/
structure RepS (F : Nat → Prop) (μ : Nat → Option Nat) (st : Store) (W : World) : Prop where
  at_ : ∀ b k, st b = some k → (μ b = none ∧ k.cells = []) ∨ ∃ B c, μ b = some B ∧ ¬ F B ∧ W.heap[B]? = some (.cells c k.el (0, 0)) ∧ k.cells.length ≤ c.size ∧
    (∀ j : Nat, j < k.cells.length → (c.getD j undef).oneCell' = true) ∧ ∀ (j : Nat) a, k.cells[j]? = some a → RepA (Mut F μ st) μ W a (c.getD j undef)
  inj : ∀ b b' B, st b ≠ none → st b' ≠ none → μ b = some B → μ b' = some B → b = b'
  low : ∀ B, F B → B < W.heap.size
/-- What is kept of the memory from one moment to a later one. -/
structure Ext (F M : Nat → Prop) (μ : Nat → Option Nat) (W : World) (M' : Nat → Prop) (μ' : Nat → Option Nat) (W' : World) : Prop where
  size : W.heap.size ≤ W'.heap.size
  keep : ∀ B, B < W.heap.size → ¬ M B → W'.heap[B]? = W.heap[B]?
  shape : ∀ (B : Nat) c el, W.heap[B]? = some (.cells c el (0, 0)) → ∃ c', W'.heap[B]? = some (.cells c' el (0, 0)) ∧ c'.size = c.size
  grow : ∀ b B, μ b = some B → μ' b = some B
  fresh : ∀ B, B < W.heap.size → M' B → M B
  os : W'.os = W.os
  tape : W'.tape = W.tape
  output : W'.output = W.output
  keepF : ∀ B, F B → W'.heap[B]? = W.heap[B]?
theorem Ext.refl (F M : Nat → Prop) (μ : Nat → Option Nat) (W : World) : Ext F M μ W M μ W := ⟨Nat.le_refl _, fun _ _ _ => rfl, fun _ c _ h => ⟨c, h, rfl⟩, fun _ _ h => h, fun _ _ h => h, rfl, rfl, rfl, fun _ _ => rfl⟩
theorem Ext.trans {F M M' M'' : Nat → Prop} {μ μ' μ'' : Nat → Option Nat} {W W' W'' : World} (h : Ext F M μ W M' μ' W') (k : Ext F M' μ' W' M'' μ'' W'') : Ext F M μ W M'' μ'' W'' where
  size := Nat.le_trans h.size k.size
  keep B hB hM := (k.keep B (Nat.lt_of_lt_of_le hB h.size) (fun hm => hM (h.fresh B hB hm))).trans (h.keep B hB hM)
  shape B c el hc := by
    obtain ⟨c1, h1, e1⟩ := h.shape B c el hc
    obtain ⟨c2, h2, e2⟩ := k.shape B c1 el h1
    exact ⟨c2, h2, e2.trans e1⟩
  grow b B hb := k.grow b B (h.grow b B hb)
  fresh B hB hm := h.fresh B hB (k.fresh B (Nat.lt_of_lt_of_le hB h.size) hm)
  os := k.os.trans h.os
  tape := k.tape.trans h.tape
  output := k.output.trans h.output
  keepF B hB := (k.keepF B hB).trans (h.keepF B hB)
theorem Ext.cell {F M M' : Nat → Prop} {μ μ' : Nat → Option Nat} {W W' : World} (h : Ext F M μ W M' μ' W') {B o : Nat} (hB : B < W.heap.size) (hM : ¬ M B) : W'.cell? ⟨B, o, none⟩ = W.cell? ⟨B, o, none⟩ :=
  World.cell?_of_block (a := ⟨B, o, none⟩) (h.keep B hB hM)
theorem RepP.ext {F M M' : Nat → Prop} {μ μ' : Nat → Option Nat} {W W' : World} (h : Ext F M μ W M' μ' W') {x : PV} {v : Value} (r : RepP M W x v) : RepP M' W' x v := by
  induction r with
  | v x hx => exact .v x hx
  | lst0 a cap => exact .lst0 a cap
  | lst n cap cs B o g hB hM hn hc h1 _ ih => exact .lst n cap cs B o g (Nat.lt_of_lt_of_le hB h.size) (fun hm => hM (h.fresh B hB hm)) hn (fun j hj => (h.cell hB hM).trans (hc j hj)) h1 ih
  | pt cs o B base g hB hM hc h1 _ ih => exact .pt cs o B base g (Nat.lt_of_lt_of_le hB h.size) (fun hm => hM (h.fresh B hB hm)) (fun j hj => (h.cell hB hM).trans (hc j hj)) h1 ih
  | agg cs xs hl h1 _ ih => exact .agg cs xs hl h1 ih
  | tup cs xs hl _ ih => exact .tup cs xs hl ih
theorem RepA.ext {F M M' : Nat → Prop} {μ μ' : Nat → Option Nat} {W W' : World} (h : Ext F M μ W M' μ' W') {x : AV} {v : Value} (r : RepA M μ W x v) : RepA M' μ' W' x v := by
  induction r with
  | any x => exact .any x
  | p x v r => exact .p x v (r.ext h)
  | own b o B hb => exact .own b o B (h.grow b B hb)
  | sl0 b k => exact .sl0 b k
  | sl b o n k B cap el c hb hn hm hc hs =>
    obtain ⟨c', hc', e⟩ := h.shape B c el hc
    exact .sl b o n k B cap el c' (h.grow b B hb) hn hm hc' (hs.trans e.symm)
  | agg cs xs hl h1 _ ih => exact .agg cs xs hl h1 ih
  | tup cs xs hl _ ih => exact .tup cs xs hl ih
  | fn f caps xs hl _ ih => exact .fn f caps xs hl ih
/-- What a pure value stands for in a call's view stands in another's, whose writable blocks are no more. -/
theorem RepP.mut {M M' : Nat → Prop} {W : World} (h : ∀ B, M' B → M B) {x : PV} {v : Value} (r : RepP M W x v) : RepP M' W x v := by
  induction r with
  | v x hx => exact .v x hx
  | lst0 a cap => exact .lst0 a cap
  | lst n cap cs B o g hB hM hn hc h1 _ ih => exact .lst n cap cs B o g hB (fun hm => hM (h B hm)) hn hc h1 ih
  | pt cs o B base g hB hM hc h1 _ ih => exact .pt cs o B base g hB (fun hm => hM (h B hm)) hc h1 ih
  | agg cs xs hl h1 _ ih => exact .agg cs xs hl h1 ih
  | tup cs xs hl _ ih => exact .tup cs xs hl ih
theorem RepA.mut {M M' : Nat → Prop} {μ : Nat → Option Nat} {W : World} (h : ∀ B, M' B → M B) {x : AV} {v : Value} (r : RepA M μ W x v) : RepA M' μ W x v := by
  induction r with
  | any x => exact .any x
  | p x v r => exact .p x v (r.mut h)
  | own b o B hb => exact .own b o B hb
  | sl0 b k => exact .sl0 b k
  | sl b o n k B cap el c hb hn hm hc hs => exact .sl b o n k B cap el c hb hn hm hc hs
  | agg cs xs hl h1 _ ih => exact .agg cs xs hl h1 ih
  | tup cs xs hl _ ih => exact .tup cs xs hl ih
  | fn f caps xs hl _ ih => exact .fn f caps xs hl ih
/-- A list of abstract cells and the cells that they stand for. -/
def RepL (M : Nat → Prop) (μ : Nat → Option Nat) (W : World) (cs : List AV) (xs : List Value) : Prop :=
  xs.length = cs.length ∧ (∀ (j : Nat) x, xs[j]? = some x → x.oneCell' = true) ∧ ∀ (j : Nat) a x, cs[j]? = some a → xs[j]? = some x → RepA M μ W a x
theorem RepP.one {M : Nat → Prop} {W : World} {x : PV} {v : Value} (r : RepP M W x v) (h : match x with | .agg _ | .tup _ => False | _ => True) : v.oneCell' = true := by
  cases r <;> first | rfl | assumption | exact h.elim
/-- The cells of a value. -/
def AV.cells : AV → List AV
  | .p (.agg cs) => cs.map .p
  | .agg cs => cs
  | x => [x]
/-- It has cells that are known. -/
def AV.solid : AV → Bool
  | .any | .tup _ | .p (.tup _) => false
  | _ => true
theorem RepL.one {M : Nat → Prop} {μ : Nat → Option Nat} {W : World} {a : AV} {v : Value} (h1 : v.oneCell' = true) (r : RepA M μ W a v) : RepL M μ W [a] [v] := by
  refine ⟨rfl, fun j x hj => ?_, fun j b x hb hx => ?_⟩
  · cases j with
    | zero => simp at hj; exact hj ▸ h1
    | succ j => simp at hj
  · cases j with
    | zero => simp at hb hx; exact hb ▸ hx ▸ r
    | succ j => simp at hb
theorem Value.cells_one {v : Value} (h : v.oneCell' = true) : v.cells = #[v] := by
  cases v <;> first | rfl | simp [Value.oneCell'] at h
theorem RepA.cells {M : Nat → Prop} {μ : Nat → Option Nat} {W : World} {a : AV} {v : Value} (r : RepA M μ W a v) (hs : a.solid = true) : RepL M μ W a.cells v.cells.toList := by
  have one : ∀ {a : AV} {v : Value}, RepA M μ W a v → a.cells = [a] → v.oneCell' = true → RepL M μ W a.cells v.cells.toList := fun {a v} r ha hv => by
    rw [ha, Value.cells_one hv]
    exact .one hv r
  cases r with
  | any x => simp [AV.solid] at hs
  | p x v r =>
    cases r with
    | agg cs xs hl h1 hr =>
      refine ⟨by simpa [AV.cells, Value.cells] using hl, fun j x hx => h1 j x (by simpa [Value.cells] using hx), fun j a x ha hx => ?_⟩
      simp only [AV.cells, List.getElem?_map, Option.map_eq_some_iff] at ha
      obtain ⟨pv, hpv, rfl⟩ := ha
      exact .p _ _ (hr j pv x hpv (by simpa [Value.cells] using hx))
    | tup cs xs hl hr => simp [AV.solid] at hs
    | v _ hx => exact one (.p _ _ (.v _ hx)) rfl hx
    | lst0 a cap => exact one (.p _ _ (.lst0 a cap)) rfl rfl
    | lst n cap cs B o g hB hM hn hc h1 hr => exact one (.p _ _ (.lst n cap cs B o g hB hM hn hc h1 hr)) rfl rfl
    | pt cs o B base g hB hM hc h1 hr => exact one (.p _ _ (.pt cs o B base g hB hM hc h1 hr)) rfl rfl
  | own b o B hb => exact one (.own b o B hb) rfl rfl
  | sl0 b k => exact one (.sl0 b k) rfl rfl
  | sl b o n k B cap el c hb hn hm hc hz => exact one (.sl b o n k B cap el c hb hn hm hc hz) rfl rfl
  | agg cs xs hl h1 hr => exact ⟨by simpa [AV.cells, Value.cells] using hl, fun j x hx => h1 j x (by simpa [Value.cells] using hx), fun j a x ha hx => hr j a x (by simpa [AV.cells] using ha) (by simpa [Value.cells] using hx)⟩
  | tup cs xs hl hr => simp [AV.solid] at hs
  | fn f caps xs hl hr => exact one (.fn f caps xs hl hr) rfl rfl
/-- The block out of a list of cells: pure if all of them are. -/
def allP : List AV → Option (List PV)
  | [] => some []
  | .p x :: r => (allP r).map (x :: ·)
  | _ :: _ => none
theorem allP_spec : ∀ {cs : List AV} {ps : List PV}, allP cs = some ps → cs = ps.map .p
  | [], _, h => by simp only [allP, Option.some.injEq] at h; subst h; rfl
  | .p x :: r, ps, h => by
    simp only [allP, Option.map_eq_some_iff] at h
    obtain ⟨qs, hq, rfl⟩ := h
    rw [allP_spec hq]; rfl
  | .any :: _, _, h | .own .. :: _, _, h | .sl .. :: _, _, h | .agg .. :: _, _, h | .tup .. :: _, _, h | .fn .. :: _, _, h => by simp [allP] at h
def Blk.mk (el : Nat) (cs : List AV) : Blk := match allP cs with | some ps => .pc el ps | none => .mc el cs
theorem Blk.mk_el (el : Nat) (cs : List AV) : (Blk.mk el cs).el = el := by unfold Blk.mk; split <;> rfl
theorem Blk.mk_cells (el : Nat) (cs : List AV) : (Blk.mk el cs).cells = cs := by
  unfold Blk.mk
  split
  · rename_i ps h; exact (allP_spec h).symm
  · rfl
end Go.Proofs.Ytiondkijgpjgcaa.Pw
namespace Go.Proofs.Ytiondkijgpjgcaa.Pw
open Go Go.RowKit
/-- What is asked of a type. -/
structure Ty where
  size : Nat
  bytes : Nat
  agg : Bool
  zero : List Value
  elem : Option Nat
  fields : List (Nat × Nat)
  fagg : List Bool
  bool : Bool
  str : Bool
  int : Option IntKind
  arr : Option (Nat × Nat)
  deriving Inhabited
def isAggB (P : Program) (t : TypeId) : Bool := match P.underlying t with | some (.struct _) | some (.array _ _) => true | _ => false
def mkTy (P : Program) (t : TypeId) : Option Ty :=
  match P.info? t, P.underlying t with
  | some i, some d =>
    match i.zero with
    | some z => some { size := i.size, bytes := i.bytes, agg := isAggB P t, zero := z.cells.toList
                       elem := match d with | .slice e => some e | _ => none
                       fields := match d with | .struct fs => if fs.toList.all (fun f => (P.underlying f.type).isSome) then (fs.toList.mapM (fun f => (P.info? f.type).map fun i => (f.offset, i.size))).getD [] else [] | _ => []
                       fagg := match d with | .struct fs => fs.toList.map (fun f => isAggB P f.type) | _ => []
                       bool := match d with | .bool => true | _ => false
                       str := match d with | .string => true | _ => false
                       int := match d with | .int k => some k | _ => none
                       arr := match d with | .array n e => some (n, e) | _ => none }
    | none => none
  | _, _ => none
/-- The table of the types that a text names. -/
abbrev Tab := Nat → Option Ty
def TOK (P : Program) (T : Tab) : Prop := ∀ t y, T t = some y → mkTy P t = some y ∧ y.zero.length = y.size ∧ y.zero.all (·.oneCell') = true
structure Eff where
  val : AV
  upd : List (Nat × Option Blk)
  rd : List Nat
def cells1 (cs : List AV) : AV := match allP cs with | some ps => .p (.agg ps) | none => .agg cs
def cellsTo (agg : Bool) (size : Nat) (o : Nat) : Blk → AV
  | .pc _ cs => if agg then .p (.agg ((cs.drop o).take size)) else .p (cs.getD o default)
  | .mc _ cs => if agg then cells1 ((cs.drop o).take size) else cs.getD o .any
def lay {α : Type} (o : Nat) (x : List α) (cs : List α) : List α := match x with | [a] => cs.set o a | _ => cs.take o ++ (x ++ cs.drop (o + x.length))
def putIn (o : Nat) (x : List AV) : Blk → Blk
  | .pc e cs => match allP x with | some ps => .pc e (lay o ps cs) | none => .mc e (lay o x (cs.map .p))
  | .mc e cs => .mc e (lay o x cs)
def fillA (place : Nat → Option (Nat × Nat)) (cs : List AV) : List (Nat × AV) → Option (List AV)
  | [] => some cs
  | (i, x) :: r => match place i with
    | none => none
    | some (o, s) => if x.solid && x.cells.length == s && Nat.ble (o + s) cs.length then fillA place (lay o x.cells cs) r else none
def rep (n : Nat) (z : List PV) : List PV := match z with | [a] => List.replicate n a | _ => (List.replicate n z).flatten
def constA : Value → AV
  | .agg xs => .p (.agg (xs.toList.map .v))
  | .tuple _ => .any
  | x => .p (.v x)
def ints : AV → Option (IntKind × Int) | .p (.v (.int k n)) => some (k, n) | _ => none
def binA (op : BinOp) (k : IntKind) (a b : Int) : Option (Value × Prop) :=
  match op with
  | .add => some (.int k (k.wrap (a + b)), True)
  | .sub => some (.int k (k.wrap (a - b)), True)
  | .mul => some (.int k (k.wrap (a * b)), True)
  | .quo => some (.int k (k.wrap (a.tdiv b)), b ≠ 0)
  | .rem => some (.int k (a.tmod b), b ≠ 0)
  | .eql => some (.bool (decide (a = b)), True)
  | .neq => some (.bool (!decide (a = b)), True)
  | .lss => some (.bool (a < b), True)
  | .leq => some (.bool (a ≤ b), True)
  | .gtr => some (.bool (a > b), True)
  | .geq => some (.bool (a ≥ b), True)
  | _ => none
def strA (op : BinOp) (a b : ByteArray) : Option (Value × Prop) :=
  match op with
  | .add => some (.string (a ++ b), ((a.size + b.size : Nat) : Int) ≤ 9223372036854775807)
  | .eql => some (.bool (a.toList == b.toList), True)
  | .neq => some (.bool (!(a.toList == b.toList)), True)
  | _ => none
def pure1 (x : AV) : Option (Eff × Prop) := some (⟨x, [], []⟩, True)
def lenA : AV → Option Int
  | .p (.lst n _) => some n
  | .sl _ _ n _ => some n
  | .p (.v (.slice none _ _)) => some 0
  | .p (.v (.string s)) => some s.size
  | _ => none
/-- The slice's own cells, as a reader sees them: the block's number where it lies in one. -/
def viewA (σ : Store) : AV → Option (Nat × Nat × Blk × List Nat)   -- length, place, what it lies in, read
  | .p (.lst n cs) => some (n, 0, .pc 0 cs, [])
  | .p (.v (.slice none 0 0)) => some (0, 0, .pc 0 [], [])
  | .sl b o n _ => (σ b).map fun k => (n, o, k, [b])
  | _ => none
def sub (o n : Nat) : Blk → Blk
  | .pc e cs => .pc e ((cs.drop o).take n)
  | .mc e cs => .mc e ((cs.drop o).take n)
def joinB (e : Nat) : Blk → Blk → Blk
  | .pc _ a, .pc _ b => .pc e (a ++ b)
  | a, b => .mc e (a.cells ++ b.cells)
def overB (o : Nat) : Blk → Blk → Blk
  | .pc _ a, .pc e cs => .pc e (cs.take o ++ (a ++ cs.drop (o + a.length)))
  | a, d => .mc d.el (d.cells.take o ++ (a.cells ++ d.cells.drop (o + a.cells.length)))
def sliceA (zs : Nat) (x : AV) (lo hi : Option AV) : Option (Eff × Prop) :=
  match (match hi with | none => (lenA x) | some h => (ints h).map (fun q => q.2) : Option Int) with
  | none => none
  | some h =>
    match lo, x with
    | none, .sl b o n k => if k == zs then some (⟨.sl b o h.toNat k, [], []⟩, 0 ≤ h ∧ h ≤ n) else none
    | some l, .sl b o n k => if k == zs then (ints l).bind fun l => some (⟨.sl b (o + l.2.toNat * k) (h - l.2).toNat k, [], []⟩, 0 ≤ l.2 ∧ l.2 < h ∧ h ≤ n) else none
    | none, .p (.lst n cs) => some (⟨.p (.lst h.toNat (cs.take (h.toNat * zs))), [], []⟩, 0 ≤ h ∧ h ≤ n)
    | some l, .p (.lst n cs) => (ints l).bind fun l => some (⟨.p (.lst (h - l.2).toNat ((cs.drop (l.2.toNat * zs)).take ((h - l.2).toNat * zs))), [], []⟩, 0 ≤ l.2 ∧ l.2 ≤ h ∧ h ≤ n)
    | _, _ => none
/-- A part of a string. -/
def sliceS (x : AV) (lo hi : Option AV) : Option (Eff × Prop) :=
  match x, lo, hi with
  | .p (.v (.string s)), some l, some h => (ints l).bind fun l => (ints h).bind fun h => some (⟨.p (.v (.string (s.extract l.2.toNat h.2.toNat))), [], []⟩, 0 ≤ l.2 ∧ l.2 ≤ h.2 ∧ h.2 ≤ s.size)
  | _, _, _ => none
def pop (T : Tab) (op : Op) (ρ : Operand → AV) (σ : Store) (new : Nat) : Option (Eff × Prop) :=
  match op with
  | .move x | .assign x => pure1 (ρ x)
  | .pick c a b =>
    match ρ c with
    | .p (.v (.bool t)) =>
      match ρ a, ρ b with
      | .p (.v (.bool x)), .p (.v (.bool y)) => pure1 (.p (.v (.bool (bif t then x else y))))
      | x, y => pure1 (bif t then x else y)
    | _ => none
  | .alloc e => (T e).bind fun y => some (⟨.own new 0, [(new, some (.pc e (y.zero.map .v)))], []⟩, True)
  | .box e x => if (ρ x).solid then some (⟨.own new 0, [(new, some (.mk e (ρ x).cells))], []⟩, True) else none
  | .build t parts => (T t).bind fun y => match y.arr with
    | some ne => (T ne.2).bind fun z => (fillA (fun i => some (i * z.size, z.size)) (y.zero.map fun z => .p (.v z)) (parts.toList.map fun x => (x.1, ρ x.2))).bind fun cs => pure1 (cells1 cs)
    | none => if y.agg && y.elem.isNone && !y.fields.isEmpty then
      (fillA (fun i => y.fields[i]?) (y.zero.map fun z => .p (.v z)) (parts.toList.map fun x => (x.1, ρ x.2))).bind fun cs => pure1 (cells1 cs) else none
  | .buildSlice t n parts => (T t).bind fun y => y.elem.bind fun e => (T e).bind fun z => if Nat.ble (n * z.size) 16777216 && Nat.ble n 16777216 && !(z.size == 0) then
      (fillA (fun i => some (i * z.size, z.size)) ((rep n (z.zero.map .v)).map .p) (parts.toList.map fun x => (x.1, ρ x.2))).bind fun cs => some (⟨.sl new 0 n z.size, [(new, some (.mk e cs))], []⟩, True) else none
  | .load t a => (T t).bind fun y => if y.size == 0 then none else
    match ρ a with
    | .own b o => (σ b).bind fun k => some (⟨cellsTo y.agg y.size o k, [], [b]⟩, o + y.size ≤ k.cells.length ∧ (y.agg = false → y.size = 1))
    | .p (.pt cs o) => some (⟨cellsTo y.agg y.size o (.pc 0 cs), [], []⟩, o + y.size ≤ cs.length ∧ (y.agg = false → y.size = 1))
    | _ => none
  | .store t a x => (T t).bind fun y => if (ρ x).solid && (ρ x).cells.length == y.size then
    match ρ a with
    | .own b o => (σ b).bind fun k => some (⟨.any, [(b, some (putIn o (ρ x).cells k))], [b]⟩, o + y.size ≤ k.cells.length)
    | _ => none else none
  | .nilCheck x => match ρ x with | .own b o => pure1 (.own b o) | .p (.pt cs o) => pure1 (.p (.pt cs o)) | .fn f c => pure1 (.fn f c) | _ => none
  | .binOp op t x y _ =>
    match ρ x, ρ y with
    | .p (.v (.int k a)), .p (.v (.int k' b)) => if k = k' then (binA op k a b).bind fun r => some (⟨.p (.v r.1), [], []⟩, r.2) else none
    | .p (.v (.bool a)), .p (.v (.bool b)) => (T t).bind fun z => if z.bool then match op with | .eql => pure1 (.p (.v (.bool (a == b)))) | .neq => pure1 (.p (.v (.bool (!(a == b))))) | _ => none else none
    | .p (.v (.string a)), .p (.v (.string b)) => (strA op a b).bind fun r => some (⟨.p (.v r.1), [], []⟩, r.2)
    | _, _ => none
  | .unOp op _ x =>
    match op, ρ x with
    | .neg, .p (.v (.int k n)) => pure1 (.p (.v (.int k (k.wrap (0 - n)))))
    | .not, .p (.v (.bool b)) => pure1 (.p (.v (.bool !b)))
    | _, _ => none
  | .convert src dst x => (T src).bind fun y => (T dst).bind fun z =>
    match z.int, ρ x with
    | some k, .p (.v (.int _ n)) => pure1 (.p (.v (.int k (k.wrap n))))
    | _, _ => none
  | .makeFunc (.func f) first caps => if first.size == 0 then pure1 (.fn f (caps.toList.map ρ)) else none
  | .makeSlice t l c => (T t).bind fun y => y.elem.bind fun e => (T e).bind fun z => if z.size == 0 then none else
    match ρ l, ρ c with
    | .p (.v (.int _ n)), .p (.v (.int _ m)) => some (⟨.sl new 0 n.toNat z.size, [(new, some (.pc e (rep n.toNat (z.zero.map .v))))], []⟩, n = m ∧ 0 ≤ n ∧ (z.bytes : Int) * n ≤ 281474976710656 ∧ n ≤ 9223372036854775807)
    | _, _ => none
  | .slice t x lo hi none => (T t).bind fun y => if y.str then sliceS (ρ x) (lo.map ρ) (hi.map ρ) else y.elem.bind fun e => (T e).bind fun z => sliceA z.size (ρ x) (lo.map ρ) (hi.map ρ)
  | .fieldAddr s x f => (T s).bind fun y => (y.fields[f]?).bind fun f => if f.2 == 0 then none else
    match ρ x with
    | .own b o => pure1 (.own b (o + f.1))
    | .p (.pt cs o) => pure1 (.p (.pt cs (o + f.1)))
    | _ => none
  | .field s x f => (T s).bind fun y => (y.fields[f]?).bind fun q => (y.fagg[f]?).bind fun ag => if q.2 == 0 then none else
    match ρ x with
    | .p (.agg cs) => some (⟨cellsTo ag q.2 q.1 (.pc 0 cs), [], []⟩, q.1 + q.2 ≤ cs.length ∧ (ag = false → q.2 = 1))
    | .agg cs => some (⟨cellsTo ag q.2 q.1 (.mc 0 cs), [], []⟩, q.1 + q.2 ≤ cs.length ∧ (ag = false → q.2 = 1))
    | _ => none
  | .indexAddr t x i => (T t).bind fun y => match y.arr with
    | some ne => (T ne.2).bind fun z => (ints (ρ i)).bind fun i =>
      match ρ x with
      | .own b o => some (⟨.own b (o + i.2.toNat * z.size), [], []⟩, 0 ≤ i.2 ∧ i.2 < ne.1)
      | .p (.pt cs o) => some (⟨.p (.pt cs (o + i.2.toNat * z.size)), [], []⟩, 0 ≤ i.2 ∧ i.2 < ne.1)
      | _ => none
    | none => y.elem.bind fun e => (T e).bind fun z => (ints (ρ i)).bind fun i =>
    match ρ x with
    | .p (.lst n cs) => some (⟨.p (.pt cs (i.2.toNat * z.size)), [], []⟩, 0 ≤ i.2 ∧ i.2 < n ∧ i.2.toNat * z.size < cs.length)
    | .sl b o n k => if k == z.size then some (⟨.own b (o + i.2.toNat * k), [], []⟩, 0 ≤ i.2 ∧ i.2 < n) else none
    | _ => none
  | .index t x i => (T t).bind fun y => if y.str then (ints (ρ i)).bind fun i =>
    match ρ x with
    | .p (.v (.string s)) => some (⟨.p (.v (.int .u8 ((s.data.toList.getD i.2.toNat 0).toNat : Int))), [], []⟩, 0 ≤ i.2 ∧ i.2 < s.size)
    | _ => none else match y.arr with
    | some ne => (T ne.2).bind fun z => (ints (ρ i)).bind fun i =>
      match ρ x with
      | .p (.agg cs) => some (⟨cellsTo z.agg z.size (i.2.toNat * z.size) (.pc 0 cs), [], []⟩, 0 ≤ i.2 ∧ i.2 < ne.1 ∧ i.2.toNat * z.size + z.size ≤ cs.length ∧ (z.agg = false → z.size = 1))
      | .agg cs => some (⟨cellsTo z.agg z.size (i.2.toNat * z.size) (.mc 0 cs), [], []⟩, 0 ≤ i.2 ∧ i.2 < ne.1 ∧ i.2.toNat * z.size + z.size ≤ cs.length ∧ (z.agg = false → z.size = 1))
      | _ => none
    | none => none
  | .extract t i =>
    match ρ t with
    | .p (.tup cs) => some (⟨.p (cs.getD i default), [], []⟩, i < cs.length)
    | .tup cs => some (⟨cs.getD i .any, [], []⟩, i < cs.length)
    | _ => none
  | .call { callee := .builtin .len, args, argTypes } => match args.toList, argTypes.toList with
    | [x], [t] => (T t).bind fun y => match y.elem, ρ x with
      | some _, .p (.lst n _) | some _, .sl _ _ n _ => pure1 (.p (.v (.int .i64 n)))
      | some _, .p (.v (.slice none 0 0)) => pure1 (.p (.v (.int .i64 0)))
      | none, .p (.v (.string s)) => if y.str then pure1 (.p (.v (.int .i64 s.size))) else none
      | _, _ => none
    | _, _ => none
  | .call { callee := .builtin .max, args, .. } => match args.toList with
    | [x, y] => (ints (ρ x)).bind fun a => (ints (ρ y)).bind fun b => pure1 (.p (.v (.int a.1 (if b.2 > a.2 then b.2 else a.2))))
    | _ => none
  | .call { callee := .builtin .min, args, .. } => match args.toList with
    | [x, y] => (ints (ρ x)).bind fun a => (ints (ρ y)).bind fun b => pure1 (.p (.v (.int a.1 (if b.2 < a.2 then b.2 else a.2))))
    | _ => none
  | .call { callee := .builtin .append, args, argTypes } => match args.toList, argTypes.toList with
    | [x, y], [t, t'] => if t == t' then (T t).bind fun u => u.elem.bind fun e => (T e).bind fun z => if z.size == 0 then none else
      (viewA σ (ρ y)).bind fun src =>
      match ρ x with
      | .p (.v (.slice none 0 0)) => some (⟨.sl new 0 src.1 z.size, [(new, some (joinB e (.pc e []) (sub src.2.1 (src.1 * z.size) src.2.2.1)))], src.2.2.2⟩,
          src.2.1 + src.1 * z.size ≤ src.2.2.1.cells.length ∧ src.1 * z.bytes ≤ 140737488355328 ∧ src.1 ≤ 140737488351232)
      | .sl b 0 n k => if k == z.size && !(src.2.2.2.contains b) then (σ b).bind fun d => if d.el == e then some (⟨.sl new 0 (n + src.1) k, [(b, none), (new, some (joinB e d (sub src.2.1 (src.1 * z.size) src.2.2.1)))], b :: src.2.2.2⟩,
          d.cells.length = n * k ∧ src.2.1 + src.1 * z.size ≤ src.2.2.1.cells.length ∧ (n + src.1) * z.bytes ≤ 140737488355328 ∧ n + src.1 ≤ 140737488351232) else none else none
      | _ => none else none
    | _, _ => none
  | .call { callee := .builtin .copy, args, argTypes } => match args.toList, argTypes.toList with
    | [x, y], [t, _] => (T t).bind fun u => u.elem.bind fun e => (T e).bind fun z => if z.size == 0 then none else
      (viewA σ (ρ y)).bind fun src =>
      match ρ x with
      | .sl b o n k => if k == z.size && !(src.2.2.2.contains b) then (σ b).bind fun d => some (⟨.p (.v (.int .i64 (min src.1 n : Nat))), [(b, some (overB o (sub src.2.1 ((min src.1 n) * z.size) src.2.2.1) d))], b :: src.2.2.2⟩,
          src.2.1 + src.1 * z.size ≤ src.2.2.1.cells.length ∧ o + n * k ≤ d.cells.length) else none
      | _ => none
    | _, _ => none
  | _ => none
end Go.Proofs.Ytiondkijgpjgcaa.Pw
namespace Go.Proofs.Ytiondkijgpjgcaa.Pw
open Go Go.RowKit
def upd1 {α : Type} (f : Nat → Option α) (b : Nat) (x : Option α) : Nat → Option α := fun i => if i = b then x else f i
theorem upd1_same {α : Type} (f : Nat → Option α) (b : Nat) (x : Option α) : upd1 f b x b = x := by simp [upd1]
theorem upd1_ne {α : Type} (f : Nat → Option α) (b : Nat) (x : Option α) {i : Nat} (h : i ≠ b) : upd1 f b x i = f i := by simp [upd1, h]
def upds (st : Store) : List (Nat × Option Blk) → Store
  | [] => st
  | (b, x) :: r => upds (upd1 st b x) r
theorem lt_of_cells {W : World} {B : Nat} {o : Obj} (h : W.heap[B]? = some o) : B < W.heap.size := (Array.getElem?_eq_some_iff.1 h).1
theorem RepS.alloc {F : Nat → Prop} {μ : Nat → Option Nat} {st : Store} {W W' : World} (h : RepS F μ st W) {new : Nat} (hn : μ new = none) (c : Array Value) (el : Nat)
    (hw : W'.heap = W.heap.push (.cells c el (0, 0))) (ho : W'.os = W.os) (ht : W'.tape = W.tape) (hp : W'.output = W.output) (k : Blk) (hel : k.el = el) (hl : k.cells.length ≤ c.size)
    (h1 : ∀ j : Nat, j < k.cells.length → (c.getD j undef).oneCell' = true) (hr : ∀ (j : Nat) a, k.cells[j]? = some a → RepA (Mut F μ st) μ W a (c.getD j undef)) (hs : st new = none) :
    RepS F (upd1 μ new (some W.heap.size)) (upd1 st new (some k)) W' ∧ Ext F (Mut F μ st) μ W (Mut F (upd1 μ new (some W.heap.size)) (upd1 st new (some k))) (upd1 μ new (some W.heap.size)) W' := by
  have hold : ∀ B, B < W.heap.size → W'.heap[B]? = W.heap[B]? := fun B hB => by rw [hw, Array.getElem?_push, if_neg (by omega)]
  have ext : Ext F (Mut F μ st) μ W (Mut F (upd1 μ new (some W.heap.size)) (upd1 st new (some k))) (upd1 μ new (some W.heap.size)) W' := by
    refine ⟨by rw [hw]; simp, fun B hB _ => hold B hB, fun B c el hc => ⟨c, by rw [hold B (lt_of_cells hc)]; exact hc, rfl⟩, fun b B hb => ?_, fun B hB hm => ?_, ho, ht, hp, fun B hF => hold B (h.low B hF)⟩
    · rw [upd1_ne _ _ _ (fun e => by subst e; rw [hn] at hb; cases hb)]; exact hb
    · rcases hm with hm | ⟨b, hb1, hb2⟩
      · exact .inl hm
      · by_cases e : b = new
        · subst e; rw [upd1_same] at hb2; injection hb2 with hb2; omega
        · rw [upd1_ne _ _ _ e] at hb1 hb2; exact .inr ⟨b, hb1, hb2⟩
  refine ⟨⟨fun b k' hk => ?_, fun b b' B h1' h2' h3 h4 => ?_, fun B hF => Nat.lt_of_lt_of_le (h.low B hF) ext.size⟩, ext⟩
  · by_cases e : b = new
    · subst e
      rw [upd1_same] at hk; injection hk with hk; subst hk
      refine .inr ⟨W.heap.size, c, upd1_same _ _ _, fun hF => by have := h.low _ hF; omega, ?_, hl, h1, fun j a ha => (hr j a ha).ext ext⟩
      rw [hw, Array.getElem?_push, if_pos rfl, hel]
    · rw [upd1_ne _ _ _ e] at hk
      rcases h.at_ b k' hk with ⟨h0, h0'⟩ | ⟨B, c', hB, hF, hc, hl', h1', hr'⟩
      · exact .inl ⟨by rw [upd1_ne _ _ _ e]; exact h0, h0'⟩
      · exact .inr ⟨B, c', by rw [upd1_ne _ _ _ e]; exact hB, hF, by rw [hold B (lt_of_cells hc)]; exact hc, hl', h1', fun j a ha => (hr' j a ha).ext ext⟩
  · have low : ∀ b B, b ≠ new → st b ≠ none → μ b = some B → B < W.heap.size := fun b B hb hsb hB => by
      obtain ⟨k', hk'⟩ := Option.ne_none_iff_exists'.1 hsb
      rcases h.at_ b k' hk' with ⟨h0, _⟩ | ⟨B', c', hB', _, hc, _⟩
      · rw [h0] at hB; cases hB
      · rw [hB'] at hB; injection hB with hB; subst hB; exact lt_of_cells hc
    by_cases e : b = new <;> by_cases e' : b' = new
    · rw [e, e']
    · subst e; rw [upd1_same] at h3; injection h3 with h3; rw [upd1_ne _ _ _ e'] at h2' h4; have := low b' B e' h2' h4; omega
    · subst e'; rw [upd1_same] at h4; injection h4 with h4; rw [upd1_ne _ _ _ e] at h1' h3; have := low b B e h1' h3; omega
    · rw [upd1_ne _ _ _ e] at h1' h3; rw [upd1_ne _ _ _ e'] at h2' h4; exact h.inj b b' B h1' h2' h3 h4
theorem RepS.write {F : Nat → Prop} {μ : Nat → Option Nat} {st : Store} {W : World} (h : RepS F μ st W) {b B : Nat} {k k' : Blk} {c c' : Array Value} (hk : st b = some k) (hB : μ b = some B)
    (hc : W.heap[B]? = some (.cells c k.el (0, 0))) (hsz : c'.size = c.size) (hel : k'.el = k.el) (hl : k'.cells.length ≤ c'.size)
    (h1 : ∀ j : Nat, j < k'.cells.length → (c'.getD j undef).oneCell' = true) (hr : ∀ (j : Nat) a, k'.cells[j]? = some a → RepA (Mut F μ st) μ W a (c'.getD j undef)) :
    RepS F μ (upd1 st b (some k')) (W.setRow B c') ∧ Ext F (Mut F μ st) μ W (Mut F μ (upd1 st b (some k'))) μ (W.setRow B c') := by
  have hM : Mut F μ st B := .inr ⟨b, by rw [hk]; simp, hB⟩
  have hF : ¬ F B := by
    rcases h.at_ b k hk with ⟨h0, _⟩ | ⟨B', _, hB', hF, _⟩
    · rw [h0] at hB; cases hB
    · rw [hB'] at hB; injection hB with hB; subst hB; exact hF
  have ext : Ext F (Mut F μ st) μ W (Mut F μ (upd1 st b (some k'))) μ (W.setRow B c') := by
    refine ⟨by simp, fun B' _ hm => setRow_other W B B' c' (fun e => hm (e ▸ hM)), fun B' c0 el hc0 => ?_, fun _ _ hb => hb, fun B' hB' hm => ?_, rfl, rfl, rfl, fun B' hF' => setRow_other W B B' c' (fun e => hF (e ▸ hF'))⟩
    · by_cases e : B' = B
      · subst e
        rw [hc0] at hc
        injection hc with hc
        injection hc with hc1 hc2
        subst hc1; subst hc2
        exact ⟨c', setRow_heap W B' _ c' _ _ hc0, hsz⟩
      · exact ⟨c0, by rw [setRow_other W B B' c' e]; exact hc0, rfl⟩
    · rcases hm with hm | ⟨b', hb1, hb2⟩
      · exact .inl hm
      · by_cases e : b' = b
        · subst e; exact .inr ⟨b', by rw [hk]; simp, hb2⟩
        · rw [upd1_ne _ _ _ e] at hb1; exact .inr ⟨b', hb1, hb2⟩
  have ne : ∀ b', upd1 st b (some k') b' ≠ none → st b' ≠ none := fun b' hb' => by
    by_cases e : b' = b
    · subst e; rw [hk]; simp
    · rwa [upd1_ne _ _ _ e] at hb'
  refine ⟨⟨fun b' k0 hk0 => ?_, fun b1 b2 B0 h1' h2' h3 h4 => h.inj b1 b2 B0 (ne _ h1') (ne _ h2') h3 h4, fun B' hF' => by simpa using h.low B' hF'⟩, ext⟩
  by_cases e : b' = b
  · subst e
    rw [upd1_same] at hk0; injection hk0 with hk0; subst hk0
    exact .inr ⟨B, c', hB, hF, by rw [hel]; exact setRow_heap W B _ c' _ _ hc, hl, h1, fun j a ha => (hr j a ha).ext ext⟩
  · rw [upd1_ne _ _ _ e] at hk0
    rcases h.at_ b' k0 hk0 with ⟨h0, h0'⟩ | ⟨B', c0, hB', hF', hc0, hl', h1', hr'⟩
    · exact .inl ⟨h0, h0'⟩
    · have hne : B' ≠ B := fun e' => e (h.inj b' b B (by rw [hk0]; simp) (by rw [hk]; simp) (e' ▸ hB') hB)
      exact .inr ⟨B', c0, hB', hF', by rw [setRow_other W B B' c' hne]; exact hc0, hl', h1', fun j a ha => (hr' j a ha).ext ext⟩
theorem RepS.kill {F : Nat → Prop} {μ : Nat → Option Nat} {st : Store} {W : World} (h : RepS F μ st W) (b : Nat) :
    RepS F μ (upd1 st b none) W ∧ Ext F (Mut F μ st) μ W (Mut F μ (upd1 st b none)) μ W := by
  have sub : ∀ b', upd1 st b none b' ≠ none → b' ≠ b ∧ st b' ≠ none := fun b' hb' => by
    by_cases e : b' = b
    · subst e; rw [upd1_same] at hb'; exact absurd rfl hb'
    · exact ⟨e, by rwa [upd1_ne _ _ _ e] at hb'⟩
  have ext : Ext F (Mut F μ st) μ W (Mut F μ (upd1 st b none)) μ W := ⟨Nat.le_refl _, fun _ _ _ => rfl, fun _ c _ hc => ⟨c, hc, rfl⟩, fun _ _ hb => hb, fun B _ hm => hm.imp id (fun ⟨b', h1, h2⟩ => ⟨b', (sub b' h1).2, h2⟩), rfl, rfl, rfl, fun _ _ => rfl⟩
  refine ⟨⟨fun b' k hk => ?_, fun b1 b2 B h1 h2 h3 h4 => h.inj b1 b2 B (sub _ h1).2 (sub _ h2).2 h3 h4, h.low⟩, ext⟩
  have e : b' ≠ b := (sub b' (by rw [hk]; simp)).1
  rw [upd1_ne _ _ _ e] at hk
  rcases h.at_ b' k hk with h0 | ⟨B, c, hB, hF, hc, hl, h1, hr⟩
  · exact .inl h0
  · exact .inr ⟨B, c, hB, hF, hc, hl, h1, fun j a ha => (hr j a ha).ext ext⟩
end Go.Proofs.Ytiondkijgpjgcaa.Pw
namespace Go.Proofs.Ytiondkijgpjgcaa.Pw
open Go Go.RowKit
structure TF (P : Program) (t : TypeId) (y : Ty) : Prop where
  info : ∃ i z, P.info? t = some i ∧ i.size = y.size ∧ i.bytes = y.bytes ∧ i.zero = some z ∧ z.cells.toList = y.zero
  agg : ∀ W, (isAgg t).run P W = .ok y.agg W
  elem : ∀ e, y.elem = some e → P.underlying t = some (.slice e)
  fields : y.fields ≠ [] → ∃ fs, P.underlying t = some (.struct fs) ∧ fs.toList.mapM (fun f => (P.info? f.type).map fun i => (f.offset, i.size)) = some y.fields ∧
    y.fagg = fs.toList.map (fun f => isAggB P f.type) ∧ ∀ f ∈ fs.toList, (P.underlying f.type).isSome = true
  bool : y.bool = true → P.underlying t = some .bool
  str : y.str = true → P.underlying t = some .string
  int : ∀ k, y.int = some k → P.underlying t = some (.int k)
  arr : ∀ n e, y.arr = some (n, e) → P.underlying t = some (.array n e)
  und : ∃ d, P.underlying t = some d
  len : y.zero.length = y.size
  one : ∀ x ∈ y.zero, x.oneCell' = true
theorem isAgg_run {P : Program} {t : TypeId} {d : TypeDesc} (h : P.underlying t = some d) (W : World) : (isAgg t).run P W = .ok (isAggB P t) W := by
  unfold isAgg isAggB
  rw [Sem.run_bind, run_underlying h W, h]
  cases d <;> rfl
theorem TOK.facts {P : Program} {T : Tab} (h : TOK P T) {t : Nat} {y : Ty} (ht : T t = some y) : TF P t y := by
  obtain ⟨hm, hl, h1⟩ := h t y ht
  unfold mkTy at hm
  split at hm
  · rename_i i d hi hd
    split at hm
    · rename_i z hz
      injection hm with hm
      subst hm
      refine ⟨⟨i, z, hi, rfl, rfl, hz, rfl⟩, fun W => isAgg_run hd W, fun e he => ?_, fun hf => ?_, fun hb => ?_, fun hb => ?_, fun k hk => ?_, fun n e ha => ?_, ⟨d, hd⟩, hl, fun x hx => List.all_eq_true.1 h1 x hx⟩
      · cases d <;> simp at he; subst he; exact hd
      · cases d with
        | struct fs =>
          refine ⟨fs, hd, ?_, rfl, ?_⟩
          all_goals
            simp only at hf
            split at hf
            · rename_i hall
              cases hq : fs.toList.mapM (fun f => (P.info? f.type).map fun i => (f.offset, i.size)) with
              | none => rw [hq] at hf; exact absurd rfl hf
              | some q => first | exact List.all_eq_true.1 hall | simp [hall, hq]
            · exact absurd rfl hf
        | _ => simp at hf
      · cases d <;> simp at hb; exact hd
      · cases d <;> simp at hb; exact hd
      · cases d <;> simp at hk; subst hk; exact hd
      · cases d <;> simp at ha; obtain ⟨rfl, rfl⟩ := ha; exact hd
    · cases hm
  · cases hm
theorem TF.size_run {P : Program} {t : TypeId} {y : Ty} (h : TF P t y) (W : World) : (sizeOf t).run P W = .ok y.size W := by
  obtain ⟨i, z, hi, hs, _⟩ := h.info
  simp [sizeOf, typeInfo, hi, hs]
theorem TF.info_run {P : Program} {t : TypeId} {y : Ty} (h : TF P t y) (W : World) : ∃ i, (typeInfo t).run P W = .ok i W ∧ i.size = y.size ∧ i.bytes = y.bytes := by
  obtain ⟨i, z, hi, hs, hb, _⟩ := h.info
  exact ⟨i, by simp [typeInfo, hi], hs, hb⟩
theorem TF.zero_run {P : Program} {t : TypeId} {y : Ty} (h : TF P t y) (W : World) : ∃ z, (zeroValue t).run P W = .ok z W ∧ z.cells.toList = y.zero := by
  obtain ⟨i, z, hi, _, _, hz, hc⟩ := h.info
  exact ⟨z, by simp [zeroValue, typeInfo, hi, hz], hc⟩
/-- The cells cs lie in block B from place o on. -/
def RowAt (M : Nat → Prop) (μ : Nat → Option Nat) (W : World) (B o : Nat) (cs : List AV) : Prop :=
  ∃ g : Nat → Value, ∀ (j : Nat) a, cs[j]? = some a → W.cell? ⟨B, o + j, none⟩ = some (g j) ∧ (g j).oneCell' = true ∧ RepA M μ W a (g j)
theorem RowAt.drop {M : Nat → Prop} {μ : Nat → Option Nat} {W : World} {B o : Nat} {cs : List AV} (h : RowAt M μ W B o cs) (n : Nat) : RowAt M μ W B (o + n) (cs.drop n) := by
  obtain ⟨g, hg⟩ := h
  refine ⟨fun j => g (n + j), fun j a ha => ?_⟩
  rw [List.getElem?_drop] at ha
  rw [Nat.add_assoc]
  exact hg (n + j) a ha
theorem RowAt.take {M : Nat → Prop} {μ : Nat → Option Nat} {W : World} {B o : Nat} {cs : List AV} (h : RowAt M μ W B o cs) (n : Nat) : RowAt M μ W B o (cs.take n) := by
  obtain ⟨g, hg⟩ := h
  refine ⟨g, fun j a ha => hg j a ?_⟩
  rw [List.getElem?_take] at ha
  split at ha
  · exact ha
  · cases ha
theorem RowAt.loads {P : Program} {M : Nat → Prop} {μ : Nat → Option Nat} {W : World} {B o : Nat} {cs : List AV} (h : RowAt M μ W B o cs) :
    ∃ xs : List Value, (loadCells ⟨B, o, none⟩ cs.length).run P W = .ok xs.toArray W ∧ RepL M μ W cs xs ∧ ∀ (j : Nat) x, xs[j]? = some x → W.cell? ⟨B, o + j, none⟩ = some x := by
  obtain ⟨g, hg⟩ := h
  have get : ∀ (j : Nat) x, ((List.range cs.length).map g)[j]? = some x → j < cs.length ∧ x = g j := fun j x hx => by
    simp only [List.getElem?_map, Option.map_eq_some_iff] at hx
    obtain ⟨i, hi, rfl⟩ := hx
    rcases Nat.lt_or_ge j cs.length with h' | h'
    · rw [List.getElem?_range h'] at hi; injection hi with hi; subst hi; exact ⟨h', rfl⟩
    · rw [List.getElem?_eq_none (by simpa using h')] at hi; cases hi
  refine ⟨(List.range cs.length).map g, ?_, ⟨by simp, fun j x hx => ?_, fun j a x ha hx => ?_⟩, fun j x hx => ?_⟩
  · exact run_loadCells (P := P) W ⟨B, o, none⟩ cs.length g fun j hj => by rw [Addr.add_lit]; exact (hg j _ (List.getElem?_eq_getElem hj)).1
  · obtain ⟨hj, rfl⟩ := get j x hx
    exact (hg j _ (List.getElem?_eq_getElem hj)).2.1
  · obtain ⟨hj, rfl⟩ := get j x hx
    exact (hg j a ha).2.2
  · obtain ⟨hj, rfl⟩ := get j x hx
    exact (hg j _ (List.getElem?_eq_getElem hj)).1
theorem RepL.agg_p {M : Nat → Prop} {μ : Nat → Option Nat} {W : World} {ps : List PV} {xs : List Value} (h : RepL M μ W (ps.map .p) xs) : RepP M W (.agg ps) (.agg xs.toArray) := by
  refine .agg ps xs (by simpa using h.1) h.2.1 fun j pv x hp hx => ?_
  have := h.2.2 j (.p pv) x (by simp [hp]) hx
  cases this; assumption
theorem RepL.agg_1 {M : Nat → Prop} {μ : Nat → Option Nat} {W : World} {cs : List AV} {xs : List Value} (h : RepL M μ W cs xs) : RepA M μ W (cells1 cs) (.agg xs.toArray) := by
  unfold cells1
  split
  · rename_i ps hp
    rw [allP_spec hp] at h
    exact .p _ _ h.agg_p
  · exact .agg cs xs h.1 h.2.1 h.2.2
theorem load_row {P : Program} {M : Nat → Prop} {μ : Nat → Option Nat} {W : World} {B base o : Nat} {k : Blk} {t : TypeId} {y : Ty} (hy : TF P t y) (h : RowAt M μ W B base k.cells) (hl : o + y.size ≤ k.cells.length)
    (h1 : y.agg = false → y.size = 1) (h0 : y.size ≠ 0) : ∃ v, (loadVar t ⟨B, base + o, none⟩).run P W = .ok v W ∧ RepA M μ W (cellsTo y.agg y.size o k) v := by
  have hr := (h.drop o).take y.size
  have hlen : ((k.cells.drop o).take y.size).length = y.size := by simp; omega
  obtain ⟨xs, hx, hL, hc⟩ := hr.loads (P := P)
  rw [hlen] at hx
  cases ha : y.agg with
  | true =>
    refine ⟨.agg xs.toArray, ?_, ?_⟩
    · simp [loadVar, hy.agg, ha, hy.size_run, hx]
    · cases k with
      | pc e cs =>
        simp only [cellsTo, if_true]
        refine .p _ _ (RepL.agg_p (μ := μ) ?_)
        simpa [Blk.cells, List.map_take, List.map_drop] using hL
      | mc e cs => simpa [cellsTo, Blk.cells] using hL.agg_1
  | false =>
    have hs := h1 ha
    have hlt : o < k.cells.length := by omega
    obtain ⟨x, rfl⟩ : ∃ x, xs = [x] := by
      have := hL.1
      rw [hlen, hs] at this
      exact List.length_eq_one_iff.1 this
    have hcell : W.cell? ⟨B, base + o, none⟩ = some x := by simpa using hc 0 x rfl
    refine ⟨x, by simp [loadVar, hy.agg, ha, hcell], ?_⟩
    have hR := hL.2.2 0 (k.cells[o]) x (by rw [List.getElem?_take]; simp [hs, List.getElem?_drop, List.getElem?_eq_getElem hlt]) rfl
    cases k with
    | pc e cs =>
      simp only [Blk.cells, List.length_map] at hlt
      simp only [Blk.cells, List.getElem_map] at hR
      simpa [cellsTo, List.getD, List.getElem?_eq_getElem hlt] using hR
    | mc e cs =>
      simp only [Blk.cells] at hlt hR
      simpa [cellsTo, List.getD, List.getElem?_eq_getElem hlt] using hR
theorem RepS.row {F : Nat → Prop} {μ : Nat → Option Nat} {st : Store} {W : World} (h : RepS F μ st W) {b B : Nat} {k : Blk} (hk : st b = some k) (hB : μ b = some B) :
    ∃ c, W.heap[B]? = some (.cells c k.el (0, 0)) ∧ k.cells.length ≤ c.size ∧ (∀ j : Nat, j < k.cells.length → (c.getD j undef).oneCell' = true) ∧
      (∀ (j : Nat) a, k.cells[j]? = some a → RepA (Mut F μ st) μ W a (c.getD j undef)) ∧ RowAt (Mut F μ st) μ W B 0 k.cells := by
  rcases h.at_ b k hk with ⟨h0, _⟩ | ⟨B', c, hB', _, hc, hl, h1, hr⟩
  · rw [h0] at hB; cases hB
  · rw [hB'] at hB; injection hB with hB; subst hB
    refine ⟨c, hc, hl, h1, hr, fun j => c.getD j undef, fun j a ha => ?_⟩
    have hj : j < k.cells.length := (List.getElem?_eq_some_iff.1 ha).1
    refine ⟨?_, h1 j hj, hr j a ha⟩
    rw [cell_of_row W B' (0 + j) c k.el (0, 0) hc, Nat.zero_add]
    have : j < c.size := by omega
    simp [this]
theorem lay_length {α : Type} (o : Nat) (x cs : List α) (h : o + x.length ≤ cs.length) : (lay o x cs).length = cs.length := by
  unfold lay
  split
  · simp
  · simp; omega
theorem lay_get {α : Type} (o : Nat) (x cs : List α) (h : o + x.length ≤ cs.length) (j : Nat) : (lay o x cs)[j]? = if o ≤ j ∧ j < o + x.length then x[j - o]? else cs[j]? := by
  unfold lay
  split
  · rename_i a
    rw [List.getElem?_set]
    simp only [List.length_cons, List.length_nil] at h ⊢
    by_cases e : o = j
    · subst e; have : o < cs.length := by omega
      simp [this]
    · rw [if_neg e, if_neg (by omega)]
  · rw [List.getElem?_append, List.getElem?_append]
    simp only [List.length_take, List.getElem?_take, List.getElem?_drop]
    have : min o cs.length = o := by omega
    rw [this]
    by_cases h1 : j < o
    · rw [if_pos h1, if_pos h1, if_neg (by omega)]
    · rw [if_neg h1]
      by_cases h2 : j - o < x.length
      · rw [if_pos h2, if_pos (by omega)]
      · rw [if_neg h2, if_neg (by omega)]
        congr 1; omega
theorem lay_map {α β : Type} (f : α → β) (o : Nat) (x cs : List α) : (lay o x cs).map f = lay o (x.map f) (cs.map f) := by
  unfold lay
  split
  · simp [List.map_set]
  · rename_i h
    split
    · rename_i a' h'
      exfalso
      match x, h with
      | [], h => simp at h'
      | [a], h => exact h a rfl
      | _ :: _ :: _, h => simp at h'
    · simp
theorem putIn_cells (o : Nat) (x : List AV) (k : Blk) : (putIn o x k).cells = lay o x k.cells := by
  cases k with
  | pc e cs =>
    simp only [putIn]
    split
    · rename_i ps hp
      rw [allP_spec hp]; simp only [Blk.cells]; rw [lay_map]
    · rfl
  | mc e cs => rfl
theorem putIn_el (o : Nat) (x : List AV) (k : Blk) : (putIn o x k).el = k.el := by
  cases k with
  | pc e cs => simp only [putIn]; split <;> rfl
  | mc e cs => rfl
/-- Cells laid over a block's. -/
theorem RepS.put {P : Program} {F : Nat → Prop} {μ : Nat → Option Nat} {st : Store} {W : World} (h : RepS F μ st W) {b B o : Nat} {k k' : Blk} (hk : st b = some k) (hB : μ b = some B) {x : List AV} {vs : List Value}
    (hx : RepL (Mut F μ st) μ W x vs) (hl : o + x.length ≤ k.cells.length) (hk' : k'.cells = lay o x k.cells) (he : k'.el = k.el) :
    ∃ W', (storeCells ⟨B, o, none⟩ vs).run P W = .ok () W' ∧ RepS F μ (upd1 st b (some k')) W' ∧ Ext F (Mut F μ st) μ W (Mut F μ (upd1 st b (some k'))) μ W' := by
  obtain ⟨c, hc, hcl, h1, hr, _⟩ := h.row hk hB
  have hvl := hx.1
  refine ⟨_, run_storeCells_at P B o k.el vs 0 c W hc (by omega) (fun v hv => ?_), ?_⟩
  · obtain ⟨j, hj⟩ := List.getElem?_of_mem hv
    exact hx.2.1 j v hj
  have hsz : (c.toList.take (o + 0) ++ vs ++ c.toList.drop (o + 0 + vs.length)).toArray.size = c.size := by simp; omega
  have get : ∀ j : Nat, j < c.size → (c.toList.take (o + 0) ++ vs ++ c.toList.drop (o + 0 + vs.length)).toArray.getD j undef = if o ≤ j ∧ j < o + vs.length then vs.getD (j - o) undef else c.getD j undef := fun j hj => by
    have hm : min o c.size = o := by omega
    simp only [Nat.add_zero, Array.getD_eq_getD_getElem?, List.getElem?_toArray, List.append_assoc, List.getD_eq_getElem?_getD]
    rw [List.getElem?_append, List.getElem?_append]
    simp only [List.length_take, Array.length_toList, hm, List.getElem?_take, List.getElem?_drop]
    by_cases h1 : j < o
    · rw [if_pos h1, if_pos h1, if_neg (by omega)]; simp
    · rw [if_neg h1]
      by_cases h2 : j - o < vs.length
      · rw [if_pos h2, if_pos (by omega)]
      · rw [if_neg h2, if_neg (by omega), show o + vs.length + (j - o - vs.length) = j by omega]; simp
  refine h.write hk hB hc hsz he (by rw [hsz, hk', lay_length _ _ _ hl]; exact hcl) (fun j hj => ?_) (fun j a ha => ?_)
  · rw [hk', lay_length _ _ _ hl] at hj
    rw [get j (by omega)]
    split
    · rename_i hjj
      have : j - o < vs.length := by omega
      rw [List.getD_eq_getElem?_getD, List.getElem?_eq_getElem this]
      exact hx.2.1 (j - o) _ (List.getElem?_eq_getElem this)
    · exact h1 j hj
  · rw [hk', lay_get _ _ _ hl] at ha
    have hjl : j < k.cells.length := by
      split at ha
      · omega
      · exact (List.getElem?_eq_some_iff.1 ha).1
    rw [get j (by omega), hvl]
    split at ha
    · rename_i hjj
      rw [if_pos hjj]
      have : j - o < vs.length := by omega
      rw [List.getD_eq_getElem?_getD, List.getElem?_eq_getElem this]
      exact hx.2.2 (j - o) a _ ha (List.getElem?_eq_getElem this)
    · rename_i hjj
      rw [if_neg hjj]
      exact hr j a ha
theorem setRow_drawn' (w : World) (g : Nat) (cs : Array Value) : (w.setRow g cs).drawn = w.drawn := rfl
end Go.Proofs.Ytiondkijgpjgcaa.Pw
namespace Go.Proofs.Ytiondkijgpjgcaa.Pw
open Go Go.RowKit
def Does (P : Program) (F : Nat → Prop) (μ : Nat → Option Nat) (st : Store) (W : World) (new : Nat) (s : Sem Next) (e : Eff) : Prop :=
  ∃ v W' μ', (s.run P W = .ok (.value v) W' ∨ (s.run P W = .ok .skip W' ∧ v = undef)) ∧ RepS F μ' (upds st e.upd) W' ∧
    RepA (Mut F μ' (upds st e.upd)) μ' W' e.val v ∧ Ext F (Mut F μ st) μ W (Mut F μ' (upds st e.upd)) μ' W' ∧ ∀ b, b ≠ new → μ' b = μ b
/-- A pure row: the cells of a list, that lie from place o of block B on. -/
def PRow (M : Nat → Prop) (W : World) (B o : Nat) (cs : List PV) : Prop :=
  ∃ g : Nat → Value, (∀ j, j < cs.length → W.cell? ⟨B, o + j, none⟩ = some (g j)) ∧ (∀ j, j < cs.length → (g j).oneCell' = true) ∧ ∀ (j : Nat) pv, cs[j]? = some pv → RepP M W pv (g j)
theorem PRow.drop {M : Nat → Prop} {W : World} {B o : Nat} {cs : List PV} (h : PRow M W B o cs) (n : Nat) : PRow M W B (o + n) (cs.drop n) := by
  obtain ⟨g, h1, h2, h3⟩ := h
  refine ⟨fun j => g (n + j), fun j hj => ?_, fun j hj => h2 _ (by simp at hj; omega), fun j pv hp => h3 _ _ (by rwa [List.getElem?_drop] at hp)⟩
  rw [Nat.add_assoc]; exact h1 _ (by simp at hj; omega)
theorem PRow.take {M : Nat → Prop} {W : World} {B o : Nat} {cs : List PV} (h : PRow M W B o cs) (n : Nat) : PRow M W B o (cs.take n) := by
  obtain ⟨g, h1, h2, h3⟩ := h
  refine ⟨g, fun j hj => h1 j (by simp at hj; omega), fun j hj => h2 _ (by simp at hj; omega), fun j pv hp => h3 _ _ ?_⟩
  rw [List.getElem?_take] at hp
  split at hp
  · exact hp
  · cases hp
theorem PRow.row {M : Nat → Prop} {μ : Nat → Option Nat} {W : World} {B o : Nat} {cs : List PV} (h : PRow M W B o cs) : RowAt M μ W B o (cs.map .p) := by
  obtain ⟨g, h1, h2, h3⟩ := h
  refine ⟨g, fun j a ha => ?_⟩
  simp only [List.getElem?_map, Option.map_eq_some_iff] at ha
  obtain ⟨pv, hp, rfl⟩ := ha
  have hj := (List.getElem?_eq_some_iff.1 hp).1
  exact ⟨h1 j hj, h2 j hj, .p _ _ (h3 j pv hp)⟩
section inv
variable {M : Nat → Prop} {μ : Nat → Option Nat} {W : World}
theorem RepA.v_inv {x v : Value} (h : RepA M μ W (.p (.v x)) v) : v = x := by cases h with | p _ _ h => cases h; rfl
theorem RepA.own_inv {b o : Nat} {v : Value} (h : RepA M μ W (.own b o) v) : ∃ B, μ b = some B ∧ v = .pointer (some ⟨B, o, none⟩) := by cases h with | own _ _ B hb => exact ⟨B, hb, rfl⟩
theorem RepP.lst_inv {n : Nat} {cs : List PV} {v : Value} (h : RepP M W (.lst n cs) v) :
    ∃ a cap, v = .slice a n cap ∧ n ≤ cap ∧ ((n = 0 ∧ cs = []) ∨ ∃ B o, a = some ⟨B, o, none⟩ ∧ B < W.heap.size ∧ ¬ M B ∧ PRow M W B o cs) := by
  cases h with
  | lst0 a cap => exact ⟨a, cap, rfl, Nat.zero_le _, .inl ⟨rfl, rfl⟩⟩
  | lst n cap cs B o g hB hM hn hc h1 hr => exact ⟨_, cap, rfl, hn.1, .inr ⟨B, o, rfl, hB, hM, g, hc, h1, hr⟩⟩
theorem RepP.lst_cap {n m cap : Nat} {cs : List PV} {a : Option Addr} (h : RepP M W (.lst n cs) (.slice a m cap)) (h0 : n ≠ 0) : cap ≤ maxLen := by
  cases h with
  | lst0 a cap => exact absurd rfl h0
  | lst n cap cs B o g hB hM hn hc h1 hr => exact hn.2
theorem RepP.lst_len {n : Nat} {cs : List PV} {v : Value} (h : RepP M W (.lst n cs) v) : n ≤ maxLen := by
  cases h with
  | lst0 a cap => exact Nat.zero_le _
  | lst n cap cs B o g hB hM hn hc h1 hr => exact Nat.le_trans hn.1 hn.2
theorem RepP.of_row {n cap B o : Nat} {cs : List PV} (hB : B < W.heap.size) (hM : ¬ M B) (hn : n ≤ cap ∧ cap ≤ maxLen) (h : PRow M W B o cs) : RepP M W (.lst n cs) (.slice (some ⟨B, o, none⟩) n cap) := by
  obtain ⟨g, h1, h2, h3⟩ := h
  exact .lst n cap cs B o g hB hM hn h1 h2 h3
theorem RepP.pt_inv {cs : List PV} {o : Nat} {v : Value} (h : RepP M W (.pt cs o) v) : ∃ B base, v = .pointer (some ⟨B, base + o, none⟩) ∧ B < W.heap.size ∧ ¬ M B ∧ PRow M W B base cs := by
  cases h with
  | pt _ _ B base g hB hM hc h1 hr => exact ⟨B, base, rfl, hB, hM, g, hc, h1, hr⟩
theorem RepP.of_pt {B base o : Nat} {cs : List PV} (hB : B < W.heap.size) (hM : ¬ M B) (h : PRow M W B base cs) : RepP M W (.pt cs o) (.pointer (some ⟨B, base + o, none⟩)) := by
  obtain ⟨g, h1, h2, h3⟩ := h
  exact .pt cs o B base g hB hM h1 h2 h3
theorem RepA.p_inv {x : PV} {v : Value} (h : RepA M μ W (.p x) v) : RepP M W x v := by cases h; assumption
theorem RepA.sl_inv {b o n k : Nat} {v : Value} (h : RepA M μ W (.sl b o n k) v) : (v = .slice none 0 0 ∧ o = 0 ∧ n = 0) ∨
    ∃ B cap el c, v = .slice (some ⟨B, o, none⟩) n cap ∧ μ b = some B ∧ n ≤ cap ∧ cap ≤ maxLen ∧ W.heap[B]? = some (.cells c el (0, 0)) ∧ o + cap * k = c.size := by
  cases h with
  | sl0 b k => exact .inl ⟨rfl, rfl, rfl⟩
  | sl b o n k B cap el c hb hn hm hc hs => exact .inr ⟨B, cap, el, c, rfl, hb, hn, hm, hc, hs⟩
theorem ints_inv {a : AV} {k : IntKind} {n : Int} {v : Value} (hi : ints a = some (k, n)) (h : RepA M μ W a v) : v = .int k n := by
  unfold ints at hi
  split at hi
  · injection hi with hi; injection hi with h1 h2; subst h1; subst h2; exact h.v_inv
  · cases hi
end inv
section ops
variable {P : Program} {T : Tab} {F : Nat → Prop} {μ : Nat → Option Nat} {st : Store} {W : World} {new : Nat}
theorem Does.value (hS : RepS F μ st W) {s : Sem Next} {v : Value} {a : AV} {rd : List Nat} (hr : s.run P W = .ok (.value v) W) (h : RepA (Mut F μ st) μ W a v) : Does P F μ st W new s ⟨a, [], rd⟩ :=
  ⟨v, W, μ, .inl hr, hS, h, Ext.refl _ _ _ _, fun _ _ => rfl⟩
theorem run_v {s : Sem Value} {v : Value} {W' : World} (h : s.run P W = .ok v W') : (do pure (Next.value (← s)) : Sem Next).run P W = .ok (.value v) W' := by simp [h]
theorem run_u {s : Sem Unit} {W' : World} (h : s.run P W = .ok () W') : (do s; pure Next.skip : Sem Next).run P W = .ok .skip W' := by simp [h]
/-- A block is made, and its address (or a slice of it) is the value. -/
theorem Does.make (hS : RepS F μ st W) (hn : μ new = none) (hs : st new = none) {s : Sem Next} {v : Value} {a : AV} {rd : List Nat} {W' : World} {c : Array Value} {el : Nat} {k : Blk} (hr : s.run P W = .ok (.value v) W')
    (hw : W'.heap = W.heap.push (.cells c el (0, 0))) (ho : W'.os = W.os) (ht : W'.tape = W.tape) (hp : W'.output = W.output) (hel : k.el = el) (hl : k.cells.length ≤ c.size)
    (hc : RepL (Mut F μ st) μ W k.cells (c.toList.take k.cells.length)) (ha : ∀ M, RepA M (upd1 μ new (some W.heap.size)) W' a v) : Does P F μ st W new s ⟨a, [(new, some k)], rd⟩ := by
  have get : ∀ j : Nat, j < k.cells.length → (c.toList.take k.cells.length)[j]? = some (c.getD j undef) := fun j hj => by
    have : j < c.size := by omega
    rw [List.getElem?_take, if_pos hj]; simp [this]
  obtain ⟨h1, h2⟩ := hS.alloc hn c el hw ho ht hp k hel hl (fun j hj => hc.2.1 j _ (get j hj)) (fun j a ha => hc.2.2 j a _ ha (get j (List.getElem?_eq_some_iff.1 ha).1)) hs
  exact ⟨v, W', _, .inl hr, h1, ha _, h2, fun b hb => upd1_ne _ _ _ hb⟩
theorem Does.own (hS : RepS F μ st W) (hn : μ new = none) (hs : st new = none) {s : Sem Next} {rd : List Nat} {c : Array Value} {el : Nat} {k : Blk} (hr : s.run P W = .ok (.value (.pointer (some ⟨W.heap.size, 0, none⟩))) (W.alloc (.cells c el)))
    (hel : k.el = el) (hc : RepL (Mut F μ st) μ W k.cells c.toList) : Does P F μ st W new s ⟨.own new 0, [(new, some k)], rd⟩ := by
  have hl : k.cells.length = c.size := by simpa using hc.1.symm
  refine .make hS hn hs hr rfl rfl rfl rfl hel (by omega) ?_ (fun M => .own new 0 _ (upd1_same _ _ _))
  rw [hl, List.take_of_length_le (by simp)]; exact hc
theorem Does.slice (hS : RepS F μ st W) (hn : μ new = none) (hs : st new = none) {s : Sem Next} {rd : List Nat} {W' : World} {c : Array Value} {el n cap ks : Nat} {k : Blk} (hr : s.run P W = .ok (.value (.slice (some ⟨W.heap.size, 0, none⟩) n cap)) W')
    (hw : W'.heap = W.heap.push (.cells c el (0, 0))) (ho : W'.os = W.os) (ht : W'.tape = W.tape) (hp : W'.output = W.output) (hel : k.el = el) (hl : k.cells.length ≤ c.size)
    (hc : RepL (Mut F μ st) μ W k.cells (c.toList.take k.cells.length)) (hcap : n ≤ cap) (hm : cap ≤ maxLen) (hsz : cap * ks = c.size) : Does P F μ st W new s ⟨.sl new 0 n ks, [(new, some k)], rd⟩ :=
  .make hS hn hs hr hw ho ht hp hel hl hc fun M => .sl new 0 n ks W.heap.size cap el c (upd1_same _ _ _) hcap hm (by rw [hw]; simp) (by omega)
theorem RepL.vs (M : Nat → Prop) (μ : Nat → Option Nat) (W : World) {xs : List Value} (h : ∀ x ∈ xs, x.oneCell' = true) : RepL M μ W (xs.map fun x => .p (.v x)) xs := by
  refine ⟨by simp, fun j x hx => h x (List.mem_of_getElem? hx), fun j a x ha hx => ?_⟩
  simp only [List.getElem?_map, hx, Option.map_some, Option.some.injEq] at ha
  exact ha ▸ .p _ _ (.v x (h x (List.mem_of_getElem? hx)))
theorem does_alloc (hT : TOK P T) (hS : RepS F μ st W) (hn : μ new = none) (hs : st new = none) {e : Nat} {y : Ty} (hy : T e = some y) :
    Does P F μ st W new (do pure (Next.value (← Instr.alloc e true (.tuple #[])))) ⟨.own new 0, [(new, some (.pc e (y.zero.map .v)))], []⟩ := by
  have hf := hT.facts hy
  obtain ⟨z, hz, hzc⟩ := hf.zero_run W
  refine Does.own hS hn hs (c := z.cells) (el := e) (run_v ?_) rfl ?_
  · simp [Instr.alloc, hz, newVar, newRow]
  · rw [hzc]; simpa [Blk.cells, Function.comp_def] using RepL.vs _ _ W hf.one
theorem does_box (hS : RepS F μ st W) (hn : μ new = none) (hs : st new = none) {e : Nat} {a : AV} {v : Value} (ha : a.solid = true) (hr : RepA (Mut F μ st) μ W a v) :
    Does P F μ st W new (do pure (Next.value (← Instr.box e v))) ⟨.own new 0, [(new, some (.mk e a.cells))], []⟩ := by
  refine Does.own hS hn hs (c := v.cells) (el := e) (run_v ?_) (Blk.mk_el _ _) ?_
  · simp [Instr.box, newVar, newRow]
  · rw [Blk.mk_cells]; exact hr.cells ha
theorem does_load (hT : TOK P T) (hS : RepS F μ st W) {t : Nat} {y : Ty} (hy : T t = some y) (h0 : y.size ≠ 0) {b o : Nat} {k : Blk} (hk : st b = some k) {v : Value} (hv : RepA (Mut F μ st) μ W (.own b o) v)
    (hl : o + y.size ≤ k.cells.length) (h1 : y.agg = false → y.size = 1) : Does P F μ st W new (do pure (Next.value (← Instr.loadAt t v))) ⟨cellsTo y.agg y.size o k, [], [b]⟩ := by
  obtain ⟨B, hB, rfl⟩ := hv.own_inv
  obtain ⟨c, hc, _, _, _, hrow⟩ := hS.row hk hB
  obtain ⟨x, hx, hrep⟩ := load_row (P := P) (hT.facts hy) hrow hl h1 h0
  rw [Nat.zero_add] at hx
  exact .value hS (run_v (by simpa [Instr.loadAt, Instr.sureAddr] using hx)) hrep
theorem does_load_pt (hT : TOK P T) (hS : RepS F μ st W) {t : Nat} {y : Ty} (hy : T t = some y) (h0 : y.size ≠ 0) {cs : List PV} {o : Nat} {v : Value} (hv : RepA (Mut F μ st) μ W (.p (.pt cs o)) v)
    (hl : o + y.size ≤ cs.length) (h1 : y.agg = false → y.size = 1) : Does P F μ st W new (do pure (Next.value (← Instr.loadAt t v))) ⟨cellsTo y.agg y.size o (.pc 0 cs), [], []⟩ := by
  obtain ⟨B, base, rfl, _, _, hrow⟩ := hv.p_inv.pt_inv
  obtain ⟨x, hx, hrep⟩ := load_row (P := P) (o := o) (k := .pc 0 cs) (μ := μ) (hT.facts hy) hrow.row (by simpa [Blk.cells] using hl) h1 h0
  exact .value hS (run_v (by simpa [Instr.loadAt, Instr.sureAddr] using hx)) hrep
end ops
end Go.Proofs.Ytiondkijgpjgcaa.Pw
namespace Go.Proofs.Ytiondkijgpjgcaa.Pw
open Go Go.RowKit
theorem RepL.lay {M : Nat → Prop} {μ : Nat → Option Nat} {W : World} {cs x : List AV} {xs vs : List Value} (h : RepL M μ W cs xs) (hx : RepL M μ W x vs) {o : Nat} (hl : o + x.length ≤ cs.length) : RepL M μ W (lay o x cs) (lay o vs xs) := by
  have e1 := h.1; have e2 := hx.1
  refine ⟨by rw [lay_length _ _ _ (by omega), lay_length _ _ _ hl, e1], fun j v hv => ?_, fun j a v ha hv => ?_⟩
  · rw [lay_get _ _ _ (by omega)] at hv
    split at hv
    · exact hx.2.1 _ v hv
    · exact h.2.1 _ v hv
  · rw [lay_get _ _ _ hl] at ha
    rw [lay_get _ _ _ (by omega), e2] at hv
    split at ha
    · rename_i hj; rw [if_pos hj] at hv; exact hx.2.2 _ a v ha hv
    · rename_i hj; rw [if_neg hj] at hv; exact h.2.2 _ a v ha hv
theorem foldl_lay : ∀ (vs : List Value) (k o : Nat) (cs : Array Value), o + k + vs.length ≤ cs.size →
    ((vs.zipIdx k).foldl (fun cs (x : Value × Nat) => cs.setIfInBounds (o + x.2) x.1) cs).toList = lay (o + k) vs cs.toList
  | [], k, o, cs, _ => by simp [lay]
  | v :: vs, k, o, cs, h => by
    have ih := foldl_lay vs (k + 1) o (cs.setIfInBounds (o + k) v) (by simp at h ⊢; omega)
    simp only [List.zipIdx_cons, List.foldl_cons, ih]
    apply List.ext_getElem?
    intro j
    simp only [List.length_cons] at h
    rw [lay_get _ _ _ (by simp; omega), lay_get _ _ _ (by simp; omega)]
    simp only [Array.toList_setIfInBounds, List.getElem?_set, List.length_cons, Array.length_toList]
    by_cases h1 : o + (k + 1) ≤ j ∧ j < o + (k + 1) + vs.length
    · rw [if_pos h1, if_pos (by omega)]
      obtain ⟨i, hi⟩ : ∃ i, j - (o + k) = i + 1 := ⟨j - (o + k) - 1, by omega⟩
      rw [hi, List.getElem?_cons_succ]; congr 1; omega
    · rw [if_neg h1]
      by_cases h2 : o + k = j
      · subst h2; rw [if_pos rfl, if_pos (by omega), if_pos (by omega)]; simp
      · rw [if_neg h2, if_neg (by omega)]
theorem fill_step (off : Nat) (v : Value) (cs : Array Value) (h : off + v.cells.size ≤ cs.size) :
    (v.cells.zipIdx.foldl (fun cs (x : Value × Nat) => cs.setIfInBounds (off + x.2) x.1) cs).toList = lay off v.cells.toList cs.toList := by
  rw [← Array.foldl_toList, Array.toList_zipIdx]
  have := foldl_lay v.cells.toList 0 off cs (by simpa using h)
  simpa using this
theorem fill_sound {M : Nat → Prop} {μ : Nat → Option Nat} {W : World} (place : Nat → Option (Nat × Nat)) : ∀ (ps : List (Nat × AV)) (vs : List (Nat × Value)) (cs cs' : List AV) (xs : Array Value),
    fillA place cs ps = some cs' → RepL M μ W cs xs.toList → ps.length = vs.length → (∀ (j : Nat) p v, ps[j]? = some p → vs[j]? = some v → p.1 = v.1 ∧ RepA M μ W p.2 v.2) →
    ∃ xs', Instr.fill place xs vs = some xs' ∧ RepL M μ W cs' xs'.toList
  | [], [], cs, cs', xs, h, hr, _, _ => by simp only [fillA, Option.some.injEq] at h; subst h; exact ⟨xs, rfl, hr⟩
  | [], _ :: _, _, _, _, _, _, hl, _ => by simp at hl
  | _ :: _, [], _, _, _, _, _, hl, _ => by simp at hl
  | (i, a) :: ps, (i', v) :: vs, cs, cs', xs, h, hr, hl, hp => by
    obtain ⟨rfl, ha⟩ := hp 0 _ _ rfl rfl
    simp only [fillA] at h
    split at h
    · cases h
    · rename_i o s hpl
      split at h
      · rename_i hc
        simp only [Bool.and_eq_true, beq_iff_eq, Nat.ble_eq] at hc
        replace hc : (a.solid = true ∧ a.cells.length = s) ∧ o + s ≤ cs.length := hc
        replace ha : RepA M μ W a v := ha
        have hrc := RepA.cells ha hc.1.1
        have hvl : v.cells.size = s := by have := hrc.1; simp only [Array.length_toList] at this; have h3 := hc.1.2; have h4 := hc.2; omega
        have hxl : xs.size = cs.length := by simpa using hr.1
        have hstep := fill_step o v xs (by have h4 := hc.2; omega)
        have hr' : RepL M μ W (Pw.lay o a.cells cs) (v.cells.zipIdx.foldl (fun cs (x : Value × Nat) => cs.setIfInBounds (o + x.2) x.1) xs).toList := by
          rw [hstep]; exact hr.lay hrc (by have h3 := hc.1.2; have h4 := hc.2; omega)
        obtain ⟨xs', h1, h2⟩ := fill_sound place ps vs _ cs' _ h hr' (by simpa using hl) (fun j p v hj hv => hp (j + 1) p v hj hv)
        refine ⟨xs', ?_, h2⟩
        simp only [Instr.fill, hpl]
        rw [if_neg (by have h4 := hc.2; simp; omega)]
        exact h1
      · cases h
section ops
variable {P : Program} {T : Tab} {F : Nat → Prop} {μ : Nat → Option Nat} {st : Store} {W : World} {new : Nat}
theorem does_store (hT : TOK P T) (hS : RepS F μ st W) {t : Nat} {y : Ty} (hy : T t = some y) {b o : Nat} {k : Blk} (hk : st b = some k) {v : Value} (hv : RepA (Mut F μ st) μ W (.own b o) v)
    {x : AV} {u : Value} (hx : x.solid = true) (hxl : x.cells.length = y.size) (hu : RepA (Mut F μ st) μ W x u) (hl : o + y.size ≤ k.cells.length) :
    Does P F μ st W new (do Instr.storeAt t v u; pure Next.skip) ⟨.any, [(b, some (putIn o x.cells k))], [b]⟩ := by
  obtain ⟨B, hB, rfl⟩ := hv.own_inv
  have hc := hu.cells hx
  obtain ⟨W', hr, hS', hE⟩ := hS.put (P := P) (o := o) hk hB hc (by omega) (putIn_cells _ _ _) (putIn_el _ _ _)
  have hsz : u.cells.size = y.size := by have := hc.1; simp only [Array.length_toList] at this; omega
  refine ⟨undef, W', μ, .inr ⟨run_u ?_, rfl⟩, hS', .any _, hE, fun _ _ => rfl⟩
  simp [Instr.storeAt, Instr.sureAddr, storeVar, (hT.facts hy).size_run, hsz, hr]
theorem zip_parts {M : Nat → Prop} {μ : Nat → Option Nat} {W : World} {ρA : Operand → AV} {ρ : Operand → Value} {parts : Array (Nat × Operand)} (h : ∀ x ∈ parts.toList.map (·.2), RepA M μ W (ρA x) (ρ x)) :
    ∀ (j : Nat) p v, (parts.toList.map fun x => (x.1, ρA x.2))[j]? = some p → (parts.map fun (i, x) => (i, ρ x)).toList[j]? = some v → p.1 = v.1 ∧ RepA M μ W p.2 v.2 := by
  intro j p v hp hv
  simp only [Array.toList_map, List.getElem?_map, Option.map_eq_some_iff] at hp hv
  obtain ⟨q, hq, rfl⟩ := hp
  obtain ⟨q', hq', rfl⟩ := hv
  rw [hq] at hq'; injection hq' with hq'; subst hq'
  exact ⟨rfl, h q.2 (List.mem_map.2 ⟨q, List.mem_of_getElem? hq, rfl⟩)⟩
theorem does_build (hT : TOK P T) (hS : RepS F μ st W) {t : Nat} {y : Ty} (hy : T t = some y) (hf : y.fields ≠ []) {parts : Array (Nat × Operand)} {ρA : Operand → AV} {ρ : Operand → Value} {cs : List AV}
    (hρ : ∀ x ∈ parts.toList.map (·.2), RepA (Mut F μ st) μ W (ρA x) (ρ x))
    (h : fillA (fun i => y.fields[i]?) (y.zero.map fun z => .p (.v z)) (parts.toList.map fun x => (x.1, ρA x.2)) = some cs) :
    Does P F μ st W new (do pure (Next.value (← Instr.build t (parts.map fun (i, x) => (i, ρ x))))) ⟨cells1 cs, [], []⟩ := by
  have hF := hT.facts hy
  obtain ⟨i, z, hi, _, _, hz, hzc⟩ := hF.info
  obtain ⟨fs, hu, hm, _, _⟩ := hF.fields hf
  obtain ⟨xs, h1, h2⟩ := fill_sound (M := Mut F μ st) (μ := μ) (W := W) _ _ (parts.map fun (i, x) => (i, ρ x)).toList _ cs z.cells h (by rw [hzc]; exact RepL.vs _ _ W hF.one) (by simp) (zip_parts hρ)
  have hb : P.built t (parts.map fun (i, x) => (i, ρ x)).toList = some xs := by
    unfold Program.built
    simp only [hi, hu, hz, hm]
    rw [← h1]; congr 1; funext q; simp
  exact .value hS (run_v (run_build W t _ xs hb)) h2.agg_1
theorem does_buildA (hT : TOK P T) (hS : RepS F μ st W) {t n e : Nat} {y z : Ty} (hy : T t = some y) (hf : y.arr = some (n, e)) (hz : T e = some z) {parts : Array (Nat × Operand)} {ρA : Operand → AV} {ρ : Operand → Value} {cs : List AV}
    (hρ : ∀ x ∈ parts.toList.map (·.2), RepA (Mut F μ st) μ W (ρA x) (ρ x))
    (h : fillA (fun i => some (i * z.size, z.size)) (y.zero.map fun z => .p (.v z)) (parts.toList.map fun x => (x.1, ρA x.2)) = some cs) :
    Does P F μ st W new (do pure (Next.value (← Instr.build t (parts.map fun (i, x) => (i, ρ x))))) ⟨cells1 cs, [], []⟩ := by
  have hF := hT.facts hy
  obtain ⟨i, zv, hi, _, _, hzv, hzc⟩ := hF.info
  obtain ⟨ie, ze, hie, hies, _⟩ := (hT.facts hz).info
  have hu := hF.arr n e hf
  obtain ⟨xs, h1, h2⟩ := fill_sound (M := Mut F μ st) (μ := μ) (W := W) _ _ (parts.map fun (i, x) => (i, ρ x)).toList _ cs zv.cells h (by rw [hzc]; exact RepL.vs _ _ W hF.one) (by simp) (zip_parts hρ)
  have hb : P.built t (parts.map fun (i, x) => (i, ρ x)).toList = some xs := by
    unfold Program.built
    simp only [hi, hu, hzv, hie, hies]
    exact h1
  exact .value hS (run_v (run_build W t _ xs hb)) h2.agg_1
theorem madeCells_rep (z : Array Value) (n : Nat) (hz : z.size ≠ 0) : ((Array.range (n * z.size)).map (z[· % z.size]!)).toList = (List.replicate n z.toList).flatten := by
  apply List.ext_getElem?
  intro j
  induction n generalizing j with
  | zero => simp
  | succ n ih =>
    have hz0 : 0 < z.size := Nat.pos_of_ne_zero hz
    rw [List.replicate_succ, List.flatten_cons, List.getElem?_append]
    simp only [Array.length_toList]
    by_cases h : j < z.size
    · rw [if_pos h]
      have : j < (n + 1) * z.size := by rw [Nat.succ_mul]; omega
      simp [this, Nat.mod_eq_of_lt h, h]
    · rw [if_neg h, ← ih (j - z.size)]
      have e : (j - z.size) % z.size = j % z.size := by rw [Nat.mod_eq_sub_mod (a := j) (by omega)]
      by_cases h2 : j < (n + 1) * z.size
      · have : j - z.size < n * z.size := by rw [Nat.succ_mul] at h2; omega
        simp [h2, this, e]
      · have : ¬ j - z.size < n * z.size := by rw [Nat.succ_mul] at h2; omega
        simp [h2, this]
theorem rep_flat (n : Nat) (z : List PV) : rep n z = (List.replicate n z).flatten := by
  unfold rep
  split
  · rename_i a
    induction n with
    | zero => rfl
    | succ n ih => rw [List.replicate_succ, List.replicate_succ, List.flatten_cons, ← ih]; rfl
  · rfl
theorem rep_vs (n : Nat) (z : List Value) : (rep n (z.map .v)).map AV.p = ((List.replicate n z).flatten).map fun x => .p (.v x) := by
  rw [rep_flat]
  simp [List.map_flatten, List.map_replicate, Function.comp_def]
theorem mem_rep {n : Nat} {z : List Value} {x : Value} (h : x ∈ (List.replicate n z).flatten) : x ∈ z := by
  simp only [List.mem_flatten, List.mem_replicate] at h
  obtain ⟨l, ⟨_, rfl⟩, hx⟩ := h
  exact hx
theorem rep_len (n : Nat) (z : List Value) : ((List.replicate n z).flatten).length = n * z.length := by simp
theorem rep_repL (M : Nat → Prop) (μ : Nat → Option Nat) (W : World) {z : List Value} (h : ∀ x ∈ z, x.oneCell' = true) (n : Nat) : RepL M μ W ((rep n (z.map .v)).map .p) ((List.replicate n z).flatten) := by
  rw [rep_vs]
  exact RepL.vs M μ W fun x hx => h x (mem_rep hx)
theorem fillA_length (place : Nat → Option (Nat × Nat)) : ∀ (ps : List (Nat × AV)) (cs cs' : List AV), fillA place cs ps = some cs' → cs'.length = cs.length
  | [], cs, cs', h => by simp only [fillA, Option.some.injEq] at h; rw [h]
  | (i, a) :: ps, cs, cs', h => by
    simp only [fillA] at h
    split at h
    · cases h
    · split at h
      · rename_i o s hpl hc
        simp only [Bool.and_eq_true, beq_iff_eq, Nat.ble_eq] at hc
        rw [fillA_length place ps _ cs' h, lay_length _ _ _ (by have := hc.1.2; have := hc.2; omega)]
      · cases h
theorem does_buildSlice (hT : TOK P T) (hS : RepS F μ st W) (hn : μ new = none) (hs : st new = none) {t e n : Nat} {y z : Ty} (hy : T t = some y) (he : y.elem = some e) (hz : T e = some z) (h1 : n * z.size ≤ 16777216) (h2 : n ≤ 16777216) (h0 : z.size ≠ 0)
    {parts : Array (Nat × Operand)} {ρA : Operand → AV} {ρ : Operand → Value} {cs : List AV} (hρ : ∀ x ∈ parts.toList.map (·.2), RepA (Mut F μ st) μ W (ρA x) (ρ x))
    (h : fillA (fun i => some (i * z.size, z.size)) ((rep n (z.zero.map .v)).map .p) (parts.toList.map fun x => (x.1, ρA x.2)) = some cs) :
    Does P F μ st W new (do pure (Next.value (← Instr.buildSlice t n (parts.map fun (i, x) => (i, ρ x))))) ⟨.sl new 0 n z.size, [(new, some (.mk e cs))], []⟩ := by
  have hF := hT.facts hz
  obtain ⟨i, zv, hi, his, _, hzv, hzc⟩ := hF.info
  have hu := (hT.facts hy).elem e he
  have hzs : zv.cells.size = z.size := by rw [← hF.len, ← hzc]; simp
  have start : RepL (Mut F μ st) μ W ((rep n (z.zero.map .v)).map .p) ((Array.range (n * i.size)).map (zv.cells[· % zv.cells.size]!)).toList := by
    rw [his, ← hzs, madeCells_rep _ _ (by omega), hzc]
    exact rep_repL _ _ W hF.one n
  obtain ⟨xs, hx1, hx2⟩ := fill_sound (M := Mut F μ st) (μ := μ) (W := W) _ _ (parts.map fun (i, x) => (i, ρ x)).toList _ cs _ h start (by simp) (zip_parts hρ)
  have hlen : xs.size = n * z.size := by
    have := hx2.1
    rw [fillA_length _ _ _ _ h] at this
    simp only [Array.length_toList, List.length_map, rep_flat] at this
    rw [this]; simp [hF.len]
  have hk : (Blk.mk e cs).cells = cs := Blk.mk_cells _ _
  have hcl : cs.length = xs.size := by simpa using hx2.1.symm
  have hrun : (Instr.buildSlice t n (parts.map fun (i, x) => (i, ρ x))).run P W = .ok (.slice (some ⟨W.heap.size, 0, none⟩) n n) (W.alloc (.cells xs e)) := by
    by_cases hne : n = 0
    · subst hne
      have h1 : Instr.fill (fun i => some (i * z.size, z.size)) #[] (parts.map fun (i, x) => (i, ρ x)).toList = some xs := by simpa [Array.range_zero'] using hx1
      have h1' : Instr.fill (fun x => some (x * i.size, i.size)) #[] (List.map (fun x => (x.1, ρ x.2)) parts.toList) = some xs := by rw [his]; simpa using h1
      simp [Instr.buildSlice, run_underlying hu, sizeOf, typeInfo, hi, h1', newRow, Array.range_zero']
    · refine run_buildSlice W t e n _ xs i zv hu hi hzv (by rw [his]; omega) (by rw [his]; exact Nat.mul_ne_zero hne h0) ?_
      rw [his]; exact (by simpa [his] using hx1)
  refine .slice hS hn hs (run_v hrun) rfl rfl rfl rfl (Blk.mk_el _ _) (by rw [hk]; omega) ?_ (Nat.le_refl _) (by unfold maxLen; omega) hlen.symm
  rw [hk, hcl, List.take_of_length_le (by simp)]
  exact hx2
end ops
end Go.Proofs.Ytiondkijgpjgcaa.Pw
namespace Go.Proofs.Ytiondkijgpjgcaa.Pw
open Go Go.RowKit
theorem mapM_get {α β : Type} (f : α → Option β) : ∀ (l : List α) (r : List β), l.mapM f = some r → ∀ (j : Nat) b, r[j]? = some b → ∃ a, l[j]? = some a ∧ f a = some b
  | [], r, h, j, b, hb => by simp at h; subst h; simp at hb
  | a :: l, r, h, j, b, hb => by
    rw [List.mapM_cons] at h
    simp only [Option.bind_eq_bind, Option.bind_eq_some_iff, Option.pure_def, Option.some.injEq] at h
    obtain ⟨x, hx, r', hr, rfl⟩ := h
    cases j with
    | zero => simp at hb; exact ⟨a, rfl, hb ▸ hx⟩
    | succ j => exact mapM_get f l r' hr j b (by simpa using hb)
section ops
variable {P : Program} {T : Tab} {F : Nat → Prop} {μ : Nat → Option Nat} {st : Store} {W : World} {new : Nat}
theorem TF.field {t : Nat} {y : Ty} (h : TF P t y) {f : Nat} {q : Nat × Nat} (hq : y.fields[f]? = some q) :
    ∃ fs fd, P.underlying t = some (.struct fs) ∧ fs[f]? = some fd ∧ q.1 = fd.offset ∧ (sizeOf fd.type).run P W = .ok q.2 W ∧ (∀ ag, y.fagg[f]? = some ag → (isAgg fd.type).run P W = .ok ag W) := by
  obtain ⟨fs, hu, hm, ha, hd⟩ := h.fields (by intro e; rw [e] at hq; cases hq)
  obtain ⟨fd, h1, h2⟩ := mapM_get _ _ _ hm f q hq
  simp only [Option.map_eq_some_iff] at h2
  obtain ⟨i, hi, rfl⟩ := h2
  have h1' : fs[f]? = some fd := by simpa using h1
  refine ⟨fs, fd, hu, h1', rfl, by simp [sizeOf, typeInfo, hi], fun ag hag => ?_⟩
  rw [ha, List.getElem?_map, h1] at hag
  injection hag with hag
  obtain ⟨d, hdd⟩ := Option.isSome_iff_exists.1 (hd fd (List.mem_of_getElem? h1))
  rw [isAgg_run hdd, show isAggB P fd.type = ag from hag]
theorem does_fieldAddr (hT : TOK P T) (hS : RepS F μ st W) {s f : Nat} {y : Ty} (hy : T s = some y) {q : Nat × Nat} (hq : y.fields[f]? = some q) (h0 : q.2 ≠ 0) {b o : Nat} {v : Value} (hv : RepA (Mut F μ st) μ W (.own b o) v) :
    Does P F μ st W new (do pure (Next.value (← Instr.fieldAt s v f))) ⟨.own b (o + q.1), [], []⟩ := by
  obtain ⟨B, hB, rfl⟩ := hv.own_inv
  obtain ⟨fs, fd, hu, hf, ho, hs, _⟩ := (hT.facts hy).field (W := W) hq
  refine .value hS (v := .pointer (some ⟨B, o + q.1, none⟩)) (run_v ?_) (.own _ _ _ hB)
  simp [Instr.fieldAt, run_underlying hu, hf, Instr.sureAddr, fieldPlace, hs, h0, Addr.add_lit, ho]
theorem does_fieldAddr_pt (hT : TOK P T) (hS : RepS F μ st W) {s f : Nat} {y : Ty} (hy : T s = some y) {q : Nat × Nat} (hq : y.fields[f]? = some q) (h0 : q.2 ≠ 0) {cs : List PV} {o : Nat} {v : Value} (hv : RepA (Mut F μ st) μ W (.p (.pt cs o)) v) :
    Does P F μ st W new (do pure (Next.value (← Instr.fieldAt s v f))) ⟨.p (.pt cs (o + q.1)), [], []⟩ := by
  obtain ⟨B, base, rfl, hB, hM, hr⟩ := hv.p_inv.pt_inv
  obtain ⟨fs, fd, hu, hf, ho, hs, _⟩ := (hT.facts hy).field (W := W) hq
  refine .value hS (v := .pointer (some ⟨B, base + (o + q.1), none⟩)) (run_v ?_) (.p _ _ (.of_pt hB hM hr))
  simp [Instr.fieldAt, run_underlying hu, hf, Instr.sureAddr, fieldPlace, hs, h0, Addr.add_lit, ho, Nat.add_assoc]
theorem part_sound {M : Nat → Prop} {t : Nat} {ag : Bool} {size off : Nat} {k : Blk} {xs : List Value} (hs : (sizeOf t).run P W = .ok size W) (ha : (isAgg t).run P W = .ok ag W) (hr : RepL M μ W k.cells xs) (hl : off + size ≤ k.cells.length)
    (h1 : ag = false → size = 1) : ∃ v, (part t xs.toArray off).run P W = .ok v W ∧ RepA M μ W (cellsTo ag size off k) v := by
  have hlen : xs.length = k.cells.length := hr.1
  cases ag with
  | true =>
    refine ⟨.agg ((xs.drop off).take size).toArray, ?_, ?_⟩
    · simp only [part, Sem.run_bind, ha, Result.andThen_ok, if_true, hs, Sem.run_pure]
      congr 2
      apply Array.ext'
      simp [List.take_drop]
    · have hL : RepL M μ W ((k.cells.drop off).take size) ((xs.drop off).take size) := by
        refine ⟨by simp; omega, fun j x hx => ?_, fun j a x hA hx => ?_⟩
        · rw [List.getElem?_take] at hx
          split at hx
          · rw [List.getElem?_drop] at hx; exact hr.2.1 _ x hx
          · cases hx
        · rw [List.getElem?_take] at hx hA
          split at hx
          · rename_i hj
            rw [if_pos hj, List.getElem?_drop] at hA
            rw [List.getElem?_drop] at hx; exact hr.2.2 _ a x hA hx
          · cases hx
      cases k with
      | pc e cs =>
        simp only [cellsTo, if_true]
        refine .p _ _ (RepL.agg_p (μ := μ) ?_)
        simpa [Blk.cells, List.map_take, List.map_drop] using hL
      | mc e cs => simpa [cellsTo, Blk.cells] using hL.agg_1
  | false =>
    have hs1 := h1 rfl
    have hlt : off < k.cells.length := by omega
    have hlx : off < xs.length := by omega
    refine ⟨xs[off], ?_, ?_⟩
    · simp [part, ha, hlx]
    · have hR := hr.2.2 off k.cells[off] xs[off] (List.getElem?_eq_getElem hlt) (List.getElem?_eq_getElem hlx)
      cases k with
      | pc e cs =>
        simp only [Blk.cells, List.length_map] at hlt
        simp only [Blk.cells, List.getElem_map] at hR
        simpa [cellsTo, List.getD, List.getElem?_eq_getElem hlt] using hR
      | mc e cs =>
        simp only [Blk.cells] at hlt hR
        simpa [cellsTo, List.getD, List.getElem?_eq_getElem hlt] using hR
theorem does_field (hT : TOK P T) (hS : RepS F μ st W) {s f : Nat} {y : Ty} (hy : T s = some y) {q : Nat × Nat} {ag : Bool} (hq : y.fields[f]? = some q) (hag : y.fagg[f]? = some ag) {k : Blk} {xs : List Value}
    (hr : RepL (Mut F μ st) μ W k.cells xs) (hl : q.1 + q.2 ≤ k.cells.length) (h1 : ag = false → q.2 = 1) :
    Does P F μ st W new (do pure (Next.value (← Instr.field s (.agg xs.toArray) f))) ⟨cellsTo ag q.2 q.1 k, [], []⟩ := by
  obtain ⟨fs, fd, hu, hf, ho, hs, ha⟩ := (hT.facts hy).field (W := W) hq
  obtain ⟨v, hv, hR⟩ := part_sound (P := P) (k := k) hs (ha ag hag) hr hl h1
  refine .value hS (run_v ?_) hR
  simp [Instr.field, run_underlying hu, hf, asAgg, ← ho, hv]
theorem RepA.agg_inv {M : Nat → Prop} {cs : List AV} {v : Value} (h : RepA M μ W (.agg cs) v) : ∃ xs : List Value, v = .agg xs.toArray ∧ RepL M μ W cs xs := by
  cases h with | agg _ xs hl h1 hr => exact ⟨xs, rfl, hl, h1, hr⟩
theorem RepP.agg_inv {M : Nat → Prop} {cs : List PV} {v : Value} (h : RepP M W (.agg cs) v) : ∃ xs : List Value, v = .agg xs.toArray ∧ RepL M μ W (cs.map .p) xs := by
  cases h with
  | agg _ xs hl h1 hr =>
    refine ⟨xs, rfl, by simpa using hl, h1, fun j a x ha hx => ?_⟩
    simp only [List.getElem?_map, Option.map_eq_some_iff] at ha
    obtain ⟨pv, hp, rfl⟩ := ha
    exact .p _ _ (hr j pv x hp hx)
theorem does_indexArr (hT : TOK P T) (hS : RepS F μ st W) {t n e : Nat} {y z : Ty} (hy : T t = some y) (ha : y.arr = some (n, e)) (hz : T e = some z) {kk : IntKind} {i : Int} {k : Blk} {xs : List Value}
    (hr : RepL (Mut F μ st) μ W k.cells xs) (h0 : 0 ≤ i) (h1 : i < n) (hl : i.toNat * z.size + z.size ≤ k.cells.length) (h2 : z.agg = false → z.size = 1) :
    Does P F μ st W new (do pure (Next.value (← Instr.index t (.agg xs.toArray) (.int kk i)))) ⟨cellsTo z.agg z.size (i.toNat * z.size) k, [], []⟩ := by
  have hu := (hT.facts hy).arr n e ha
  obtain ⟨v, hv, hR⟩ := part_sound (P := P) (k := k) ((hT.facts hz).size_run W) ((hT.facts hz).agg W) hr hl h2
  refine .value hS (run_v ?_) hR
  simp [Instr.index, run_underlying hu, asIntOf, h0, h1, (hT.facts hz).size_run, hv]
theorem does_indexArrO (hT : TOK P T) (hS : RepS F μ st W) {t n e : Nat} {y z : Ty} (hy : T t = some y) (ha : y.arr = some (n, e)) (hz : T e = some z) {kk : IntKind} {i : Int} {b o : Nat} {v : Value}
    (hv : RepA (Mut F μ st) μ W (.own b o) v) (h0 : 0 ≤ i) (h1 : i < n) :
    Does P F μ st W new (do pure (Next.value (← Instr.indexAt t v (.int kk i)))) ⟨.own b (o + i.toNat * z.size), [], []⟩ := by
  have hu := (hT.facts hy).arr n e ha
  obtain ⟨B, hB, rfl⟩ := hv.own_inv
  refine .value hS (v := .pointer (some ⟨B, o + i.toNat * z.size, none⟩)) (run_v ?_) (.own _ _ _ hB)
  simp [Instr.indexAt, run_underlying hu, Instr.sureAddr, asIntOf, h0, h1, (hT.facts hz).size_run, Addr.add_lit]
theorem does_indexArrP (hT : TOK P T) (hS : RepS F μ st W) {t n e : Nat} {y z : Ty} (hy : T t = some y) (ha : y.arr = some (n, e)) (hz : T e = some z) {kk : IntKind} {i : Int} {cs : List PV} {o : Nat} {v : Value}
    (hv : RepA (Mut F μ st) μ W (.p (.pt cs o)) v) (h0 : 0 ≤ i) (h1 : i < n) :
    Does P F μ st W new (do pure (Next.value (← Instr.indexAt t v (.int kk i)))) ⟨.p (.pt cs (o + i.toNat * z.size)), [], []⟩ := by
  have hu := (hT.facts hy).arr n e ha
  obtain ⟨B, base, rfl, hB, hM, hr⟩ := hv.p_inv.pt_inv
  refine .value hS (v := .pointer (some ⟨B, base + (o + i.toNat * z.size), none⟩)) (run_v ?_) (.p _ _ (.of_pt hB hM hr))
  simp [Instr.indexAt, run_underlying hu, Instr.sureAddr, asIntOf, h0, h1, (hT.facts hz).size_run, Addr.add_lit, Nat.add_assoc]
theorem index_run {t e : Nat} {y z : Ty} (hT : TOK P T) (hy : T t = some y) (he : y.elem = some e) (hz : T e = some z) {k : IntKind} {i : Int} {B o n cap : Nat} (h0 : 0 ≤ i) (h1 : i < n) :
    (Instr.indexAt t (.slice (some ⟨B, o, none⟩) n cap) (.int k i)).run P W = .ok (.pointer (some ⟨B, o + i.toNat * z.size, none⟩)) W := by
  have hu := (hT.facts hy).elem e he
  simp [Instr.indexAt, asIntOf, run_underlying hu, h0, h1, (hT.facts hz).size_run, Addr.add_lit]
theorem does_index_lst (hT : TOK P T) (hS : RepS F μ st W) {t e : Nat} {y z : Ty} (hy : T t = some y) (he : y.elem = some e) (hz : T e = some z) {k : IntKind} {i : Int} {n : Nat} {cs : List PV} {v : Value}
    (hv : RepA (Mut F μ st) μ W (.p (.lst n cs)) v) (h0 : 0 ≤ i) (h1 : i < n) (h2 : cs ≠ []) : Does P F μ st W new (do pure (Next.value (← Instr.indexAt t v (.int k i)))) ⟨.p (.pt cs (i.toNat * z.size)), [], []⟩ := by
  obtain ⟨a, cap, rfl, _, h | ⟨B, o, rfl, hB, hM, hr⟩⟩ := hv.p_inv.lst_inv
  · exact absurd h.2 h2
  · exact .value hS (run_v (index_run hT hy he hz h0 h1)) (.p _ _ (.of_pt hB hM hr))
theorem does_index_sl (hT : TOK P T) (hS : RepS F μ st W) {t e : Nat} {y z : Ty} (hy : T t = some y) (he : y.elem = some e) (hz : T e = some z) {k : IntKind} {i : Int} {b o n : Nat} {v : Value}
    (hv : RepA (Mut F μ st) μ W (.sl b o n z.size) v) (h0 : 0 ≤ i) (h1 : i < n) : Does P F μ st W new (do pure (Next.value (← Instr.indexAt t v (.int k i)))) ⟨.own b (o + i.toNat * z.size), [], []⟩ := by
  rcases hv.sl_inv with ⟨_, _, rfl⟩ | ⟨B, cap, el, c, rfl, hb, hn, hm, hc, hs⟩
  · omega
  · exact .value hS (run_v (index_run hT hy he hz h0 h1)) (.own _ _ _ hb)
theorem does_makeSlice (hT : TOK P T) (hS : RepS F μ st W) (hn : μ new = none) (hs : st new = none) {t e : Nat} {y z : Ty} (hy : T t = some y) (he : y.elem = some e) (hz : T e = some z) (h0 : z.size ≠ 0) {k k' : IntKind} {n : Int}
    (hpos : 0 ≤ n) (hb : (z.bytes : Int) * n ≤ 281474976710656) (hm : n ≤ 9223372036854775807) :
    Does P F μ st W new (do pure (Next.value (← Instr.makeSlice t (.int k n) (.int k' n)))) ⟨.sl new 0 n.toNat z.size, [(new, some (.pc e (rep n.toNat (z.zero.map .v))))], []⟩ := by
  have hF := hT.facts hz
  obtain ⟨i, zv, hi, his, hib, hzv, hzc⟩ := hF.info
  have hu := (hT.facts hy).elem e he
  have hzs : zv.cells.size = z.size := by rw [← hF.len, ← hzc]; simp
  have hr := run_make (P := P) W t e i zv hu hi hzv k k' n n hpos (Int.le_refl _) (by rw [hib]; omega) (by omega)
  have hcells : (Blk.pc e (rep n.toNat (z.zero.map .v))).cells = (rep n.toNat (z.zero.map .v)).map .p := rfl
  have hmade : (madeCells zv.cells (n.toNat * i.size)).toList = (List.replicate n.toNat z.zero).flatten := by
    unfold madeCells
    rw [his, ← hzs, madeCells_rep _ _ (by omega), hzc]
  have hR := rep_repL (Mut F μ st) μ W hF.one n.toNat
  have hl : (rep n.toNat (z.zero.map .v)).length = n.toNat * z.size := by rw [rep_flat]; simp [hF.len]
  have hsz : (madeCells zv.cells (n.toNat * i.size)).size = n.toNat * z.size := by rw [size_madeCells, his]
  refine .slice hS hn hs (run_v hr) rfl rfl rfl rfl rfl (by rw [hcells, hsz]; simp [hl]) ?_ (Nat.le_refl _) (by unfold maxLen; omega) hsz.symm
  rw [hcells, hmade, List.take_of_length_le (by simp [hl, hF.len])]
  exact hR
theorem slice_run {t e : Nat} {y z : Ty} (hT : TOK P T) (hy : T t = some y) (he : y.elem = some e) (hz : T e = some z) {a : Option Addr} {n cap : Nat} {lo hi : Option Value} {l h : Nat}
    (hlo : (lo = none ∧ l = 0) ∨ ∃ k, lo = some (.int k l)) (hhi : (hi = none ∧ h = n) ∨ ∃ k, hi = some (.int k h)) (h1 : l ≤ h) (h2 : h ≤ cap) :
    (Instr.sliceAt t (.slice a n cap) lo hi none).run P W = .ok (.slice (if cap = l then a else a.map (·.add (l * z.size))) (h - l) (cap - l)) W := by
  have hu := (hT.facts hy).elem e he
  have hs := (hT.facts hz).size_run W
  rcases hlo with ⟨rfl, rfl⟩ | ⟨k, rfl⟩ <;> rcases hhi with ⟨rfl, rfl⟩ | ⟨k', rfl⟩ <;>
    simp [Instr.sliceAt, Instr.slice, run_underlying hu, Instr.sliceBounds, Instr.sliceBound, asIntOf, hs, h1, h2]
theorem does_slice_sl0 (hT : TOK P T) (hS : RepS F μ st W) {t e : Nat} {y z : Ty} (hy : T t = some y) (he : y.elem = some e) (hz : T e = some z) {b o n h : Nat} {v : Value} {hi : Option Value} (hv : RepA (Mut F μ st) μ W (.sl b o n z.size) v)
    (hhi : (hi = none ∧ h = n) ∨ ∃ k, hi = some (.int k h)) (h2 : h ≤ n) : Does P F μ st W new (do pure (Next.value (← Instr.sliceAt t v none hi none))) ⟨.sl b o h z.size, [], []⟩ := by
  rcases hv.sl_inv with ⟨rfl, rfl, rfl⟩ | ⟨B, cap, el, c, rfl, hb, hn, hm, hc, hs⟩
  · obtain rfl : h = 0 := by omega
    exact .value hS (run_v (slice_run hT hy he hz (.inl ⟨rfl, rfl⟩) hhi (Nat.le_refl _) (Nat.le_refl _))) (.sl0 _ _)
  · refine .value hS (run_v (slice_run hT hy he hz (.inl ⟨rfl, rfl⟩) hhi (Nat.zero_le _) (by omega))) ?_
    have : (if cap = 0 then some (⟨B, o, none⟩ : Addr) else (some (⟨B, o, none⟩ : Addr)).map (·.add (0 * z.size))) = some ⟨B, o, none⟩ := by split <;> simp [Addr.add_lit]
    rw [this]
    exact .sl b o h z.size B _ el c hb (by omega) (by omega) hc (by simpa using hs)
theorem does_slice_sl (hT : TOK P T) (hS : RepS F μ st W) {t e : Nat} {y z : Ty} (hy : T t = some y) (he : y.elem = some e) (hz : T e = some z) {b o n h l : Nat} {v : Value} {hi : Option Value} {k : IntKind} (hv : RepA (Mut F μ st) μ W (.sl b o n z.size) v)
    (hhi : (hi = none ∧ h = n) ∨ ∃ k, hi = some (.int k h)) (h1 : l < h) (h2 : h ≤ n) : Does P F μ st W new (do pure (Next.value (← Instr.sliceAt t v (some (.int k l)) hi none))) ⟨.sl b (o + l * z.size) (h - l) z.size, [], []⟩ := by
  rcases hv.sl_inv with ⟨rfl, rfl, rfl⟩ | ⟨B, cap, el, c, rfl, hb, hn, hm, hc, hs⟩
  · omega
  · refine .value hS (run_v (slice_run hT hy he hz (.inr ⟨k, rfl⟩) hhi (by omega) (by omega))) ?_
    rw [if_neg (by omega)]
    simp only [Option.map_some, Addr.add_lit]
    refine .sl b _ _ z.size B _ el c hb (by omega) (by omega) hc ?_
    rw [← hs, Nat.sub_mul]
    have : l * z.size ≤ cap * z.size := Nat.mul_le_mul_right _ (by omega)
    omega
theorem does_slice_lst (hT : TOK P T) (hS : RepS F μ st W) {t e : Nat} {y z : Ty} (hy : T t = some y) (he : y.elem = some e) (hz : T e = some z) {n h l : Nat} {cs : List PV} {v : Value} {lo hi : Option Value} (hv : RepA (Mut F μ st) μ W (.p (.lst n cs)) v)
    (hlo : (lo = none ∧ l = 0) ∨ ∃ k, lo = some (.int k l)) (hhi : (hi = none ∧ h = n) ∨ ∃ k, hi = some (.int k h)) (h1 : l ≤ h) (h2 : h ≤ n) :
    Does P F μ st W new (do pure (Next.value (← Instr.sliceAt t v lo hi none))) ⟨.p (.lst (h - l) ((cs.drop (l * z.size)).take ((h - l) * z.size))), [], []⟩ := by
  obtain ⟨a, cap, rfl, hcap, hh⟩ := hv.p_inv.lst_inv
  refine .value hS (run_v (slice_run hT hy he hz hlo hhi h1 (by omega))) (.p _ _ ?_)
  by_cases hc : h = l
  · subst hc
    simp only [Nat.sub_self, Nat.zero_mul, List.take_zero]
    exact .lst0 _ _
  · rcases hh with ⟨rfl, _⟩ | ⟨B, o, rfl, hB, hM, hr⟩
    · omega
    · rw [if_neg (by omega)]
      simp only [Option.map_some, Addr.add_lit]
      exact .of_row hB hM ⟨by omega, by have := hv.p_inv.lst_cap (by omega); omega⟩ ((hr.drop _).take _)
end ops
end Go.Proofs.Ytiondkijgpjgcaa.Pw
namespace Go.Proofs.Ytiondkijgpjgcaa.Pw
open Go Go.RowKit
section ops
variable {P : Program} {T : Tab} {F : Nat → Prop} {μ : Nat → Option Nat} {st : Store} {W : World} {new : Nat}
theorem bin_run {op : BinOp} {t : TypeId} {x y : Operand} {k : IntKind} {a b : Int} {r : Value} {c : Prop} (h : binA op k a b = some (r, c)) (hc : c) :
    (do eqGuard op t x y (.int k a) (.int k b); binOp op t (.int k a) (.int k b) : Sem Value).run P W = .ok r W := by
  have hg : (eqGuard op t x y (.int k a) (.int k b)).run P W = .ok () W := by
    unfold eqGuard
    cases op <;> rfl
  rw [Sem.run_bind, hg, Result.andThen_ok]
  cases op <;> simp only [binA, Option.some.injEq, Prod.mk.injEq, reduceCtorEq] at h <;> obtain ⟨rfl, rfl⟩ := h <;>
    simp_all [binOp, Op.intArith, Op.intDiv, Op.intCmp, bne, Int.instDecidableEq, show (a == b) = decide (a = b) from by by_cases h : a = b <;> simp [h]]
theorem bool_run {op : BinOp} {t : TypeId} {x y : Operand} {a b r : Bool} (hu : P.underlying t = some .bool) (h : (op = .eql ∧ r = (a == b)) ∨ (op = .neq ∧ r = !(a == b))) :
    (do eqGuard op t x y (.bool a) (.bool b); binOp op t (.bool a) (.bool b) : Sem Value).run P W = .ok (.bool r) W := by
  have he : (Op.equal t (.bool a) (.bool b)).run P W = .ok (a == b) W := by
    unfold Op.equal Op.maxDepth Op.equalIn
    simp [run_underlying hu]
  rcases h with ⟨rfl, rfl⟩ | ⟨rfl, rfl⟩ <;> simp [eqGuard, binOp, he]
theorem str_run {op : BinOp} {t : TypeId} {x y : Operand} {a b : ByteArray} {r : Value} {c : Prop} (h : strA op a b = some (r, c)) (hc : c) :
    (do eqGuard op t x y (.string a) (.string b); binOp op t (.string a) (.string b) : Sem Value).run P W = .ok r W := by
  have hg : (eqGuard op t x y (.string a) (.string b)).run P W = .ok () W := by
    unfold eqGuard
    cases op <;> rfl
  rw [Sem.run_bind, hg, Result.andThen_ok]
  cases op <;> simp only [strA, Option.some.injEq, Prod.mk.injEq, reduceCtorEq] at h <;> obtain ⟨rfl, rfl⟩ := h
  case add =>
    have hm : ¬ (((a.size + b.size : Nat) : Int) > IntKind.i64.max) := by rw [show IntKind.i64.max = 9223372036854775807 from rfl]; omega
    have hb : (binOp .add t (.string a) (.string b)) = Op.stringOp .add a b := rfl
    rw [hb]; unfold Op.stringOp
    simp only [if_neg hm]; rfl
  all_goals simp [binOp, Op.stringOp]
theorem sub_cells (o n : Nat) (k : Blk) : (sub o n k).cells = (k.cells.drop o).take n := by cases k <;> simp [sub, Blk.cells, List.map_take, List.map_drop]
theorem joinB_cells (e : Nat) (a b : Blk) : (joinB e a b).cells = a.cells ++ b.cells := by cases a <;> cases b <;> simp [joinB, Blk.cells]
theorem joinB_el (e : Nat) (a b : Blk) : (joinB e a b).el = e := by cases a <;> cases b <;> rfl
theorem overB_cells (o : Nat) (a d : Blk) : (overB o a d).cells = d.cells.take o ++ (a.cells ++ d.cells.drop (o + a.cells.length)) := by cases a <;> cases d <;> simp [overB, Blk.cells]
theorem overB_el (o : Nat) (a d : Blk) : (overB o a d).el = d.el := by cases a <;> cases d <;> rfl
theorem lay_over {α : Type} (o : Nat) (x cs : List α) : (cs.take o ++ (x ++ cs.drop (o + x.length))).length = (lay o x cs).length ∨ cs.length < o + x.length := by
  rcases Nat.lt_or_ge cs.length (o + x.length) with h | h
  · exact .inr h
  · left; rw [lay_length _ _ _ h]; simp; omega
theorem lay_eq {α : Type} (o : Nat) (x cs : List α) (h : o + x.length ≤ cs.length) : lay o x cs = cs.take o ++ (x ++ cs.drop (o + x.length)) := by
  unfold lay
  split
  · rename_i a
    apply List.ext_getElem?
    intro j
    simp only [List.length_cons, List.length_nil] at h ⊢
    rw [List.getElem?_set, List.getElem?_append, List.getElem?_append]
    simp only [List.length_take, List.getElem?_take, List.getElem?_drop, List.length_cons, List.length_nil]
    have : min o cs.length = o := by omega
    rw [this]
    by_cases h1 : o = j
    · subst h1; simp; omega
    · rw [if_neg h1]
      by_cases h2 : j < o
      · rw [if_pos h2, if_pos h2]
      · rw [if_neg h2, if_neg (by omega)]; congr 1; omega
  · rfl
/-- What a reader of a slice finds. -/
theorem view_row (hS : RepS F μ st W) {a : AV} {v : Value} {q : Nat × Nat × Blk × List Nat} (hq : viewA st a = some q) (hv : RepA (Mut F μ st) μ W a v) {size : Nat} (hl : q.2.1 + q.1 * size ≤ q.2.2.1.cells.length) :
    ∃ x cap, v = .slice x q.1 cap ∧ ∀ n, n ≤ q.1 → ∃ news : List Value, RepL (Mut F μ st) μ W (sub q.2.1 (n * size) q.2.2.1).cells news ∧ news.length = n * size ∧
      ((x = none ∧ n = 0) ∨ (∃ p, x = some p ∧ ∀ (j : Nat) u, news[j]? = some u → W.cell? (p.add j) = some u)) := by
  have nil : ∀ (k : Blk) (o : Nat) (x : Option Addr) (n : Nat), n ≤ 0 → ∃ news : List Value, RepL (Mut F μ st) μ W (sub o (n * size) k).cells news ∧ news.length = n * size ∧ ((x = none ∧ n = 0) ∨ (∃ p, x = some p ∧ ∀ (j : Nat) u, news[j]? = some u → W.cell? (p.add j) = some u)) := fun k o x n hn => by
    obtain rfl : n = 0 := by omega
    refine ⟨[], ?_, by simp, ?_⟩
    · rw [sub_cells]; simp only [Nat.zero_mul, List.take_zero]; exact ⟨rfl, fun _ _ h => by simp at h, fun _ _ _ h => by simp at h⟩
    · cases x with
      | none => exact .inl ⟨rfl, rfl⟩
      | some p => exact .inr ⟨p, rfl, fun _ _ h => by simp at h⟩
  have row : ∀ (k : Blk) (o B m : Nat), RowAt (Mut F μ st) μ W B o (k.cells.drop q.2.1) → q.2.1 + m * size ≤ k.cells.length → ∀ n, n ≤ m → ∃ news : List Value, RepL (Mut F μ st) μ W (sub q.2.1 (n * size) k).cells news ∧ news.length = n * size ∧
      (((some (⟨B, o, none⟩ : Addr)) = none ∧ n = 0) ∨ (∃ p, some (⟨B, o, none⟩ : Addr) = some p ∧ ∀ (j : Nat) u, news[j]? = some u → W.cell? (p.add j) = some u)) := fun k o B m hr hm n hn => by
    have hle : n * size ≤ m * size := Nat.mul_le_mul_right _ hn
    obtain ⟨xs, _, hL, hc⟩ := (hr.take (n * size)).loads (P := default)
    refine ⟨xs, by rw [sub_cells]; exact hL, by rw [hL.1]; simp; omega, .inr ⟨_, rfl, fun j u hu => ?_⟩⟩
    rw [Addr.add_lit]; exact hc j u hu
  unfold viewA at hq
  split at hq
  · injection hq with hq; subst hq
    obtain ⟨x, cap, rfl, _, ⟨rfl, rfl⟩ | ⟨B, o, rfl, hB, hM, hr⟩⟩ := hv.p_inv.lst_inv
    · exact ⟨x, cap, rfl, fun n hn => nil _ _ _ n hn⟩
    · exact ⟨_, cap, rfl, row _ o B _ (by simpa [Blk.cells] using hr.row) hl⟩
  · injection hq with hq; subst hq
    obtain rfl := hv.v_inv
    exact ⟨none, 0, rfl, fun n hn => nil _ _ _ n hn⟩
  · rename_i b o n k'
    simp only [Option.map_eq_some_iff] at hq
    obtain ⟨k, hk, rfl⟩ := hq
    rcases hv.sl_inv with ⟨rfl, rfl, rfl⟩ | ⟨B, cap, el, c, rfl, hb, hn, hm, hc, hs⟩
    · exact ⟨none, 0, rfl, fun n hn => nil _ _ _ n hn⟩
    · obtain ⟨_, _, _, _, _, hr⟩ := hS.row hk hb
      refine ⟨_, cap, rfl, row k _ B _ ?_ hl⟩
      have h2 := hr.drop o
      rw [Nat.zero_add] at h2
      exact h2
  · cases hq
theorem splice_get (c : Array Value) (o : Nat) (vs : List Value) (h : o + vs.length ≤ c.size) (j : Nat) (hj : j < c.size) :
    (c.toList.take (o + 0) ++ vs ++ c.toList.drop (o + 0 + vs.length)).toArray.getD j undef = if o ≤ j ∧ j < o + vs.length then vs.getD (j - o) undef else c.getD j undef := by
  have hm : min o c.size = o := by omega
  simp only [Nat.add_zero, Array.getD_eq_getD_getElem?, List.getElem?_toArray, List.append_assoc, List.getD_eq_getElem?_getD]
  rw [List.getElem?_append, List.getElem?_append]
  simp only [List.length_take, Array.length_toList, hm, List.getElem?_take, List.getElem?_drop]
  by_cases h1 : j < o
  · rw [if_pos h1, if_pos h1, if_neg (by omega)]; simp
  · rw [if_neg h1]
    by_cases h2 : j - o < vs.length
    · rw [if_pos h2, if_pos (by omega)]
    · rw [if_neg h2, if_neg (by omega), show o + vs.length + (j - o - vs.length) = j by omega]; simp
theorem RepS.rename (h : RepS F μ st W) {b B : Nat} {k : Blk} (hk : st b = some k) (hB : μ b = some B) (hn : μ new = none) (hs : st new = none) :
    RepS F (upd1 μ new (some B)) (upd1 (upd1 st b none) new (some k)) W ∧ Ext F (Mut F μ st) μ W (Mut F (upd1 μ new (some B)) (upd1 (upd1 st b none) new (some k))) (upd1 μ new (some B)) W := by
  have hbn : b ≠ new := fun e => by subst e; rw [hs] at hk; cases hk
  have get : ∀ b', upd1 (upd1 st b none) new (some k) b' ≠ none → (b' = new) ∨ (b' ≠ new ∧ b' ≠ b ∧ st b' ≠ none) := fun b' hb' => by
    by_cases e : b' = new
    · exact .inl e
    · rw [upd1_ne _ _ _ e] at hb'
      by_cases e' : b' = b
      · subst e'; rw [upd1_same] at hb'; exact absurd rfl hb'
      · rw [upd1_ne _ _ _ e'] at hb'; exact .inr ⟨e, e', hb'⟩
  have ext : Ext F (Mut F μ st) μ W (Mut F (upd1 μ new (some B)) (upd1 (upd1 st b none) new (some k))) (upd1 μ new (some B)) W := by
    refine ⟨Nat.le_refl _, fun _ _ _ => rfl, fun _ c _ hc => ⟨c, hc, rfl⟩, fun b' B' hb => ?_, fun B' _ hm => ?_, rfl, rfl, rfl, fun _ _ => rfl⟩
    · rw [upd1_ne _ _ _ (fun e => by subst e; rw [hn] at hb; cases hb)]; exact hb
    · rcases hm with hm | ⟨b', h1, h2⟩
      · exact .inl hm
      · rcases get b' h1 with rfl | ⟨e, _, h3⟩
        · rw [upd1_same] at h2; injection h2 with h2; subst h2; exact .inr ⟨b, by rw [hk]; simp, hB⟩
        · rw [upd1_ne _ _ _ e] at h2; exact .inr ⟨b', h3, h2⟩
  refine ⟨⟨fun b' k' hk' => ?_, fun b1 b2 B' h1 h2 h3 h4 => ?_, h.low⟩, ext⟩
  · rcases get b' (by rw [hk']; simp) with rfl | ⟨e, e', _⟩
    · rw [upd1_same] at hk'; injection hk' with hk'; subst hk'
      rcases h.at_ b k hk with ⟨h0, _⟩ | ⟨B', c, hB', hF, hc, hl, h1, hr⟩
      · rw [h0] at hB; cases hB
      · rw [hB'] at hB; injection hB with hB; subst hB
        exact .inr ⟨B', c, upd1_same _ _ _, hF, hc, hl, h1, fun j a ha => (hr j a ha).ext ext⟩
    · rw [upd1_ne _ _ _ e, upd1_ne _ _ _ e'] at hk'
      rcases h.at_ b' k' hk' with ⟨h0, h0'⟩ | ⟨B', c, hB', hF, hc, hl, h1, hr⟩
      · exact .inl ⟨by rw [upd1_ne _ _ _ e]; exact h0, h0'⟩
      · exact .inr ⟨B', c, by rw [upd1_ne _ _ _ e]; exact hB', hF, hc, hl, h1, fun j a ha => (hr j a ha).ext ext⟩
  · rcases get b1 h1 with rfl | ⟨e1, e1', s1⟩ <;> rcases get b2 h2 with rfl | ⟨e2, e2', s2⟩
    · rfl
    · rw [upd1_same] at h3; injection h3 with h3; subst h3
      rw [upd1_ne _ _ _ e2] at h4
      exact absurd (h.inj b2 b B s2 (by rw [hk]; simp) h4 hB) e2'
    · rw [upd1_same] at h4; injection h4 with h4; subst h4
      rw [upd1_ne _ _ _ e1] at h3
      exact absurd (h.inj b1 b B s1 (by rw [hk]; simp) h3 hB) e1'
    · rw [upd1_ne _ _ _ e1] at h3; rw [upd1_ne _ _ _ e2] at h4
      exact h.inj b1 b2 B' s1 s2 h3 h4
theorem RepS.empty (h : RepS F μ st W) (hn : μ new = none) {k : Blk} (hk : k.cells = []) : RepS F μ (upd1 st new (some k)) W ∧ Ext F (Mut F μ st) μ W (Mut F μ (upd1 st new (some k))) μ W := by
  have get : ∀ b' B, upd1 st new (some k) b' ≠ none → μ b' = some B → st b' ≠ none := fun b' B hb' hB => by
    by_cases e : b' = new
    · subst e; rw [hn] at hB; cases hB
    · rwa [upd1_ne _ _ _ e] at hb'
  have ext : Ext F (Mut F μ st) μ W (Mut F μ (upd1 st new (some k))) μ W :=
    ⟨Nat.le_refl _, fun _ _ _ => rfl, fun _ c _ hc => ⟨c, hc, rfl⟩, fun _ _ hb => hb, fun B _ hm => hm.imp id (fun ⟨b', h1, h2⟩ => ⟨b', get b' B h1 h2, h2⟩), rfl, rfl, rfl, fun _ _ => rfl⟩
  refine ⟨⟨fun b' k' hk' => ?_, fun b1 b2 B h1 h2 h3 h4 => h.inj b1 b2 B (get _ _ h1 h3) (get _ _ h2 h4) h3 h4, h.low⟩, ext⟩
  by_cases e : b' = new
  · subst e; rw [upd1_same] at hk'; injection hk' with hk'; subst hk'; exact .inl ⟨hn, hk⟩
  · rw [upd1_ne _ _ _ e] at hk'
    rcases h.at_ b' k' hk' with h0 | ⟨B, c, hB, hF, hc, hl, h1, hr⟩
    · exact .inl h0
    · exact .inr ⟨B, c, hB, hF, hc, hl, h1, fun j a ha => (hr j a ha).ext ext⟩
theorem Does.after_kill (hS : RepS F μ st W) {b : Nat} {s : Sem Next} {a : AV} {u : List (Nat × Option Blk)} {rd rd' : List Nat} (h : RepS F μ (upd1 st b none) W → Does P F μ (upd1 st b none) W new s ⟨a, u, rd⟩) : Does P F μ st W new s ⟨a, (b, none) :: u, rd'⟩ := by
  obtain ⟨hS1, hE1⟩ := hS.kill b
  obtain ⟨v, W', μ', hr, hS', hA, hE, hμ⟩ := h hS1
  exact ⟨v, W', μ', hr, hS', hA, hE1.trans hE, hμ⟩
theorem src_of {size : Nat} {t e : TypeId} (hk : P.underlying t = some (.slice e)) {x : Option Addr} {n cap : Nat} {news : List Value} {M : Nat → Prop} {cs : List AV} (hL : RepL M μ W cs news) (hl : news.length = n * size)
    (h : (x = none ∧ n = 0) ∨ (∃ p, x = some p ∧ ∀ (j : Nat) u, news[j]? = some u → W.cell? (p.add j) = some u)) : Src P size t (.slice x n cap) n news W := by
  have one : ∀ u ∈ news, u.oneCell' = true := fun u hu => by
    obtain ⟨j, hj⟩ := List.getElem?_of_mem hu
    exact hL.2.1 j u hj
  rcases h with ⟨rfl, rfl⟩ | ⟨p, rfl, hc⟩
  · obtain rfl : news = [] := List.eq_nil_of_length_eq_zero (by simpa using hl)
    exact .ofNil W hk cap
  · exact .ofSlice W hk p n cap news hl hc one
/-- append onto a slice that is not there. -/
theorem append_nil (hT : TOK P T) (hS : RepS F μ st W) (hn : μ new = none) (hs : st new = none) {t e : Nat} {y z : Ty} (hy : T t = some y) (he : y.elem = some e) (hz : T e = some z) (h0 : z.size ≠ 0) {ty : TypeId} {v : Value} {m : Nat} {news : List Value} {k : Blk}
    (hsrc : Src P z.size t v m news W) (hL : RepL (Mut F μ st) μ W k.cells news) (hel : k.el = e) (hb : m * z.bytes ≤ 140737488355328) (hm : m ≤ 140737488351232) :
    Does P F μ st W new (do pure (Next.value (← Builtin.append_ #[t, t] ty #[.slice none 0 0, v]))) ⟨.sl new 0 m z.size, [(new, some k)], []⟩ := by
  have hF := hT.facts hz
  obtain ⟨i, zv, hi, his, hib, hzv, hzc⟩ := hF.info
  have hu := (hT.facts hy).elem e he
  have hzs : zv.cells.size = z.size := by rw [← hF.len, ← hzc]; simp
  by_cases hm0 : m = 0
  · subst hm0
    obtain rfl : news = [] := List.eq_nil_of_length_eq_zero (by simpa using hsrc.newsLen)
    have hk : k.cells = [] := List.eq_nil_of_length_eq_zero hL.1.symm
    obtain ⟨h1, h2⟩ := hS.empty hn hk
    exact ⟨_, W, μ, .inl (run_v (run_append_nothing W t t ty e i hu hi none 0 0 (Nat.le_refl _) v (by rw [his]; exact hsrc))), h1, .sl0 _ _, h2, fun _ _ => rfl⟩
  · have hr := run_append_grow_src (P := P) W t t ty e i zv hu hi hzv none 0 0 [] (run_firstCells_none _ _ _ _ _) v m news (by rw [his]; exact hsrc) (by omega) (by omega) (growslice_fits (by omega) (by rw [hib]; simpa using hb))
    simp only [Nat.zero_add, List.nil_append] at hr
    have hge := grownCap_ge W m 0 e
    have hsz : (news.toArray ++ Builtin.zeroCells zv.cells (grownCap W m 0 e - m)).size = grownCap W m 0 e * z.size := by
      rw [Array.size_append, size_zeroCells, hzs]
      simp only [List.size_toArray, hsrc.newsLen, ← Nat.add_mul]
      congr 1; omega
    have hkl : k.cells.length = news.length := hL.1.symm
    refine .slice hS hn hs (run_v hr) rfl rfl rfl rfl hel ?_ ?_ hge (grownCap_le_maxLen W m 0 e (by unfold maxLen; omega)) hsz.symm
    · rw [hkl, hsz, hsrc.newsLen]; exact Nat.mul_le_mul_right _ hge
    · rw [hkl]
      simpa using hL
end ops
end Go.Proofs.Ytiondkijgpjgcaa.Pw
namespace Go.Proofs.Ytiondkijgpjgcaa.Pw
open Go Go.RowKit
section ops
variable {P : Program} {T : Tab} {F : Nat → Prop} {μ : Nat → Option Nat} {st : Store} {W : World} {new : Nat}
theorem RepL.ext {M M' : Nat → Prop} {μ' : Nat → Option Nat} {W' : World} (h : Ext F M μ W M' μ' W') {cs : List AV} {xs : List Value} (r : RepL M μ W cs xs) : RepL M' μ' W' cs xs :=
  ⟨r.1, r.2.1, fun j a x ha hx => (r.2.2 j a x ha hx).ext h⟩
theorem RepS.same (h : RepS F μ st W) {b : Nat} {k k' : Blk} (hk : st b = some k) (hc : k'.cells = k.cells) (he : k'.el = k.el) : RepS F μ (upd1 st b (some k')) W ∧ Ext F (Mut F μ st) μ W (Mut F μ (upd1 st b (some k'))) μ W := by
  have get : ∀ b', upd1 st b (some k') b' ≠ none → st b' ≠ none := fun b' hb' => by
    by_cases e : b' = b
    · subst e; rw [hk]; simp
    · rwa [upd1_ne _ _ _ e] at hb'
  have ext : Ext F (Mut F μ st) μ W (Mut F μ (upd1 st b (some k'))) μ W :=
    ⟨Nat.le_refl _, fun _ _ _ => rfl, fun _ c _ hc => ⟨c, hc, rfl⟩, fun _ _ hb => hb, fun B _ hm => hm.imp id (fun ⟨b', h1, h2⟩ => ⟨b', get b' h1, h2⟩), rfl, rfl, rfl, fun _ _ => rfl⟩
  refine ⟨⟨fun b' k0 hk0 => ?_, fun b1 b2 B h1 h2 h3 h4 => h.inj b1 b2 B (get _ h1) (get _ h2) h3 h4, h.low⟩, ext⟩
  by_cases e : b' = b
  · subst e; rw [upd1_same] at hk0; injection hk0 with hk0; subst hk0
    rw [hc, he]
    rcases h.at_ b' k hk with h0 | ⟨B, c, hB, hF, hcc, hl, h1, hr⟩
    · exact .inl h0
    · exact .inr ⟨B, c, hB, hF, hcc, hl, h1, fun j a ha => (hr j a ha).ext ext⟩
  · rw [upd1_ne _ _ _ e] at hk0
    rcases h.at_ b' k0 hk0 with h0 | ⟨B, c, hB, hF, hcc, hl, h1, hr⟩
    · exact .inl h0
    · exact .inr ⟨B, c, hB, hF, hcc, hl, h1, fun j a ha => (hr j a ha).ext ext⟩
theorem append_own (hT : TOK P T) (hS : RepS F μ st W) (hn : μ new = none) (hs : st new = none) {t e : Nat} {y z : Ty} (hy : T t = some y) (he : y.elem = some e) (hz : T e = some z) (h0 : z.size ≠ 0) {ty : TypeId} {v u : Value} {m n b : Nat} {news : List Value} {d k : Blk} {cs : List AV} {rd : List Nat}
    (hsrc : Src P z.size t v m news W) (hL : RepL (Mut F μ st) μ W cs news) (hd : st b = some d) (hdl : d.cells.length = n * z.size) (hde : d.el = e) (hu : RepA (Mut F μ st) μ W (.sl b 0 n z.size) u) (hk : k.cells = d.cells ++ cs) (hel : k.el = e)
    (hb : (n + m) * z.bytes ≤ 140737488355328) (hm : n + m ≤ 140737488351232) :
    Does P F μ st W new (do pure (Next.value (← Builtin.append_ #[t, t] ty #[u, v]))) ⟨.sl new 0 (n + m) z.size, [(b, none), (new, some k)], rd⟩ := by
  have hF := hT.facts hz
  obtain ⟨i, zv, hi, his, hib, hzv, hzc⟩ := hF.info
  have hund := (hT.facts hy).elem e he
  have hzs : zv.cells.size = z.size := by rw [← hF.len, ← hzc]; simp
  have hbn : new ≠ b := fun e => by subst e; rw [hs] at hd; cases hd
  have hs1 : upd1 st b none new = none := by rw [upd1_ne _ _ _ hbn]; exact hs
  have hE1 := (hS.kill b).2
  rcases hu.sl_inv with ⟨rfl, _, rfl⟩ | ⟨B, cap, el, c, rfl, hB, hnc, hcm, hc, hcs⟩
  · have hd0 : d.cells = [] := List.eq_nil_of_length_eq_zero (by simpa using hdl)
    rw [hd0, List.nil_append] at hk
    rw [Nat.zero_add] at hb hm ⊢
    exact .after_kill (rd := []) hS fun hS1 => append_nil hT hS1 hn hs1 hy he hz h0 hsrc (by rw [hk]; exact hL.ext hE1) hel hb hm
  · obtain ⟨c', hc', hcl, hc1, hcr, hrow⟩ := hS.row hd hB
    rw [hc] at hc'; injection hc' with hc'; injection hc' with e1 e2; subst e1; subst e2
    have hcs' : cap * z.size = c.size := by simpa using hcs
    by_cases hroom : n + m ≤ cap
    · have hfit : n * z.size + news.length ≤ c.size := by rw [hsrc.newsLen, ← hcs', ← Nat.add_mul]; exact Nat.mul_le_mul_right _ hroom
      have hst := run_storeCells_at P B (n * z.size) d.el news 0 c W hc (by simpa using hfit) hsrc.one
      have hrun : (Builtin.append_ #[t, t] ty #[.slice (some ⟨B, 0, none⟩) n cap, v]).run P W = .ok (.slice (some ⟨B, 0, none⟩) (n + m) cap) (W.setRow B (c.toList.take (n * z.size + 0) ++ news ++ c.toList.drop (n * z.size + 0 + news.length)).toArray) := by
        simp only [Nat.add_zero] at hst ⊢
        simp [Builtin.append_, run_underlying hund, sizeOf, typeInfo, hi, his, hsrc.len, hroom, hsrc.cells, Addr.add_lit, hst]
      have hsz : (c.toList.take (n * z.size + 0) ++ news ++ c.toList.drop (n * z.size + 0 + news.length)).toArray.size = c.size := by simp; omega
      have hkl : k.cells.length = n * z.size + news.length := by rw [hk, List.length_append, hdl, hL.1]
      obtain ⟨hS2, hE2⟩ := hS.write (k' := k) (c' := (c.toList.take (n * z.size + 0) ++ news ++ c.toList.drop (n * z.size + 0 + news.length)).toArray) hd hB hc hsz (by rw [hel, hde]) (by rw [hsz, hkl]; exact hfit) (fun j hj => by
        rw [splice_get c (n * z.size) news hfit j (by omega)]
        split
        · rename_i hjj
          have : j - n * z.size < news.length := by omega
          rw [List.getD_eq_getElem?_getD, List.getElem?_eq_getElem this]
          exact hsrc.one _ (List.getElem_mem _)
        · exact hc1 j (by omega)) (fun j a ha => by
        have hj : j < k.cells.length := (List.getElem?_eq_some_iff.1 ha).1
        rw [splice_get c (n * z.size) news hfit j (by omega)]
        rw [hk, List.getElem?_append] at ha
        split at ha
        · rename_i hj1
          rw [if_neg (by omega)]; exact hcr j a ha
        · rename_i hj1
          rw [if_pos (by omega)]
          have : j - n * z.size < news.length := by omega
          rw [hdl] at ha
          rw [List.getD_eq_getElem?_getD, List.getElem?_eq_getElem this]
          exact hL.2.2 _ a _ ha (List.getElem?_eq_getElem this))
      obtain ⟨hS3, hE3⟩ := hS2.rename (new := new) (k := k) (upd1_same _ _ _) hB hn (by rw [upd1_ne _ _ _ hbn]; exact hs)
      have hupd : upd1 (upd1 (upd1 st b (some k)) b none) new (some k) = upds st [(b, none), (new, some k)] := by
        funext i
        show upd1 (upd1 (upd1 st b (some k)) b none) new (some k) i = upd1 (upd1 st b none) new (some k) i
        by_cases e1 : i = new
        · simp [upd1, e1]
        · by_cases e2 : i = b <;> simp [upd1, e1, e2]
      rw [hupd] at hS3 hE3
      refine ⟨_, _, _, .inl (run_v hrun), hS3, .sl new 0 (n + m) z.size B cap d.el _ (upd1_same _ _ _) hroom hcm (setRow_heap W B _ _ _ _ hc) (by rw [hsz]; omega), hE2.trans hE3, fun b' hb' => upd1_ne _ _ _ hb'⟩
    · refine .after_kill (rd := []) hS fun hS1 => ?_
      have hrow' := hrow.loads (P := P)
      obtain ⟨olds, _, hoL, hoc⟩ := hrow'
      have hol : olds.length = n * i.size := by rw [hoL.1, hdl, his]
      have hfirst := run_firstCells_some (P := P) W.drew i.size n ⟨B, 0, none⟩ n cap olds hol (fun j v hv => by rw [Addr.add_lit]; exact hoc j v hv)
      have hr := run_append_grow_src (P := P) W t t ty e i zv hund hi hzv (some ⟨B, 0, none⟩) n cap olds hfirst v m news (by rw [his]; exact hsrc) (by omega) (by omega) (growslice_fits (by omega) (by rw [hib]; exact hb))
      have hge := grownCap_ge W (n + m) cap e
      have hsz : ((olds ++ news).toArray ++ Builtin.zeroCells zv.cells (grownCap W (n + m) cap e - (n + m))).size = grownCap W (n + m) cap e * z.size := by
        rw [Array.size_append, size_zeroCells, hzs]
        simp only [List.size_toArray, List.length_append, hsrc.newsLen, hol, his, ← Nat.add_mul]
        congr 1; omega
      have hkl : k.cells.length = (olds ++ news).length := by rw [hk]; simp [hL.1, hoL.1]
      refine .slice (rd := []) hS1 hn hs1 (run_v hr) rfl rfl rfl rfl hel ?_ ?_ hge (grownCap_le_maxLen W (n + m) cap e (by unfold maxLen; omega)) hsz.symm
      · rw [hkl, hsz, List.length_append, hol, hsrc.newsLen, his, ← Nat.add_mul]; exact Nat.mul_le_mul_right _ hge
      · have htake : (((olds ++ news).toArray ++ Builtin.zeroCells zv.cells (grownCap W (n + m) cap e - (n + m))).toList.take k.cells.length) = olds ++ news := by
          rw [hkl, Array.toList_append]
          exact List.take_left
        rw [htake, hk]
        refine ⟨by simp [hL.1, hoL.1], fun j x hx => ?_, fun j a x ha hx => ?_⟩
        · rw [List.getElem?_append] at hx
          split at hx
          · exact hoL.2.1 j x hx
          · exact hL.2.1 _ x hx
        · rw [List.getElem?_append] at hx ha
          rw [hoL.1] at hx
          split at hx
          · rename_i hj; rw [if_pos hj] at ha; exact (hoL.2.2 j a x ha hx).ext hE1
          · rename_i hj; rw [if_neg hj] at ha; exact (hL.2.2 _ a x ha hx).ext hE1
theorem does_append (hT : TOK P T) (hS : RepS F μ st W) (hn : μ new = none) (hs : st new = none) {t e : Nat} {y z : Ty} (hy : T t = some y) (he : y.elem = some e) (hz : T e = some z) (h0 : z.size ≠ 0) {ty : TypeId} {a : AV} {v u : Value} {q : Nat × Nat × Blk × List Nat} (hq : viewA st a = some q) (hv : RepA (Mut F μ st) μ W a v)
    (hl : q.2.1 + q.1 * z.size ≤ q.2.2.1.cells.length) :
    (u = .slice none 0 0 → q.1 * z.bytes ≤ 140737488355328 → q.1 ≤ 140737488351232 →
      Does P F μ st W new (do pure (Next.value (← Builtin.append_ #[t, t] ty #[u, v]))) ⟨.sl new 0 q.1 z.size, [(new, some (joinB e (.pc e []) (sub q.2.1 (q.1 * z.size) q.2.2.1)))], q.2.2.2⟩) ∧
    (∀ (n b : Nat) (d : Blk) (rd : List Nat), st b = some d → d.el = e → d.cells.length = n * z.size → RepA (Mut F μ st) μ W (.sl b 0 n z.size) u → (n + q.1) * z.bytes ≤ 140737488355328 → n + q.1 ≤ 140737488351232 →
      Does P F μ st W new (do pure (Next.value (← Builtin.append_ #[t, t] ty #[u, v]))) ⟨.sl new 0 (n + q.1) z.size, [(b, none), (new, some (joinB e d (sub q.2.1 (q.1 * z.size) q.2.2.1)))], rd⟩) := by
  obtain ⟨x, cap, rfl, hx⟩ := view_row hS hq hv hl
  obtain ⟨news, hL, hnl, hnx⟩ := hx q.1 (Nat.le_refl _)
  have hsrc := src_of (P := P) (cap := cap) ((hT.facts hy).elem e he) hL hnl hnx
  constructor
  · rintro rfl h1 h2
    obtain ⟨v', W', μ', h⟩ := append_nil (ty := ty) (k := joinB e (.pc e []) (sub q.2.1 (q.1 * z.size) q.2.2.1)) hT hS hn hs hy he hz h0 hsrc (by rw [joinB_cells]; simpa [Blk.cells] using hL) (joinB_el _ _ _) h1 h2
    exact ⟨v', W', μ', h⟩
  · intro n b d rd hd hde hdl hu h1 h2
    exact append_own hT hS hn hs hy he hz h0 hsrc hL hd hdl hde hu (joinB_cells _ _ _) (joinB_el _ _ _) h1 h2
theorem does_copy (hT : TOK P T) (hS : RepS F μ st W) {t t' e : Nat} {y z : Ty} (hy : T t = some y) (he : y.elem = some e) (hz : T e = some z) {ty : TypeId} {a : AV} {v u : Value} {q : Nat × Nat × Blk × List Nat} (hq : viewA st a = some q) (hv : RepA (Mut F μ st) μ W a v)
    (hl : q.2.1 + q.1 * z.size ≤ q.2.2.1.cells.length) {n b o : Nat} {d : Blk} {rd : List Nat} (hd : st b = some d) (hdl : o + n * z.size ≤ d.cells.length) (hu : RepA (Mut F μ st) μ W (.sl b o n z.size) u) :
    Does P F μ st W new (do pure (Next.value (← Builtin.copy_ #[t, t'] ty #[u, v]))) ⟨.p (.v (.int .i64 (min q.1 n : Nat))), [(b, some (overB o (sub q.2.1 ((min q.1 n) * z.size) q.2.2.1) d))], rd⟩ := by
  have hF := hT.facts hz
  obtain ⟨i, zv, hi, his, hib, hzv, hzc⟩ := hF.info
  have hund := (hT.facts hy).elem e he
  obtain ⟨x, cap, rfl, hx⟩ := view_row hS hq hv hl
  obtain ⟨news, hL, hnl, hnx⟩ := hx (min q.1 n) (Nat.min_le_left _ _)
  have hfirst : (Builtin.firstCells i.size (min q.1 n) (.slice x q.1 cap)).run P W = .ok news.toArray W := by
    rcases hnx with ⟨rfl, hn0⟩ | ⟨p, rfl, hc⟩
    · obtain rfl : news = [] := List.eq_nil_of_length_eq_zero (by rw [hnl, hn0]; simp)
      rw [run_firstCells_none]
    · exact run_firstCells_some W i.size _ p _ _ news (by rw [his]; exact hnl) hc
  have hcl : (sub q.2.1 ((min q.1 n) * z.size) q.2.2.1).cells.length = (min q.1 n) * z.size := by rw [← hL.1, hnl]
  have hle : (min q.1 n) * z.size ≤ n * z.size := Nat.mul_le_mul_right _ (Nat.min_le_right _ _)
  have hover : (overB o (sub q.2.1 ((min q.1 n) * z.size) q.2.2.1) d).cells = lay o (sub q.2.1 ((min q.1 n) * z.size) q.2.2.1).cells d.cells := by
    rw [overB_cells, lay_eq _ _ _ (by rw [hcl]; omega)]
  have hmin : Nat.min q.1 n = min q.1 n := rfl
  rcases hu.sl_inv with ⟨rfl, rfl, rfl⟩ | ⟨B, cap', el, c, rfl, hB, hnc, hcm, hc, hcs⟩
  · have h0 : min q.1 0 = 0 := by omega
    obtain ⟨h1, h2⟩ := hS.same (k' := overB 0 (sub q.2.1 ((min q.1 0) * z.size) q.2.2.1) d) hd (by rw [hover, h0, sub_cells]; simp [lay]) (overB_el _ _ _)
    refine ⟨_, W, μ, .inl (run_v (v := .int .i64 (min q.1 0 : Nat)) ?_), h1, .p _ _ (.v _ rfl), h2, fun _ _ => rfl⟩
    rw [h0] at hfirst
    simp [Builtin.copy_, run_underlying hund, Builtin.lenOf, sizeOf, typeInfo, hi, hmin, hfirst, goInt]
  · obtain ⟨W', hr, hS', hE⟩ := hS.put (P := P) (o := o) hd hB hL (by rw [hcl]; omega) hover (overB_el _ _ _)
    refine ⟨_, W', μ, .inl (run_v (v := .int .i64 (min q.1 n : Nat)) ?_), hS', .p _ _ (.v _ rfl), hE, fun _ _ => rfl⟩
    simp [Builtin.copy_, run_underlying hund, Builtin.lenOf, sizeOf, typeInfo, hi, hmin, hfirst, goInt, hr]
end ops
end Go.Proofs.Ytiondkijgpjgcaa.Pw
