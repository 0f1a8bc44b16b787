/- The functions of the program as functions of values, part 7: a proof's lemmas, with no condition of their own. -/
import Derived.Test.YtiondkijgpjgcaaSac
import Derived.Test.YtiondkijgpjgcaaSaf
set_option linter.unusedVariables false
set_option linter.unusedSimpArgs false
namespace Go.Proofs.Ytiondkijgpjgcaa.Pw
open Go Go.RowKit
set_option maxHeartbeats 4000000
/-- Less than, so that the kernel sees it at lengths that are not told. -/
def ltI : Int → Int → Bool
  | .ofNat a, .ofNat b => Nat.ble (a + 1) b
  | .negSucc _, .ofNat _ => true
  | .ofNat _, .negSucc _ => false
  | .negSucc a, .negSucc b => Nat.ble (b + 1) a
theorem ltI_eq (a b : Int) : ltI a b = decide (a < b) := by
  rw [Bool.eq_iff_iff, decide_eq_true_eq]
  cases a <;> cases b <;> simp only [ltI, Nat.ble_eq, Int.ofNat_eq_natCast, Int.negSucc_eq, Bool.false_eq_true, true_iff, false_iff] <;> omega
theorem leI_eq (a b : Int) : (!ltI b a) = decide (a ≤ b) := by rw [ltI_eq, Bool.eq_iff_iff]; simp
def binB (op : BinOp) (k : IntKind) (a b : Int) : Option (Value × Bool) :=
  match op with
  | .add => some (.int k (k.wrap (a + b)), true)
  | .sub => some (.int k (k.wrap (a - b)), true)
  | .mul => some (.int k (k.wrap (a * b)), true)
  | .quo => some (.int k (k.wrap (a.tdiv b)), decide (b ≠ 0))
  | .rem => some (.int k (a.tmod b), decide (b ≠ 0))
  | .eql => some (.bool (decide (a = b)), true)
  | .neq => some (.bool (!decide (a = b)), true)
  | .lss => some (.bool (ltI a b), true)
  | .leq => some (.bool (!ltI b a), true)
  | .gtr => some (.bool (ltI b a), true)
  | .geq => some (.bool (!ltI a b), true)
  | _ => none
theorem ba_loop (a : ByteArray) : ∀ (k i : Nat) (r : List UInt8), a.size - i = k → ByteArray.toList.loop a i r = r.reverse ++ a.data.toList.drop i
  | 0, i, r, h => by
    rw [ByteArray.toList.loop, if_neg (by omega)]
    have : a.data.toList.length ≤ i := by
      have : a.data.toList.length = a.size := rfl
      omega
    rw [List.drop_eq_nil_of_le this, List.append_nil]
  | k + 1, i, r, h => by
    have hi : i < a.data.toList.length := by
      have : a.data.toList.length = a.size := rfl
      omega
    rw [ByteArray.toList.loop, if_pos (by omega), ba_loop a k (i + 1) _ (by omega), List.drop_eq_getElem_cons hi]
    have hg : a.get! i = a.data.toList[i] := by
      cases a with | mk d =>
      simp [ByteArray.get!]
      exact getElem!_pos d i (by simpa using hi)
    rw [hg, List.reverse_cons, List.append_assoc]
    rfl
theorem ba_toList (a : ByteArray) : a.toList = a.data.toList := by
  rw [ByteArray.toList, ba_loop a _ 0 [] rfl]; rfl
def strB (op : BinOp) (a b : ByteArray) : Option (Value × Bool) :=
  match op with
  | .add => some (.string (a ++ b), decide (((a.size + b.size : Nat) : Int) ≤ 9223372036854775807))
  | .eql => some (.bool (a.data.toList == b.data.toList), true)
  | .neq => some (.bool (!(a.data.toList == b.data.toList)), true)
  | _ => none
def pure1B (x : AV) : Option (Eff × Bool) := some (⟨x, [], []⟩, true)
def sliceB (zs : Nat) (x : AV) (lo hi : Option AV) : Option (Eff × Bool) :=
  match (match hi with | none => (lenA x) | some h => (ints h).map (fun q => q.2) : Option Int) with
  | none => none
  | some h =>
    match lo, x with
    | none, .sl b o n k => if k == zs then some (⟨.sl b o h.toNat k, [], []⟩, decide (0 ≤ h ∧ h ≤ n)) else none
    | some l, .sl b o n k => if k == zs then (ints l).bind fun l => some (⟨.sl b (o + l.2.toNat * k) (h - l.2).toNat k, [], []⟩, decide (0 ≤ l.2 ∧ l.2 < h ∧ h ≤ n)) else none
    | none, .p (.lst n cs) => some (⟨.p (.lst h.toNat (cs.take (h.toNat * zs))), [], []⟩, decide (0 ≤ h ∧ h ≤ n))
    | some l, .p (.lst n cs) => (ints l).bind fun l => some (⟨.p (.lst (h - l.2).toNat ((cs.drop (l.2.toNat * zs)).take ((h - l.2).toNat * zs))), [], []⟩, decide (0 ≤ l.2 ∧ l.2 ≤ h ∧ h ≤ n))
    | _, _ => none
def sliceSB (x : AV) (lo hi : Option AV) : Option (Eff × Bool) :=
  match x, lo, hi with
  | .p (.v (.string s)), some l, some h => (ints l).bind fun l => (ints h).bind fun h => some (⟨.p (.v (.string (s.extract l.2.toNat h.2.toNat))), [], []⟩, decide (0 ≤ l.2 ∧ l.2 ≤ h.2 ∧ h.2 ≤ s.size))
  | _, _, _ => none
def popB (T : Tab) (op : Op) (ρ : Operand → AV) (σ : Store) (new : Nat) : Option (Eff × Bool) :=
  match op with
  | .move x | .assign x => pure1B (ρ x)
  | .pick c a b =>
    match ρ c with
    | .p (.v (.bool t)) =>
      match ρ a, ρ b with
      | .p (.v (.bool x)), .p (.v (.bool y)) => pure1B (.p (.v (.bool (bif t then x else y))))
      | x, y => pure1B (bif t then x else y)
    | _ => none
  | .alloc e => (T e).bind fun y => some (⟨.own new 0, [(new, some (.pc e (y.zero.map .v)))], []⟩, true)
  | .box e x => if (ρ x).solid then some (⟨.own new 0, [(new, some (.mk e (ρ x).cells))], []⟩, true) else none
  | .build t parts => (T t).bind fun y => match y.arr with
    | some ne => (T ne.2).bind fun z => (fillA (fun i => some (i * z.size, z.size)) (y.zero.map fun z => .p (.v z)) (parts.toList.map fun x => (x.1, ρ x.2))).bind fun cs => pure1B (cells1 cs)
    | none => if y.agg && y.elem.isNone && !y.fields.isEmpty then
      (fillA (fun i => y.fields[i]?) (y.zero.map fun z => .p (.v z)) (parts.toList.map fun x => (x.1, ρ x.2))).bind fun cs => pure1B (cells1 cs) else none
  | .buildSlice t n parts => (T t).bind fun y => y.elem.bind fun e => (T e).bind fun z => if Nat.ble (n * z.size) 16777216 && Nat.ble n 16777216 && !(z.size == 0) then
      (fillA (fun i => some (i * z.size, z.size)) ((rep n (z.zero.map .v)).map .p) (parts.toList.map fun x => (x.1, ρ x.2))).bind fun cs => some (⟨.sl new 0 n z.size, [(new, some (.mk e cs))], []⟩, true) else none
  | .load t a => (T t).bind fun y => if y.size == 0 then none else
    match ρ a with
    | .own b o => (σ b).bind fun k => some (⟨cellsTo y.agg y.size o k, [], [b]⟩, decide (o + y.size ≤ k.cells.length ∧ (y.agg = false → y.size = 1)))
    | .p (.pt cs o) => some (⟨cellsTo y.agg y.size o (.pc 0 cs), [], []⟩, decide (o + y.size ≤ cs.length ∧ (y.agg = false → y.size = 1)))
    | _ => none
  | .store t a x => (T t).bind fun y => if (ρ x).solid && (ρ x).cells.length == y.size then
    match ρ a with
    | .own b o => (σ b).bind fun k => some (⟨.any, [(b, some (putIn o (ρ x).cells k))], [b]⟩, decide (o + y.size ≤ k.cells.length))
    | _ => none else none
  | .nilCheck x => match ρ x with | .own b o => pure1B (.own b o) | .p (.pt cs o) => pure1B (.p (.pt cs o)) | .fn f c => pure1B (.fn f c) | _ => none
  | .binOp op t x y _ =>
    match ρ x, ρ y with
    | .p (.v (.int k a)), .p (.v (.int k' b)) => if k = k' then (binB op k a b).bind fun r => some (⟨.p (.v r.1), [], []⟩, r.2) else none
    | .p (.v (.bool a)), .p (.v (.bool b)) => (T t).bind fun z => if z.bool then match op with | .eql => pure1B (.p (.v (.bool (a == b)))) | .neq => pure1B (.p (.v (.bool (!(a == b))))) | _ => none else none
    | .p (.v (.string a)), .p (.v (.string b)) => (strB op a b).bind fun r => some (⟨.p (.v r.1), [], []⟩, r.2)
    | _, _ => none
  | .unOp op _ x =>
    match op, ρ x with
    | .neg, .p (.v (.int k n)) => pure1B (.p (.v (.int k (k.wrap (0 - n)))))
    | .not, .p (.v (.bool b)) => pure1B (.p (.v (.bool !b)))
    | _, _ => none
  | .convert src dst x => (T src).bind fun y => (T dst).bind fun z =>
    match z.int, ρ x with
    | some k, .p (.v (.int _ n)) => pure1B (.p (.v (.int k (k.wrap n))))
    | _, _ => none
  | .makeFunc (.func f) first caps => if first.size == 0 then pure1B (.fn f (caps.toList.map ρ)) else none
  | .makeSlice t l c => (T t).bind fun y => y.elem.bind fun e => (T e).bind fun z => if z.size == 0 then none else
    match ρ l, ρ c with
    | .p (.v (.int _ n)), .p (.v (.int _ m)) => some (⟨.sl new 0 n.toNat z.size, [(new, some (.pc e (rep n.toNat (z.zero.map .v))))], []⟩, decide (n = m ∧ 0 ≤ n ∧ (z.bytes : Int) * n ≤ 281474976710656 ∧ n ≤ 9223372036854775807))
    | _, _ => none
  | .slice t x lo hi none => (T t).bind fun y => if y.str then sliceSB (ρ x) (lo.map ρ) (hi.map ρ) else y.elem.bind fun e => (T e).bind fun z => sliceB z.size (ρ x) (lo.map ρ) (hi.map ρ)
  | .fieldAddr s x f => (T s).bind fun y => (y.fields[f]?).bind fun f => if f.2 == 0 then none else
    match ρ x with
    | .own b o => pure1B (.own b (o + f.1))
    | .p (.pt cs o) => pure1B (.p (.pt cs (o + f.1)))
    | _ => none
  | .field s x f => (T s).bind fun y => (y.fields[f]?).bind fun q => (y.fagg[f]?).bind fun ag => if q.2 == 0 then none else
    match ρ x with
    | .p (.agg cs) => some (⟨cellsTo ag q.2 q.1 (.pc 0 cs), [], []⟩, decide (q.1 + q.2 ≤ cs.length ∧ (ag = false → q.2 = 1)))
    | .agg cs => some (⟨cellsTo ag q.2 q.1 (.mc 0 cs), [], []⟩, decide (q.1 + q.2 ≤ cs.length ∧ (ag = false → q.2 = 1)))
    | _ => none
  | .indexAddr t x i => (T t).bind fun y => match y.arr with
    | some ne => (T ne.2).bind fun z => (ints (ρ i)).bind fun i =>
      match ρ x with
      | .own b o => some (⟨.own b (o + i.2.toNat * z.size), [], []⟩, decide (0 ≤ i.2 ∧ i.2 < ne.1))
      | .p (.pt cs o) => some (⟨.p (.pt cs (o + i.2.toNat * z.size)), [], []⟩, decide (0 ≤ i.2 ∧ i.2 < ne.1))
      | _ => none
    | none => y.elem.bind fun e => (T e).bind fun z => (ints (ρ i)).bind fun i =>
    match ρ x with
    | .p (.lst n cs) => some (⟨.p (.pt cs (i.2.toNat * z.size)), [], []⟩, decide (0 ≤ i.2 ∧ i.2 < n ∧ i.2.toNat * z.size < cs.length))
    | .sl b o n k => if k == z.size then some (⟨.own b (o + i.2.toNat * k), [], []⟩, decide (0 ≤ i.2 ∧ i.2 < n)) else none
    | _ => none
  | .index t x i => (T t).bind fun y => if y.str then (ints (ρ i)).bind fun i =>
    match ρ x with
    | .p (.v (.string s)) => some (⟨.p (.v (.int .u8 ((s.data.toList.getD i.2.toNat 0).toNat : Int))), [], []⟩, decide (0 ≤ i.2 ∧ i.2 < s.size))
    | _ => none else match y.arr with
    | some ne => (T ne.2).bind fun z => (ints (ρ i)).bind fun i =>
      match ρ x with
      | .p (.agg cs) => some (⟨cellsTo z.agg z.size (i.2.toNat * z.size) (.pc 0 cs), [], []⟩, decide (0 ≤ i.2 ∧ i.2 < ne.1 ∧ i.2.toNat * z.size + z.size ≤ cs.length ∧ (z.agg = false → z.size = 1)))
      | .agg cs => some (⟨cellsTo z.agg z.size (i.2.toNat * z.size) (.mc 0 cs), [], []⟩, decide (0 ≤ i.2 ∧ i.2 < ne.1 ∧ i.2.toNat * z.size + z.size ≤ cs.length ∧ (z.agg = false → z.size = 1)))
      | _ => none
    | none => none
  | .extract t i =>
    match ρ t with
    | .p (.tup cs) => some (⟨.p (cs.getD i default), [], []⟩, decide (i < cs.length))
    | .tup cs => some (⟨cs.getD i .any, [], []⟩, decide (i < cs.length))
    | _ => none
  | .call { callee := .builtin .len, args, argTypes } => match args.toList, argTypes.toList with
    | [x], [t] => (T t).bind fun y => match y.elem, ρ x with
      | some _, .p (.lst n _) | some _, .sl _ _ n _ => pure1B (.p (.v (.int .i64 n)))
      | some _, .p (.v (.slice none 0 0)) => pure1B (.p (.v (.int .i64 0)))
      | none, .p (.v (.string s)) => if y.str then pure1B (.p (.v (.int .i64 s.size))) else none
      | _, _ => none
    | _, _ => none
  | .call { callee := .builtin .max, args, .. } => match args.toList with
    | [x, y] => (ints (ρ x)).bind fun a => (ints (ρ y)).bind fun b => pure1B (.p (.v (.int a.1 (if b.2 > a.2 then b.2 else a.2))))
    | _ => none
  | .call { callee := .builtin .min, args, .. } => match args.toList with
    | [x, y] => (ints (ρ x)).bind fun a => (ints (ρ y)).bind fun b => pure1B (.p (.v (.int a.1 (if b.2 < a.2 then b.2 else a.2))))
    | _ => none
  | .call { callee := .builtin .append, args, argTypes } => match args.toList, argTypes.toList with
    | [x, y], [t, t'] => if t == t' then (T t).bind fun u => u.elem.bind fun e => (T e).bind fun z => if z.size == 0 then none else
      (viewA σ (ρ y)).bind fun src =>
      match ρ x with
      | .p (.v (.slice none 0 0)) => some (⟨.sl new 0 src.1 z.size, [(new, some (joinB e (.pc e []) (sub src.2.1 (src.1 * z.size) src.2.2.1)))], src.2.2.2⟩, decide (src.2.1 + src.1 * z.size ≤ src.2.2.1.cells.length ∧ src.1 * z.bytes ≤ 140737488355328 ∧ src.1 ≤ 140737488351232))
      | .sl b 0 n k => if k == z.size && !(src.2.2.2.contains b) then (σ b).bind fun d => if d.el == e then some (⟨.sl new 0 (n + src.1) k, [(b, none), (new, some (joinB e d (sub src.2.1 (src.1 * z.size) src.2.2.1)))], b :: src.2.2.2⟩, decide (d.cells.length = n * k ∧ src.2.1 + src.1 * z.size ≤ src.2.2.1.cells.length ∧ (n + src.1) * z.bytes ≤ 140737488355328 ∧ n + src.1 ≤ 140737488351232)) else none else none
      | _ => none else none
    | _, _ => none
  | .call { callee := .builtin .copy, args, argTypes } => match args.toList, argTypes.toList with
    | [x, y], [t, _] => (T t).bind fun u => u.elem.bind fun e => (T e).bind fun z => if z.size == 0 then none else
      (viewA σ (ρ y)).bind fun src =>
      match ρ x with
      | .sl b o n k => if k == z.size && !(src.2.2.2.contains b) then (σ b).bind fun d => some (⟨.p (.v (.int .i64 (min src.1 n : Nat))), [(b, some (overB o (sub src.2.1 ((min src.1 n) * z.size) src.2.2.1) d))], b :: src.2.2.2⟩, decide (src.2.1 + src.1 * z.size ≤ src.2.2.1.cells.length ∧ o + n * k ≤ d.cells.length)) else none
      | _ => none
    | _, _ => none
  | _ => none

def okd (x : Option (Eff × Bool)) : Option (Eff × Prop) := x.map fun q => (q.1, q.2 = true)
theorem okd_bind {α : Type} (x : Option α) (f : α → Option (Eff × Bool)) : okd (x.bind f) = x.bind fun a => okd (f a) := by cases x <;> rfl
theorem okd_some (e : Eff) (b : Bool) : okd (some (e, b)) = some (e, b = true) := rfl
theorem okd_none : okd none = none := rfl
theorem okd_dec (e : Eff) (c : Prop) [d : Decidable c] : okd (some (e, decide c)) = some (e, c) := by simp [okd]
theorem okd_ite (c : Prop) [Decidable c] (a b : Option (Eff × Bool)) : okd (if c then a else b) = if c then okd a else okd b := by split <;> rfl
theorem okd_pure (x : AV) : okd (pure1B x) = pure1 x := by simp [pure1, pure1B, okd]
theorem binA_eq (op : BinOp) (k : IntKind) (a b : Int) : (binA op k a b) = (binB op k a b).map fun q => (q.1, q.2 = true) := by
  cases op <;> simp [binA, binB, leI_eq] <;> simp [ltI_eq]
theorem strA_eq (op : BinOp) (a b : ByteArray) : (strA op a b) = (strB op a b).map fun q => (q.1, q.2 = true) := by
  cases op <;> simp [strA, strB, ba_toList]
theorem okd_bin (op : BinOp) (k : IntKind) (a b : Int) : okd ((binB op k a b).bind fun r => some (⟨.p (.v r.1), [], []⟩, r.2)) = (binA op k a b).bind fun r => some (⟨.p (.v r.1), [], []⟩, r.2) := by
  rw [binA_eq, okd_bind]; cases binB op k a b <;> rfl
theorem okd_str (op : BinOp) (a b : ByteArray) : okd ((strB op a b).bind fun r => some (⟨.p (.v r.1), [], []⟩, r.2)) = (strA op a b).bind fun r => some (⟨.p (.v r.1), [], []⟩, r.2) := by
  rw [strA_eq, okd_bind]; cases strB op a b <;> rfl
theorem bind_congr' {α β : Type} {x : Option α} {f g : α → Option β} (h : ∀ a, f a = g a) : x.bind f = x.bind g := by rw [funext h]
theorem ite_congr' {α : Type} {c : Prop} [Decidable c] {a b a' b' : α} (h1 : a = a') (h2 : b = b') : (if c then a else b) = if c then a' else b' := by rw [h1, h2]
theorem sliceS_eq (x : AV) (lo hi : Option AV) : sliceS x lo hi = okd (sliceSB x lo hi) := by
  unfold sliceS sliceSB
  split
  · rw [okd_bind]; refine bind_congr' fun _ => ?_
    rw [okd_bind]; refine bind_congr' fun _ => ?_
    exact (okd_dec _ _).symm
  · rename_i hx
    split
    · exact (hx _ _ _ rfl rfl rfl).elim
    · rfl
theorem sliceA_eq (zs : Nat) (x : AV) (lo hi : Option AV) : sliceA zs x lo hi = okd (sliceB zs x lo hi) := by
  have key : ∀ (h : Option Int), (match h with
    | none => none
    | some h =>
    match lo, x with
    | none, .sl b o n k => if k == zs then some ((⟨.sl b o h.toNat k, [], []⟩ : Eff), 0 ≤ h ∧ h ≤ n) else none
    | some l, .sl b o n k => if k == zs then (ints l).bind fun l => some (⟨.sl b (o + l.2.toNat * k) (h - l.2).toNat k, [], []⟩, 0 ≤ l.2 ∧ l.2 < h ∧ h ≤ n) else none
    | none, .p (.lst n cs) => some (⟨.p (.lst h.toNat (cs.take (h.toNat * zs))), [], []⟩, 0 ≤ h ∧ h ≤ n)
    | some l, .p (.lst n cs) => (ints l).bind fun l => some (⟨.p (.lst (h - l.2).toNat ((cs.drop (l.2.toNat * zs)).take ((h - l.2).toNat * zs))), [], []⟩, 0 ≤ l.2 ∧ l.2 ≤ h ∧ h ≤ n)
    | _, _ => none) = okd (match h with
    | none => none
    | some h =>
    match lo, x with
    | none, .sl b o n k => if k == zs then some (⟨.sl b o h.toNat k, [], []⟩, decide (0 ≤ h ∧ h ≤ n)) else none
    | some l, .sl b o n k => if k == zs then (ints l).bind fun l => some (⟨.sl b (o + l.2.toNat * k) (h - l.2).toNat k, [], []⟩, decide (0 ≤ l.2 ∧ l.2 < h ∧ h ≤ n)) else none
    | none, .p (.lst n cs) => some (⟨.p (.lst h.toNat (cs.take (h.toNat * zs))), [], []⟩, decide (0 ≤ h ∧ h ≤ n))
    | some l, .p (.lst n cs) => (ints l).bind fun l => some (⟨.p (.lst (h - l.2).toNat ((cs.drop (l.2.toNat * zs)).take ((h - l.2).toNat * zs))), [], []⟩, decide (0 ≤ l.2 ∧ l.2 ≤ h ∧ h ≤ n))
    | _, _ => none) := by
    intro h
    rcases h with _ | h
    · rfl
    · rcases lo with _ | l <;> rcases x with _ | x | _ | _ | _ | _ | _ <;> (try rfl) <;> (try (rcases x with _ | _ | _ | _ | _)) <;> (try rfl) <;> simp only [okd_ite, okd_bind, okd_dec, okd_none]
  exact key _
theorem pop_eq (T : Tab) (op : Op) (ρ : Operand → AV) (σ : Store) (new : Nat) : pop T op ρ σ new = okd (popB T op ρ σ new) := by
  cases op
  case move x => simp only [pop, popB, okd_pure]
  case assign x => simp only [pop, popB, okd_pure]
  case pick c a b => simp only [pop, popB]; generalize ρ c = x; generalize ρ a = y; generalize ρ b = z; (repeat' (first | rfl | (exfalso; rename_i hx; first | exact hx _ _ _ _ rfl rfl | exact hx _ _ rfl rfl | exact hx _ _ _ rfl | exact hx _ _ rfl | exact hx _ _ _ rfl rfl | exact hx _ rfl | exact hx _ _ _ _ _ rfl rfl | exact hx _ _ _ _ _ _ rfl rfl) | exact (okd_dec _ _).symm | exact (okd_pure _).symm | exact (okd_bin _ _ _ _).symm | exact (okd_str _ _ _).symm | exact okd_none.symm | (with_reducible refine Eq.trans ?_ (okd_ite _ _ _).symm) | (with_reducible refine Eq.trans ?_ (okd_bind _ _).symm) | (refine bind_congr' fun _ => ?_) | (refine ite_congr' ?_ ?_) | split)) <;> (try (exfalso; solve_by_elim [rfl])) <;> (try simp_all [okd_pure, okd_none])
  case alloc e => simp only [pop, popB]; (repeat' (first | rfl | (exfalso; rename_i hx; first | exact hx _ _ _ _ rfl rfl | exact hx _ _ rfl rfl | exact hx _ _ _ rfl | exact hx _ _ rfl | exact hx _ _ _ rfl rfl | exact hx _ rfl | exact hx _ _ _ _ _ rfl rfl | exact hx _ _ _ _ _ _ rfl rfl) | exact (okd_dec _ _).symm | exact (okd_pure _).symm | exact (okd_bin _ _ _ _).symm | exact (okd_str _ _ _).symm | exact okd_none.symm | (with_reducible refine Eq.trans ?_ (okd_ite _ _ _).symm) | (with_reducible refine Eq.trans ?_ (okd_bind _ _).symm) | (refine bind_congr' fun _ => ?_) | (refine ite_congr' ?_ ?_) | split)) <;> (try (exfalso; solve_by_elim [rfl])) <;> (try simp_all [okd_pure, okd_none])
  case box e x => simp only [pop, popB]; (repeat' (first | rfl | (exfalso; rename_i hx; first | exact hx _ _ _ _ rfl rfl | exact hx _ _ rfl rfl | exact hx _ _ _ rfl | exact hx _ _ rfl | exact hx _ _ _ rfl rfl | exact hx _ rfl | exact hx _ _ _ _ _ rfl rfl | exact hx _ _ _ _ _ _ rfl rfl) | exact (okd_dec _ _).symm | exact (okd_pure _).symm | exact (okd_bin _ _ _ _).symm | exact (okd_str _ _ _).symm | exact okd_none.symm | (with_reducible refine Eq.trans ?_ (okd_ite _ _ _).symm) | (with_reducible refine Eq.trans ?_ (okd_bind _ _).symm) | (refine bind_congr' fun _ => ?_) | (refine ite_congr' ?_ ?_) | split)) <;> (try (exfalso; solve_by_elim [rfl])) <;> (try simp_all [okd_pure, okd_none])
  case build t ps => simp only [pop, popB]; refine Eq.trans ?_ (okd_bind _ _).symm; refine bind_congr' fun y => ?_; generalize y.arr = r; cases r <;> dsimp only <;> ((repeat' (first | rfl | (exfalso; rename_i hx; first | exact hx _ _ _ _ rfl rfl | exact hx _ _ rfl rfl | exact hx _ _ _ rfl | exact hx _ _ rfl | exact hx _ _ _ rfl rfl | exact hx _ rfl | exact hx _ _ _ _ _ rfl rfl | exact hx _ _ _ _ _ _ rfl rfl) | exact (okd_dec _ _).symm | exact (okd_pure _).symm | exact (okd_bin _ _ _ _).symm | exact (okd_str _ _ _).symm | exact okd_none.symm | (with_reducible refine Eq.trans ?_ (okd_ite _ _ _).symm) | (with_reducible refine Eq.trans ?_ (okd_bind _ _).symm) | (refine bind_congr' fun _ => ?_) | (refine ite_congr' ?_ ?_) | split)) <;> (try (exfalso; solve_by_elim [rfl])) <;> (try simp_all [okd_pure, okd_none]))
  case buildSlice t n ps => simp only [pop, popB]; (repeat' (first | rfl | (exfalso; rename_i hx; first | exact hx _ _ _ _ rfl rfl | exact hx _ _ rfl rfl | exact hx _ _ _ rfl | exact hx _ _ rfl | exact hx _ _ _ rfl rfl | exact hx _ rfl | exact hx _ _ _ _ _ rfl rfl | exact hx _ _ _ _ _ _ rfl rfl) | exact (okd_dec _ _).symm | exact (okd_pure _).symm | exact (okd_bin _ _ _ _).symm | exact (okd_str _ _ _).symm | exact okd_none.symm | (with_reducible refine Eq.trans ?_ (okd_ite _ _ _).symm) | (with_reducible refine Eq.trans ?_ (okd_bind _ _).symm) | (refine bind_congr' fun _ => ?_) | (refine ite_congr' ?_ ?_) | split)) <;> (try (exfalso; solve_by_elim [rfl])) <;> (try simp_all [okd_pure, okd_none])
  case load t a => simp only [pop, popB]; generalize ρ a = x; (repeat' (first | rfl | (exfalso; rename_i hx; first | exact hx _ _ _ _ rfl rfl | exact hx _ _ rfl rfl | exact hx _ _ _ rfl | exact hx _ _ rfl | exact hx _ _ _ rfl rfl | exact hx _ rfl | exact hx _ _ _ _ _ rfl rfl | exact hx _ _ _ _ _ _ rfl rfl) | exact (okd_dec _ _).symm | exact (okd_pure _).symm | exact (okd_bin _ _ _ _).symm | exact (okd_str _ _ _).symm | exact okd_none.symm | (with_reducible refine Eq.trans ?_ (okd_ite _ _ _).symm) | (with_reducible refine Eq.trans ?_ (okd_bind _ _).symm) | (refine bind_congr' fun _ => ?_) | (refine ite_congr' ?_ ?_) | split)) <;> (try (exfalso; solve_by_elim [rfl])) <;> (try simp_all [okd_pure, okd_none])
  case store t a v => simp only [pop, popB]; generalize ρ a = x; generalize ρ v = y; (repeat' (first | rfl | (exfalso; rename_i hx; first | exact hx _ _ _ _ rfl rfl | exact hx _ _ rfl rfl | exact hx _ _ _ rfl | exact hx _ _ rfl | exact hx _ _ _ rfl rfl | exact hx _ rfl | exact hx _ _ _ _ _ rfl rfl | exact hx _ _ _ _ _ _ rfl rfl) | exact (okd_dec _ _).symm | exact (okd_pure _).symm | exact (okd_bin _ _ _ _).symm | exact (okd_str _ _ _).symm | exact okd_none.symm | (with_reducible refine Eq.trans ?_ (okd_ite _ _ _).symm) | (with_reducible refine Eq.trans ?_ (okd_bind _ _).symm) | (refine bind_congr' fun _ => ?_) | (refine ite_congr' ?_ ?_) | split)) <;> (try (exfalso; solve_by_elim [rfl])) <;> (try simp_all [okd_pure, okd_none])
  case nilCheck x => simp only [pop, popB]; generalize ρ x = y; (repeat' (first | rfl | (exfalso; rename_i hx; first | exact hx _ _ _ _ rfl rfl | exact hx _ _ rfl rfl | exact hx _ _ _ rfl | exact hx _ _ rfl | exact hx _ _ _ rfl rfl | exact hx _ rfl | exact hx _ _ _ _ _ rfl rfl | exact hx _ _ _ _ _ _ rfl rfl) | exact (okd_dec _ _).symm | exact (okd_pure _).symm | exact (okd_bin _ _ _ _).symm | exact (okd_str _ _ _).symm | exact okd_none.symm | (with_reducible refine Eq.trans ?_ (okd_ite _ _ _).symm) | (with_reducible refine Eq.trans ?_ (okd_bind _ _).symm) | (refine bind_congr' fun _ => ?_) | (refine ite_congr' ?_ ?_) | split)) <;> (try (exfalso; solve_by_elim [rfl])) <;> (try simp_all [okd_pure, okd_none])
  case binOp op t x y t2 => simp only [pop, popB]; generalize ρ x = u; generalize ρ y = v; (repeat' (first | rfl | (exfalso; rename_i hx; first | exact hx _ _ _ _ rfl rfl | exact hx _ _ rfl rfl | exact hx _ _ _ rfl | exact hx _ _ rfl | exact hx _ _ _ rfl rfl | exact hx _ rfl | exact hx _ _ _ _ _ rfl rfl | exact hx _ _ _ _ _ _ rfl rfl) | exact (okd_dec _ _).symm | exact (okd_pure _).symm | exact (okd_bin _ _ _ _).symm | exact (okd_str _ _ _).symm | exact okd_none.symm | (with_reducible refine Eq.trans ?_ (okd_ite _ _ _).symm) | (with_reducible refine Eq.trans ?_ (okd_bind _ _).symm) | (refine bind_congr' fun _ => ?_) | (refine ite_congr' ?_ ?_) | split)) <;> (try (exfalso; solve_by_elim [rfl])) <;> (try simp_all [okd_pure, okd_none])
  case unOp op t x => simp only [pop, popB]; generalize ρ x = u; (repeat' (first | rfl | (exfalso; rename_i hx; first | exact hx _ _ _ _ rfl rfl | exact hx _ _ rfl rfl | exact hx _ _ _ rfl | exact hx _ _ rfl | exact hx _ _ _ rfl rfl | exact hx _ rfl | exact hx _ _ _ _ _ rfl rfl | exact hx _ _ _ _ _ _ rfl rfl) | exact (okd_dec _ _).symm | exact (okd_pure _).symm | exact (okd_bin _ _ _ _).symm | exact (okd_str _ _ _).symm | exact okd_none.symm | (with_reducible refine Eq.trans ?_ (okd_ite _ _ _).symm) | (with_reducible refine Eq.trans ?_ (okd_bind _ _).symm) | (refine bind_congr' fun _ => ?_) | (refine ite_congr' ?_ ?_) | split)) <;> (try (exfalso; solve_by_elim [rfl])) <;> (try simp_all [okd_pure, okd_none])
  case convert s d x => simp only [pop, popB]; generalize ρ x = u; (repeat' (first | rfl | (exfalso; rename_i hx; first | exact hx _ _ _ _ rfl rfl | exact hx _ _ rfl rfl | exact hx _ _ _ rfl | exact hx _ _ rfl | exact hx _ _ _ rfl rfl | exact hx _ rfl | exact hx _ _ _ _ _ rfl rfl | exact hx _ _ _ _ _ _ rfl rfl) | exact (okd_dec _ _).symm | exact (okd_pure _).symm | exact (okd_bin _ _ _ _).symm | exact (okd_str _ _ _).symm | exact okd_none.symm | (with_reducible refine Eq.trans ?_ (okd_ite _ _ _).symm) | (with_reducible refine Eq.trans ?_ (okd_bind _ _).symm) | (refine bind_congr' fun _ => ?_) | (refine ite_congr' ?_ ?_) | split)) <;> (try (exfalso; solve_by_elim [rfl])) <;> (try simp_all [okd_pure, okd_none])
  case makeFunc f a b => cases f <;> simp only [pop, popB] <;> (repeat' (first | rfl | (exfalso; rename_i hx; first | exact hx _ _ _ _ rfl rfl | exact hx _ _ rfl rfl | exact hx _ _ _ rfl | exact hx _ _ rfl | exact hx _ _ _ rfl rfl | exact hx _ rfl | exact hx _ _ _ _ _ rfl rfl | exact hx _ _ _ _ _ _ rfl rfl) | exact (okd_dec _ _).symm | exact (okd_pure _).symm | exact (okd_bin _ _ _ _).symm | exact (okd_str _ _ _).symm | exact okd_none.symm | (with_reducible refine Eq.trans ?_ (okd_ite _ _ _).symm) | (with_reducible refine Eq.trans ?_ (okd_bind _ _).symm) | (refine bind_congr' fun _ => ?_) | (refine ite_congr' ?_ ?_) | split)) <;> (try (exfalso; solve_by_elim [rfl])) <;> (try simp_all [okd_pure, okd_none])
  case makeSlice t l c => simp only [pop, popB]; generalize ρ l = u; generalize ρ c = v; (repeat' (first | rfl | (exfalso; rename_i hx; first | exact hx _ _ _ _ rfl rfl | exact hx _ _ rfl rfl | exact hx _ _ _ rfl | exact hx _ _ rfl | exact hx _ _ _ rfl rfl | exact hx _ rfl | exact hx _ _ _ _ _ rfl rfl | exact hx _ _ _ _ _ _ rfl rfl) | exact (okd_dec _ _).symm | exact (okd_pure _).symm | exact (okd_bin _ _ _ _).symm | exact (okd_str _ _ _).symm | exact okd_none.symm | (with_reducible refine Eq.trans ?_ (okd_ite _ _ _).symm) | (with_reducible refine Eq.trans ?_ (okd_bind _ _).symm) | (refine bind_congr' fun _ => ?_) | (refine ite_congr' ?_ ?_) | split)) <;> (try (exfalso; solve_by_elim [rfl])) <;> (try simp_all [okd_pure, okd_none])
  case slice t x lo hi mx => cases mx <;> simp only [pop, popB, sliceA_eq, sliceS_eq] <;> (repeat' (first | rfl | (exfalso; rename_i hx; first | exact hx _ _ _ _ rfl rfl | exact hx _ _ rfl rfl | exact hx _ _ _ rfl | exact hx _ _ rfl | exact hx _ _ _ rfl rfl | exact hx _ rfl | exact hx _ _ _ _ _ rfl rfl | exact hx _ _ _ _ _ _ rfl rfl) | exact (okd_dec _ _).symm | exact (okd_pure _).symm | exact (okd_bin _ _ _ _).symm | exact (okd_str _ _ _).symm | exact okd_none.symm | (with_reducible refine Eq.trans ?_ (okd_ite _ _ _).symm) | (with_reducible refine Eq.trans ?_ (okd_bind _ _).symm) | (refine bind_congr' fun _ => ?_) | (refine ite_congr' ?_ ?_) | split)) <;> (try (exfalso; solve_by_elim [rfl])) <;> (try simp_all [okd_pure, okd_none])
  case fieldAddr s x f => simp only [pop, popB]; generalize ρ x = u; (repeat' (first | rfl | (exfalso; rename_i hx; first | exact hx _ _ _ _ rfl rfl | exact hx _ _ rfl rfl | exact hx _ _ _ rfl | exact hx _ _ rfl | exact hx _ _ _ rfl rfl | exact hx _ rfl | exact hx _ _ _ _ _ rfl rfl | exact hx _ _ _ _ _ _ rfl rfl) | exact (okd_dec _ _).symm | exact (okd_pure _).symm | exact (okd_bin _ _ _ _).symm | exact (okd_str _ _ _).symm | exact okd_none.symm | (with_reducible refine Eq.trans ?_ (okd_ite _ _ _).symm) | (with_reducible refine Eq.trans ?_ (okd_bind _ _).symm) | (refine bind_congr' fun _ => ?_) | (refine ite_congr' ?_ ?_) | split)) <;> (try (exfalso; solve_by_elim [rfl])) <;> (try simp_all [okd_pure, okd_none])
  case field s x f => simp only [pop, popB]; generalize ρ x = u; (repeat' (first | rfl | (exfalso; rename_i hx; first | exact hx _ _ _ _ rfl rfl | exact hx _ _ rfl rfl | exact hx _ _ _ rfl | exact hx _ _ rfl | exact hx _ _ _ rfl rfl | exact hx _ rfl | exact hx _ _ _ _ _ rfl rfl | exact hx _ _ _ _ _ _ rfl rfl) | exact (okd_dec _ _).symm | exact (okd_pure _).symm | exact (okd_bin _ _ _ _).symm | exact (okd_str _ _ _).symm | exact okd_none.symm | (with_reducible refine Eq.trans ?_ (okd_ite _ _ _).symm) | (with_reducible refine Eq.trans ?_ (okd_bind _ _).symm) | (refine bind_congr' fun _ => ?_) | (refine ite_congr' ?_ ?_) | split)) <;> (try (exfalso; solve_by_elim [rfl])) <;> (try simp_all [okd_pure, okd_none])
  case indexAddr t x i => simp only [pop, popB]; generalize ρ x = u; generalize ρ i = v; refine Eq.trans ?_ (okd_bind _ _).symm; refine bind_congr' fun y => ?_; generalize y.arr = r; cases r <;> dsimp only <;> ((repeat' (first | rfl | (exfalso; rename_i hx; first | exact hx _ _ _ _ rfl rfl | exact hx _ _ rfl rfl | exact hx _ _ _ rfl | exact hx _ _ rfl | exact hx _ _ _ rfl rfl | exact hx _ rfl | exact hx _ _ _ _ _ rfl rfl | exact hx _ _ _ _ _ _ rfl rfl) | exact (okd_dec _ _).symm | exact (okd_pure _).symm | exact (okd_bin _ _ _ _).symm | exact (okd_str _ _ _).symm | exact okd_none.symm | (with_reducible refine Eq.trans ?_ (okd_ite _ _ _).symm) | (with_reducible refine Eq.trans ?_ (okd_bind _ _).symm) | (refine bind_congr' fun _ => ?_) | (refine ite_congr' ?_ ?_) | split)) <;> (try (exfalso; solve_by_elim [rfl])) <;> (try simp_all [okd_pure, okd_none]))
  case index t x i => simp only [pop, popB]; generalize ρ x = u; generalize ρ i = v; refine Eq.trans ?_ (okd_bind _ _).symm; refine bind_congr' fun y => ?_; generalize y.arr = r; cases r <;> dsimp only <;> ((repeat' (first | rfl | (exfalso; rename_i hx; first | exact hx _ _ _ _ rfl rfl | exact hx _ _ rfl rfl | exact hx _ _ _ rfl | exact hx _ _ rfl | exact hx _ _ _ rfl rfl | exact hx _ rfl | exact hx _ _ _ _ _ rfl rfl | exact hx _ _ _ _ _ _ rfl rfl) | exact (okd_dec _ _).symm | exact (okd_pure _).symm | exact (okd_bin _ _ _ _).symm | exact (okd_str _ _ _).symm | exact okd_none.symm | (with_reducible refine Eq.trans ?_ (okd_ite _ _ _).symm) | (with_reducible refine Eq.trans ?_ (okd_bind _ _).symm) | (refine bind_congr' fun _ => ?_) | (refine ite_congr' ?_ ?_) | split)) <;> (try (exfalso; solve_by_elim [rfl])) <;> (try simp_all [okd_pure, okd_none]))
  case extract t i => simp only [pop, popB]; generalize ρ t = u; (repeat' (first | rfl | (exfalso; rename_i hx; first | exact hx _ _ _ _ rfl rfl | exact hx _ _ rfl rfl | exact hx _ _ _ rfl | exact hx _ _ rfl | exact hx _ _ _ rfl rfl | exact hx _ rfl | exact hx _ _ _ _ _ rfl rfl | exact hx _ _ _ _ _ _ rfl rfl) | exact (okd_dec _ _).symm | exact (okd_pure _).symm | exact (okd_bin _ _ _ _).symm | exact (okd_str _ _ _).symm | exact okd_none.symm | (with_reducible refine Eq.trans ?_ (okd_ite _ _ _).symm) | (with_reducible refine Eq.trans ?_ (okd_bind _ _).symm) | (refine bind_congr' fun _ => ?_) | (refine ite_congr' ?_ ?_) | split)) <;> (try (exfalso; solve_by_elim [rfl])) <;> (try simp_all [okd_pure, okd_none])
  case call c =>
    obtain ⟨callee, args, ts⟩ := c
    cases callee with
    | value f => rfl
    | invoke r m => rfl
    | builtin b =>
      generalize hargs : args.toList = avs
      generalize hts : ts.toList = tl
      cases b <;> (try rfl) <;> simp only [pop, popB, hargs, hts]
      all_goals (rcases avs with _ | ⟨x, _ | ⟨y, _ | ⟨z, avs⟩⟩⟩ <;> (try rfl) <;> (try dsimp only))
      all_goals (try (rcases tl with _ | ⟨t, _ | ⟨t', _ | ⟨t'', tl⟩⟩⟩ <;> (try rfl) <;> (try dsimp only)))
      all_goals (try generalize ρ x = u)
      all_goals (try generalize viewA σ (ρ y) = vw)
      all_goals (try generalize ρ y = v)
      all_goals (repeat' (first | rfl | (exfalso; rename_i hx; first | exact hx _ _ _ _ rfl rfl | exact hx _ _ rfl rfl | exact hx _ _ _ rfl | exact hx _ _ rfl | exact hx _ _ _ rfl rfl | exact hx _ rfl | exact hx _ _ _ _ _ rfl rfl | exact hx _ _ _ _ _ _ rfl rfl) | exact (okd_dec _ _).symm | exact (okd_pure _).symm | exact okd_none.symm | (with_reducible refine Eq.trans ?_ (okd_ite _ _ _).symm) | (with_reducible refine Eq.trans ?_ (okd_bind _ _).symm) | (refine bind_congr' fun _ => ?_) | (refine ite_congr' ?_ ?_) | split)) <;> (try (exfalso; solve_by_elim [rfl])) <;> (try simp_all [okd_pure, okd_none])
  all_goals rfl
end Go.Proofs.Ytiondkijgpjgcaa.Pw
namespace Go.Proofs.Ytiondkijgpjgcaa.Pw
open Go Go.RowKit
abbrev Told := Nat × List PV × PV
def Good (P : Program) (c : Told) : Prop := Sound P c.1 c.2.1 c.2.2
abbrev CallX := Nat → List AV → Stores → Nat → List PV → Option (Eff × List PV × List Told)
def CallOK (P : Program) (D : Nat) (cx : CallX) : Prop := ∀ g args st new tp r, cx g args st new tp = some r → (∀ c ∈ r.2.2, Good P c) → SoundE P D g args (get st) new r.1
def stepX (cx : CallX) (T : Tab) (ops : List Oper) (o : Oper) (new : Nat) (env : List AV) (st : Stores) (tp : List PV) : Option (Eff × List PV × List Told) :=
  match wantA ops env o with
  | some true => match o.op with
    | .call { callee := .value f, args, argTypes := _ } => match ev env f with
      | .fn g caps => cx g (args.toList.map (ev env) ++ caps) st new tp
      | _ => none
    | op => match popB T op (ev env) (get st) new with
      | some (e, true) => some (e, tp, [])
      | _ => none
  | some false => some (⟨.p (.tup []), [], []⟩, tp, [])
  | none => none
def opsX (cx : CallX) (T : Tab) (D : Nat) (ops : List Oper) (nx : Nat) : List Oper → Nat → List AV → Stores → List Eff → List PV → List Told → Option (List AV × Stores × List Eff × List PV × List Told)
  | [], _, env, st, acc, tp, lg => some (env, st, acc, tp, lg)
  | o :: r, i, env, st, acc, tp, lg => match stepX cx T ops o (nx + D * i) env st tp with
    | some (e, tp, l1) => if e.upd.all (fun x => Nat.blt x.1 (nx + D * (i + 1))) then opsX cx T D ops nx r (i + 1) (setD env o.dst e.val) (puts st e.upd) (e :: acc) tp (lg ++ l1) else none
    | none => none
theorem stepX_sound {P : Program} {T : Tab} {D : Nat} {cx : CallX} (hcx : CallOK P D cx) {ops : List Oper} {o : Oper} {new : Nat} {env : List AV} {st : Stores} {tp : List PV} {r : Eff × List PV × List Told}
    (h : stepX cx T ops o new env st tp = some r) (hg : ∀ c ∈ r.2.2, Good P c) {K : Eff → Prop} (hK : K r.1) : stepW P T D ops o new env (get st) K := by
  unfold stepX at h
  unfold stepW
  split at h
  · rename_i hw
    rw [hw]
    dsimp only
    split at h
    · rename_i f args ts ho
      split at h
      · rename_i g caps hf
        rw [ho]
        simp only [hf]
        exact ⟨r.1, hcx _ _ _ _ _ _ h hg, hK⟩
      · cases h
    · rename_i hno
      split at h
      · rename_i e' hp
        injection h with h; subst h
        split
        · rename_i f args ts ho; exact absurd ho (hno _ _ _)
        · rw [pop_eq, hp]
          exact ⟨rfl, hK⟩
      · cases h
  · rename_i hw
    rw [hw]
    injection h with h; subst h; exact hK
  · cases h
theorem opsX_log {T : Tab} {D : Nat} {cx : CallX} {ops : List Oper} {nx : Nat} : ∀ (l : List Oper) (i : Nat) (env : List AV) (st : Stores) (acc : List Eff) (tp : List PV) (lg : List Told) (r : List AV × Stores × List Eff × List PV × List Told),
    opsX cx T D ops nx l i env st acc tp lg = some r → ∀ c ∈ lg, c ∈ r.2.2.2.2
  | [], i, env, st, acc, tp, lg, r, h => by
    simp only [opsX, Option.some.injEq] at h; subst h; exact fun _ h => h
  | o :: l, i, env, st, acc, tp, lg, r, h => by
    simp only [opsX] at h
    split at h
    · split at h
      · exact fun c hc => opsX_log l _ _ _ _ _ _ r h c (List.mem_append_left _ hc)
      · cases h
    · cases h
theorem opsX_sound {P : Program} {T : Tab} {D : Nat} {cx : CallX} (hcx : CallOK P D cx) {ops : List Oper} {nx : Nat} {K : List AV → Stores → List Eff → Prop} :
    ∀ (l : List Oper) (i : Nat) (env : List AV) (st : Stores) (acc : List Eff) (tp : List PV) (lg : List Told) (r : List AV × Stores × List Eff × List PV × List Told), opsX cx T D ops nx l i env st acc tp lg = some r → (∀ c ∈ r.2.2.2.2, Good P c) → K r.1 r.2.1 r.2.2.1 → opsW P T D ops nx l i env st acc K
  | [], i, env, st, acc, tp, lg, r, h, hg, hK => by
    simp only [opsX, Option.some.injEq] at h; subst h; exact hK
  | o :: l, i, env, st, acc, tp, lg, r, h, hg, hK => by
    simp only [opsX] at h
    split at h
    · rename_i e tp' l1 he
      split at h
      · rename_i hb
        exact stepX_sound hcx he (fun c hc => hg c (opsX_log l _ _ _ _ _ _ r h c (List.mem_append_right _ hc))) ⟨hb, opsX_sound hcx l _ _ _ _ _ _ r h hg hK⟩
      · cases h
    · cases h
structure Out where
  x : X
  env : List AV
  st : Stores
  nx : Nat
  wr : List Nat
  tp : List PV
  lg : List Told
def addW (base : Nat) (wr : List Nat) : List Eff → List Nat
  | [] => wr
  | e :: r => addW base (e.upd.foldl (fun w x => if Nat.blt x.1 base && !w.contains x.1 then x.1 :: w else w) wr) r
def exec (T : Tab) (D base : Nat) (cx : CallX) : Nat → Code → List AV → Stores → Nat → List Nat → List PV → List Told → Option Out
  | 0, _, _, _, _, _, _, _ => none
  | n + 1, c, env, st, nx, wr, tp, lg => match c with
    | .skip => some ⟨.normal, env, st, nx, wr, tp, lg⟩
    | .exit id => some ⟨.exit id, env, st, nx, wr, tp, lg⟩
    | .ret => some ⟨.ret, env, st, nx, wr, tp, lg⟩
    | .seq a b => match exec T D base cx n a env st nx wr tp lg with
      | some ⟨.normal, env, st, nx, wr, tp, lg⟩ => exec T D base cx n b env st nx wr tp lg
      | r => r
    | .cond c a b => match ev env c with
      | .p (.v (.bool t)) => match t with
        | true => exec T D base cx n a env st nx wr tp lg
        | false => exec T D base cx n b env st nx wr tp lg
      | _ => none
    | .block id c => match exec T D base cx n c env st nx wr tp lg with
      | some ⟨.exit i, env, st, nx, wr, tp, lg⟩ => if i = id then some ⟨.normal, env, st, nx, wr, tp, lg⟩ else some ⟨.exit i, env, st, nx, wr, tp, lg⟩
      | r => r
    | .loop c => match exec T D base cx n c env st nx wr tp lg with
      | some ⟨.normal, env, st, nx, wr, tp, lg⟩ => exec T D base cx n (.loop c) env st nx wr tp lg
      | r => r
    | .region _ ops draw => match opsX cx T D ops.toList nx ops.toList 0 env st [] tp lg with
      | some (env, st, acc, tp, lg) => if !draw || (lexOK ops (befs ops.toList []) && effsOK D nx (befs ops.toList []) (acc.reverse.map fun e => (e.upd.map (·.1), e.rd))) then some ⟨.normal, env, st, nx + D * ops.size, addW base wr acc, tp, lg⟩ else none
      | none => none
    | _ => none
theorem exec_log {T : Tab} {D : Nat} {cx : CallX} {B : Nat} : ∀ (n : Nat) (c : Code) (env : List AV) (st : Stores) (nx : Nat) (wr : List Nat) (tp : List PV) (lg : List Told) (o : Out), exec T D B cx n c env st nx wr tp lg = some o → ∀ c ∈ lg, c ∈ o.lg := by
  intro n
  induction n with
  | zero => intro c env st nx wr tp lg o h; simp [exec] at h
  | succ n ih =>
    intro c env st nx wr tp lg o h
    cases c with
    | skip => simp only [exec, Option.some.injEq] at h; subst h; exact fun _ h => h
    | exit id => simp only [exec, Option.some.injEq] at h; subst h; exact fun _ h => h
    | ret => simp only [exec, Option.some.injEq] at h; subst h; exact fun _ h => h
    | seq a b =>
      simp only [exec] at h
      split at h
      · rename_i h1; exact fun c hc => ih _ _ _ _ _ _ _ _ h c (ih _ _ _ _ _ _ _ _ h1 c hc)
      · exact ih _ _ _ _ _ _ _ _ h
    | cond c a b =>
      simp only [exec] at h
      split at h
      · rename_i t hc
        cases t <;> exact ih _ _ _ _ _ _ _ _ h
      · cases h
    | block id c =>
      simp only [exec] at h
      split at h
      · rename_i h1
        have := ih _ _ _ _ _ _ _ _ h1
        split at h <;> (injection h with h; subst h; exact this)
      · exact ih _ _ _ _ _ _ _ _ h
    | loop c =>
      simp only [exec] at h
      split at h
      · rename_i h1; exact fun c hc => ih _ _ _ _ _ _ _ _ h c (ih _ _ _ _ _ _ _ _ h1 c hc)
      · exact ih _ _ _ _ _ _ _ _ h
    | region id ops draw =>
      simp only [exec] at h
      split at h
      · rename_i h1
        split at h
        · injection h with h; subst h
          exact opsX_log _ _ _ _ _ _ _ _ h1
        · cases h
      · cases h
    | _ => simp [exec] at h
section
variable {P : Program} {T : Tab} {D base : Nat} {cx : CallX}
theorem exec_sound (hT : TOK P T) (hm : P.follows .mixedOrders = true) (hD : 0 < D) (hcx : CallOK P D cx) {B : Nat} :
    ∀ (n : Nat), (∀ (c : Code) (env : List AV) (st : Stores) (nx : Nat) (wr : List Nat) (tp : List PV) (lg : List Told) (o : Out) (Q : PostA), exec T D B cx n c env st nx wr tp lg = some o → (∀ c ∈ o.lg, Good P c) → Q o.x o.env o.st o.nx → WP P base c Q env st nx) ∧
      ∀ (c : Code) (env : List AV) (st : Stores) (nx : Nat) (wr : List Nat) (tp : List PV) (lg : List Told) (o : Out) (Q : PostA), exec T D B cx n (.loop c) env st nx wr tp lg = some o → (∀ c ∈ o.lg, Good P c) → Q o.x o.env o.st o.nx → WPL P base c Q env st nx := by
  intro n
  induction n with
  | zero => exact ⟨fun c env st nx wr tp lg o Q h => by simp [exec] at h, fun c env st nx wr tp lg o Q h => by simp [exec] at h⟩
  | succ n ihh =>
    obtain ⟨ih, ihL⟩ := ihh
    have loop : ∀ (c : Code) (env : List AV) (st : Stores) (nx : Nat) (wr : List Nat) (tp : List PV) (lg : List Told) (o : Out) (Q : PostA), exec T D B cx (n + 1) (.loop c) env st nx wr tp lg = some o → (∀ c ∈ o.lg, Good P c) → Q o.x o.env o.st o.nx → WPL P base c Q env st nx := by
      intro c env st nx wr tp lg o Q h hg hQ
      simp only [exec] at h
      split at h
      · rename_i env1 st1 nx1 wr1 tp1 lg1 h1
        exact WPL_unroll (ih _ _ _ _ _ _ _ _ _ h1 (fun c hc => hg c (exec_log _ _ _ _ _ _ _ _ _ h c hc)) (ihL _ _ _ _ _ _ _ _ _ h hg hQ))
      · rename_i hno
        refine WPL_unroll (ih _ _ _ _ _ _ _ _ _ h hg ?_)
        unfold loopK
        split
        · rename_i hx
          obtain ⟨x, e1, s1, n1, w1, t1, g1⟩ := o
          simp only at hx; subst hx
          exact absurd h (hno _ _ _ _ _ _)
        · exact hQ
    refine ⟨?_, loop⟩
    intro c env st nx wr tp lg o Q h hg hQ
    cases c with
    | skip => simp only [exec, Option.some.injEq] at h; subst h; exact WP_skip hQ
    | exit id => simp only [exec, Option.some.injEq] at h; subst h; exact WP_exit hQ
    | ret => simp only [exec, Option.some.injEq] at h; subst h; exact WP_ret hQ
    | seq a b =>
      simp only [exec] at h
      split at h
      · rename_i env1 st1 nx1 wr1 tp1 lg1 h1
        exact WP_seq (ih _ _ _ _ _ _ _ _ _ h1 (fun c hc => hg c (exec_log _ _ _ _ _ _ _ _ _ h c hc)) (ih _ _ _ _ _ _ _ _ _ h hg hQ))
      · rename_i hno
        refine WP_seq (ih _ _ _ _ _ _ _ _ _ h hg ?_)
        unfold seqK
        split
        · rename_i hx
          obtain ⟨x, e1, s1, n1, w1, t1, g1⟩ := o
          simp only at hx; subst hx
          exact absurd h (hno _ _ _ _ _ _)
        · exact hQ
    | cond c a b =>
      simp only [exec] at h
      split at h
      · rename_i t hc
        cases t
        · exact WP_cond hc (by simpa using ih _ _ _ _ _ _ _ _ _ h hg hQ)
        · exact WP_cond hc (by simpa using ih _ _ _ _ _ _ _ _ _ h hg hQ)
      · cases h
    | block id c =>
      simp only [exec] at h
      split at h
      · rename_i i env1 st1 nx1 wr1 tp1 lg1 h1
        refine WP_block (ih _ _ _ _ _ _ _ _ _ h1 ?_ ?_)
        · split at h <;> (injection h with h; subst h; exact hg)
        simp only [blockK]
        split at h
        · rename_i e; rw [if_pos e]; injection h with h; subst h; exact hQ
        · rename_i e; rw [if_neg e]; injection h with h; subst h; exact hQ
      · rename_i hno
        refine WP_block (ih _ _ _ _ _ _ _ _ _ h hg ?_)
        unfold blockK
        split
        · rename_i i hx
          obtain ⟨x, e1, s1, n1, w1, t1, g1⟩ := o
          simp only at hx; subst hx
          exact absurd h (hno _ _ _ _ _ _ _)
        · exact hQ
    | loop c => exact WP_loop (loop _ _ _ _ _ _ _ _ _ h hg hQ)
    | region id ops draw =>
      simp only [exec] at h
      split at h
      · rename_i env1 st1 acc tp1 lg1 h1
        split at h
        · rename_i hb
          injection h with h; subst h
          simp only [Bool.or_eq_true, Bool.not_eq_true', Bool.and_eq_true] at hb
          refine WP_region hT hm hD (fun hd => ?_) (opsX_sound hcx _ _ _ _ _ _ _ _ h1 hg ⟨fun hd => ?_, hQ⟩)
          · rcases hb with hb | hb
            · rw [hd] at hb; cases hb
            · exact hb.1
          · rcases hb with hb | hb
            · rw [hd] at hb; cases hb
            · exact hb.2
        · cases h
      · cases h
    | _ => simp [exec] at h
end
end Go.Proofs.Ytiondkijgpjgcaa.Pw
namespace Go.Proofs.Ytiondkijgpjgcaa.Pw
open Go Go.RowKit
mutual
def refs : AV → List Nat
  | .any | .p _ => []
  | .own b _ => [b]
  | .sl b _ _ _ => [b]
  | .agg cs => refsL cs
  | .tup cs => refsL cs
  | .fn _ cs => refsL cs
def refsL : List AV → List Nat
  | [] => []
  | x :: r => refs x ++ refsL r
end
def blkRefs : Blk → List Nat | .pc _ _ => [] | .mc _ cs => refsL cs
def reach : Nat → Stores → List Nat → List Nat → List Nat
  | 0, _, _, seen => seen
  | _ + 1, _, [], seen => seen
  | n + 1, st, b :: todo, seen => if seen.contains b then reach n st todo seen else match get st b with
    | some k => reach n st (blkRefs k ++ todo) (b :: seen)
    | none => reach n st todo seen
def pickS (st : Stores) : List Nat → Stores
  | [] => []
  | b :: r => match get st b with | some k => (b, k) :: pickS st r | none => pickS st r
theorem get_pickS (st : Stores) : ∀ (l : List Nat) b k, get (pickS st l) b = some k → get st b = some k ∧ b ∈ l
  | [], b, k, h => by simp [pickS, get] at h
  | a :: r, b, k, h => by
    simp only [pickS] at h
    split at h
    · rename_i k' hk
      simp only [get] at h
      by_cases e : a = b
      · subst e
        simp only [beq_self_eq_true, cond_true, Option.some.injEq] at h
        subst h; exact ⟨hk, by simp⟩
      · rw [show (a == b) = false by simpa using e] at h
        have := get_pickS st r b k h
        exact ⟨this.1, by simp [this.2]⟩
    · have := get_pickS st r b k h
      exact ⟨this.1, by simp [this.2]⟩
theorem mem_of_get : ∀ (l : Stores) b k, get l b = some k → (b, k) ∈ l
  | [], b, k, h => by simp [get] at h
  | (i, x) :: r, b, k, h => by
    simp only [get] at h
    by_cases e : i = b
    · subst e
      simp only [beq_self_eq_true, cond_true, Option.some.injEq] at h
      subst h; simp
    · rw [show (i == b) = false by simpa using e] at h
      exact List.mem_cons_of_mem _ (mem_of_get r b k h)
def ltB (n : Nat) : Blk → Bool | .pc _ _ => true | .mc _ cs => lts n cs
theorem lts_map_p (n : Nat) : ∀ cs : List PV, lts n (cs.map .p) = true
  | [] => rfl
  | x :: r => by simp [lts, AV.lt, lts_map_p n r]
theorem ltB_cells {n : Nat} {k : Blk} (h : ltB n k = true) : lts n k.cells = true := by
  cases k with
  | pc e cs => exact lts_map_p n cs
  | mc e cs => exact h
def resOneB (T : Tab) (env : List AV) (σ : Store) : ResultVar → Option AV
  | .tmp t => some (env.getD t .any)
  | .cell a t => (T t).bind fun y => if y.size == 0 then none else match env.getD a .any with
    | .own b o => (σ b).bind fun k => if Nat.ble (o + y.size) k.cells.length && (y.agg || y.size == 1) then some (cellsTo y.agg y.size o k) else none
    | _ => none
def resAllB (T : Tab) (env : List AV) (σ : Store) : List ResultVar → Option (List AV)
  | [] => some []
  | r :: rs => (resOneB T env σ r).bind fun a => (resAllB T env σ rs).map fun q => a :: q
theorem resOneB_spec {T : Tab} {env : List AV} {σ : Store} {r : ResultVar} {a : AV} (h : resOneB T env σ r = some a) : ∃ c, resOne T env σ r = some (a, c) ∧ c := by
  cases r with
  | tmp t => simp only [resOneB, Option.some.injEq] at h; subst h; exact ⟨_, rfl, trivial⟩
  | cell p t =>
    simp only [resOneB, Option.bind_eq_some_iff] at h
    obtain ⟨y, hy, h⟩ := h
    split at h
    · cases h
    · rename_i h0
      split at h
      · rename_i b o hp
        simp only [Option.bind_eq_some_iff] at h
        obtain ⟨k, hk, h⟩ := h
        split at h
        · rename_i hc
          injection h with h; subst h
          simp only [Bool.and_eq_true, Nat.ble_eq, Bool.or_eq_true, beq_iff_eq] at hc
          refine ⟨o + y.size ≤ k.cells.length ∧ (y.agg = false → y.size = 1), ?_, hc.1, fun hf => ?_⟩
          · simp only [resOne, hy, Option.bind_some, hp, hk]
            rw [if_neg h0]
          · rcases hc.2 with h1 | h1
            · rw [hf] at h1; cases h1
            · exact h1
        · cases h
      · cases h
theorem resAllB_spec {T : Tab} {env : List AV} {σ : Store} : ∀ {rs : List ResultVar} {avs : List AV}, resAllB T env σ rs = some avs → ∃ c, resAll T env σ rs = some (avs, c) ∧ c
  | [], avs, h => by simp only [resAllB, Option.some.injEq] at h; subst h; exact ⟨True, rfl, trivial⟩
  | r :: rs, avs, h => by
    simp only [resAllB, Option.bind_eq_some_iff, Option.map_eq_some_iff] at h
    obtain ⟨a, ha, q, hq, rfl⟩ := h
    obtain ⟨c1, h1, h2⟩ := resOneB_spec ha
    obtain ⟨c2, h3, h4⟩ := resAllB_spec hq
    exact ⟨c1 ∧ c2, by simp [resAll, h1, h3], h2, h4⟩
theorem opsX_inv {T : Tab} {D : Nat} {cx : CallX} {ops : List Oper} {nx : Nat} : ∀ (l : List Oper) (i : Nat) (env : List AV) (st : Stores) (acc : List Eff) (tp : List PV) (lg : List Told) (r : List AV × Stores × List Eff × List PV × List Told), opsX cx T D ops nx l i env st acc tp lg = some r →
    ∃ es, r.2.2.1 = es ++ acc ∧ ∀ b, (∀ e ∈ es, ∀ x ∈ e.upd, x.1 ≠ b) → get r.2.1 b = get st b
  | [], i, env, st, acc, tp, lg, r, h => by
    simp only [opsX, Option.some.injEq] at h; subst h; exact ⟨[], rfl, fun _ _ => rfl⟩
  | o :: l, i, env, st, acc, tp, lg, r, h => by
    simp only [opsX] at h
    split at h
    · rename_i e tp' l1 he
      split at h
      · obtain ⟨es, h1, h2⟩ := opsX_inv l _ _ _ _ _ _ r h
        refine ⟨es ++ [e], by rw [h1]; simp, fun b hb => ?_⟩
        rw [h2 b fun e' he' => hb e' (by simp [he']), get_puts]
        exact upds_other _ _ _ (hb e (by simp))
      · cases h
    · cases h
theorem foldW (B : Nat) : ∀ (u : List (Nat × Option Blk)) (w : List Nat), (∀ b, b ∈ w → b ∈ u.foldl (fun w x => if Nat.blt x.1 B && !w.contains x.1 then x.1 :: w else w) w) ∧
    ∀ x ∈ u, x.1 < B → x.1 ∈ u.foldl (fun w x => if Nat.blt x.1 B && !w.contains x.1 then x.1 :: w else w) w
  | [], w => ⟨fun _ h => h, fun x h => by cases h⟩
  | y :: u, w => by
    obtain ⟨h1, h2⟩ := foldW B u (if Nat.blt y.1 B && !w.contains y.1 then y.1 :: w else w)
    refine ⟨fun b hb => h1 b ?_, fun x hx hlt => ?_⟩
    · split
      · simp [hb]
      · exact hb
    · rcases List.mem_cons.1 hx with rfl | hx
      · refine h1 _ ?_
        split
        · simp
        · rename_i hc
          simp only [Nat.blt_eq, Bool.and_eq_true, Bool.not_eq_true', not_and, Bool.not_eq_false] at hc
          have := hc hlt
          simpa using this
      · exact h2 x hx hlt
theorem addW_spec (B : Nat) : ∀ (es : List Eff) (w : List Nat), (∀ b, b ∈ w → b ∈ addW B w es) ∧ ∀ e ∈ es, ∀ x ∈ e.upd, x.1 < B → x.1 ∈ addW B w es
  | [], w => ⟨fun _ h => h, fun x h => by cases h⟩
  | e :: es, w => by
    obtain ⟨h1, h2⟩ := addW_spec B es (e.upd.foldl (fun w x => if Nat.blt x.1 B && !w.contains x.1 then x.1 :: w else w) w)
    obtain ⟨h3, h4⟩ := foldW B e.upd w
    refine ⟨fun b hb => h1 b (h3 b hb), fun e' he' x hx hlt => ?_⟩
    rcases List.mem_cons.1 he' with rfl | he'
    · exact h1 _ (h4 x hx hlt)
    · exact h2 e' he' x hx hlt
theorem exec_inv {T : Tab} {D : Nat} {cx : CallX} {B : Nat} : ∀ (n : Nat) (c : Code) (env : List AV) (st : Stores) (nx : Nat) (wr : List Nat) (tp : List PV) (lg : List Told) (o : Out), exec T D B cx n c env st nx wr tp lg = some o →
    (∀ b, b ∈ wr → b ∈ o.wr) ∧ ∀ b, b < B → b ∉ o.wr → get o.st b = get st b := by
  intro n
  induction n with
  | zero => intro c env st nx wr tp lg o h; simp [exec] at h
  | succ n ih =>
    intro c env st nx wr tp lg o h
    have two : ∀ {c1 c2 : Code} {env1 st1 nx1 wr1 tp1 lg1 x}, exec T D B cx n c1 env st nx wr tp lg = some ⟨x, env1, st1, nx1, wr1, tp1, lg1⟩ → exec T D B cx n c2 env1 st1 nx1 wr1 tp1 lg1 = some o → (∀ b, b ∈ wr → b ∈ o.wr) ∧ ∀ b, b < B → b ∉ o.wr → get o.st b = get st b := fun h1 h2 => by
      obtain ⟨a1, a2⟩ := ih _ _ _ _ _ _ _ _ h1
      obtain ⟨b1, b2⟩ := ih _ _ _ _ _ _ _ _ h2
      exact ⟨fun b hb => b1 b (a1 b hb), fun b hb hn => (b2 b hb hn).trans (a2 b hb fun hm => hn (b1 b hm))⟩
    cases c with
    | skip => simp only [exec, Option.some.injEq] at h; subst h; exact ⟨fun _ h => h, fun _ _ _ => rfl⟩
    | exit id => simp only [exec, Option.some.injEq] at h; subst h; exact ⟨fun _ h => h, fun _ _ _ => rfl⟩
    | ret => simp only [exec, Option.some.injEq] at h; subst h; exact ⟨fun _ h => h, fun _ _ _ => rfl⟩
    | seq a b =>
      simp only [exec] at h
      split at h
      · rename_i h1; exact two h1 h
      · exact ih _ _ _ _ _ _ _ _ h
    | cond c a b =>
      simp only [exec] at h
      split at h
      · rename_i t hc
        cases t <;> exact ih _ _ _ _ _ _ _ _ h
      · cases h
    | block id c =>
      simp only [exec] at h
      split at h
      · rename_i i env1 st1 nx1 wr1 tp1 lg1 h1
        have := ih _ _ _ _ _ _ _ _ h1
        split at h <;> (injection h with h; subst h; exact this)
      · exact ih _ _ _ _ _ _ _ _ h
    | loop c =>
      simp only [exec] at h
      split at h
      · rename_i h1; exact two h1 h
      · exact ih _ _ _ _ _ _ _ _ h
    | region id ops draw =>
      simp only [exec] at h
      split at h
      · rename_i env1 st1 acc tp1 lg1 h1
        split at h
        · injection h with h; subst h
          obtain ⟨es, e1, e2⟩ := opsX_inv _ _ _ _ _ _ _ _ h1
          simp only [List.append_nil] at e1
          subst e1
          obtain ⟨w1, w2⟩ := addW_spec B acc wr
          exact ⟨w1, fun b hb hn => e2 b fun e he x hx hxb => hn (hxb ▸ w2 e he x hx (by omega))⟩
        · cases h
      · cases h
    | _ => simp [exec] at h
def Dl (l : Nat) : Nat := 2 ^ (32 * l)
theorem Dl_pos (l : Nat) : 0 < Dl l := Nat.pow_pos (by decide)
def finX (T : Tab) (fuel l : Nat) (fn : Func) (st0 : Stores) (keys : List Nat) (new : Nat) (o : Out) : Option Eff :=
  match o.x with
  | .exit _ => none
  | _ => if Nat.ble o.nx (new + Dl l) then match resAllB T o.env (get o.st) fn.results.toList with
    | some avs =>
      match (((reach fuel o.st (refsL avs ++ o.wr) []).filter (fun b => Nat.ble new b)) ++ o.wr).map fun b => (b, get o.st b) with
      | u => if u.all (fun x => ((get st0 x.1).isSome || Nat.ble new x.1) && Nat.blt x.1 (new + Dl l)) then some ⟨pack avs, u, keys⟩ else none
    | none => none
    else none
/-- Told: the functions whose answers are read off the tape. -/
def callX (P : Program) (T : Tab) (told : List Nat) (fuel : Nat) : Nat → CallX
  | 0, _, _, _, _, _ => none
  | l + 1, g, args, st, new, tp => if told.contains g then match tp with
      | r :: tp => match frzs (get st) 99 args with
        | some (ps, rd) => some (⟨.p r, if r.flat then [] else rd.map fun b => (b, none), rd⟩, tp, [(g, ps, r)])
        | none => none
      | [] => none
    else match P.funcs[g]? with
    | none => none
    | some fn => if fn.name == "runtime.NumGoroutine" then none else match fn.body with
      | none => none
      | some c => match reach fuel st (refsL args) [] with
        | keys => match pickS st keys with
          | st0 => if lts new args && st0.all (fun x => Nat.blt x.1 new && ltB new x.2) then
            match exec T (Dl l) new (callX P T told fuel l) fuel c (args0 fn.ntmps args) st0 new [] tp [] with
            | some o => match finX T fuel (l + 1) fn st0 keys new o with
              | some e => some (e, o.tp, o.lg)
              | none => none
            | none => none
            else none
theorem upds_self (σ τ : Store) : ∀ (l : List Nat) b k, upds σ (l.map fun b => (b, τ b)) b = some k → τ b = some k ∨ (b ∉ l ∧ σ b = some k)
  | [], b, k, h => .inr ⟨by simp, h⟩
  | a :: r, b, k, h => by
    have h' : upds (upd1 σ a (τ a)) (r.map fun b => (b, τ b)) b = some k := h
    rcases upds_self _ τ r b k h' with h1 | ⟨h1, h2⟩
    · exact .inl h1
    · unfold upd1 at h2
      split at h2
      · rename_i e; subst e; exact .inl h2
      · rename_i e; exact .inr ⟨by simp [e, h1], h2⟩
theorem callX_sound {P : Program} {T : Tab} (hT : TOK P T) (hm : P.follows .mixedOrders = true) (told : List Nat) (fuel : Nat) : ∀ (l : Nat), CallOK P (Dl l) (callX P T told fuel l) := by
  intro l
  induction l with
  | zero => intro g args st new tp r h; simp [callX] at h
  | succ l ih =>
    intro g args st new tp r h hg
    simp only [callX] at h
    split at h
    · split at h
      · split at h
        · rename_i x tp' _ ps rd hf
          injection h with h; subst h
          exact SoundE.of hf (hg (g, ps, x) (List.mem_singleton.2 rfl))
        · cases h
      · cases h
    split at h
    · cases h
    · rename_i fn hf
      split at h
      · cases h
      · rename_i hnm
        split at h
        · cases h
        · rename_i c hb
          split at h
          · rename_i hc
            split at h
            · rename_i o ho
              simp only [Bool.and_eq_true, List.all_eq_true, Nat.blt_eq] at hc
              obtain ⟨hargs, hc⟩ := hc
              split at h
              rotate_left
              · cases h
              rename_i e he
              injection h with h; subst h
              replace h := he
              clear he
              unfold finX at h
              have key : o.x ≠ .normal ∧ o.x ≠ .ret → False := by
                intro ⟨h1, h2⟩
                cases hx : o.x with
                | normal => exact h1 hx
                | ret => exact h2 hx
                | exit i => rw [hx] at h; cases h
              split at h
              · cases h
              · split at h
                · rename_i hnx
                  split at h
                  · rename_i avs has
                    dsimp only at h
                    split at h
                    · rename_i hu
                      injection h with h; subst h
                      simp only [List.all_eq_true, Bool.and_eq_true, Bool.or_eq_true, Nat.ble_eq, Nat.blt_eq] at hu
                      refine SoundE.of_WP hT hf hb (by simpa using hnm) (pickS st (reach fuel st (refsL args) [])) (fun b k hk => ?_) hargs (fun x hx => ?_) ?_
                      · obtain ⟨h1, h2⟩ := get_pickS _ _ _ _ hk
                        have := hc (b, k) (mem_of_get _ _ _ hk)
                        exact ⟨h1, h2, this.1, ltB_cells this.2⟩
                      · have := hu x hx
                        refine ⟨this.1.imp (fun h => ?_) id, this.2⟩
                        intro h0; rw [h0] at h; cases h
                      · refine (exec_sound hT hm (Dl_pos l) ih fuel).1 c _ _ _ _ _ _ o _ ho hg ⟨by simpa using hnx, ?_⟩
                        obtain ⟨cc, hr, hcc⟩ := resAllB_spec has
                        have res : Res T fn.results.toList o.env o.st fun a => a = pack avs ∧ ∀ b k, upds (get (pickS st (reach fuel st (refsL args) []))) ((((reach fuel o.st (refsL avs ++ o.wr) []).filter (fun b => Nat.ble new b)) ++ o.wr).map fun b => (b, get o.st b)) b = some k → get o.st b = some k := by
                          unfold Res
                          rw [hr]
                          refine ⟨hcc, rfl, fun b k hk => ?_⟩
                          rcases upds_self _ _ _ _ _ hk with h1 | ⟨h1, h2⟩
                          · exact h1
                          · have hlt := (hc (b, k) (mem_of_get _ _ _ h2)).1
                            rw [(exec_inv _ _ _ _ _ _ _ _ _ ho).2 b hlt fun hw => h1 (by simp [hw])]
                            exact h2
                        cases hx : o.x with
                        | normal => exact res
                        | ret => exact res
                        | exit i => exact (key ⟨by simp [hx], by simp [hx]⟩).elim
                    · cases h
                  · cases h
                · cases h
            · cases h
          · cases h
/-- A run of a function at certain values. -/
def runX (P : Program) (T : Tab) (told : List Nat) (fuel l f : Nat) (args : List PV) (tp : List PV) : Option (PV × List Told) :=
  match P.funcs[f]? with
  | none => none
  | some fn => if fn.name == "runtime.NumGoroutine" then none else match fn.body with
    | none => none
    | some c => match exec T (Dl l) 0 (callX P T told fuel l) fuel c (args0 fn.ntmps (args.map .p)) [] 0 [] tp [] with
      | some o => match o.x with
        | .exit _ => none
        | _ => match resAllB T o.env (get o.st) fn.results.toList with
          | some avs => match frz (get o.st) 99 (pack avs) with
            | some (p, _) => some (p, o.lg)
            | none => none
          | none => none
      | none => none
theorem runX_sound {P : Program} {T : Tab} (hT : TOK P T) (hm : P.follows .mixedOrders = true) {told : List Nat} {fuel l f : Nat} {args : List PV} {tp : List PV} {res : PV} {lg : List Told} (h : runX P T told fuel l f args tp = some (res, lg)) (hg : ∀ c ∈ lg, Good P c) : Sound P f args res := by
  unfold runX at h
  split at h
  · cases h
  · rename_i fn hf
    split at h
    · cases h
    · rename_i hnm
      split at h
      · cases h
      · rename_i c hb
        split at h
        · rename_i o ho
          have key : o.x ≠ .normal ∧ o.x ≠ .ret → False := by
            intro ⟨h1, h2⟩
            cases hx : o.x with
            | normal => exact h1 hx
            | ret => exact h2 hx
            | exit i => rw [hx] at h; cases h
          split at h
          · cases h
          · split at h
            · rename_i avs has
              split at h
              · rename_i p rd hp
                injection h with h; injection h with h1 h2; subst h1; subst h2
                refine Sound.of_WP99 hT hf hb (by simpa using hnm) ?_
                refine (exec_sound hT hm (Dl_pos l) (callX_sound hT hm told fuel l) fuel).1 c _ _ _ _ _ _ o _ ho hg ?_
                obtain ⟨cc, hr, hcc⟩ := resAllB_spec has
                have res : Res T fn.results.toList o.env o.st fun a => ∃ rd, frz (get o.st) 99 a = some (p, rd) := by
                  unfold Res
                  rw [hr]
                  exact ⟨hcc, rd, hp⟩
                cases hx : o.x with
                | normal => exact res
                | ret => exact res
                | exit i => exact (key ⟨by simp [hx], by simp [hx]⟩).elim
              · cases h
            · cases h
        · cases h
theorem runL {P : Program} {T : Tab} (hT : TOK P T) (hm : P.follows .mixedOrders = true) {f : Nat} {args : List PV} {res : PV} {lg : List Told} (told : List Nat) (fuel l : Nat) (hg : ∀ c ∈ lg, Good P c) (h : runX P T told fuel l f args (lg.map fun c => c.2.2) = some (res, lg)) : Sound P f args res :=
  runX_sound hT hm h hg
theorem Res_of {T : Tab} {rs : List ResultVar} {env : List AV} {st : Stores} {K : AV → Prop} {avs : List AV} {c : Prop} (h : resAll T env (get st) rs = some (avs, c)) (hc : c) (hk : K (pack avs)) : Res T rs env st K := by
  unfold Res; rw [h]; exact ⟨hc, hk⟩
theorem Good.nil {P : Program} : ∀ c ∈ ([] : List Told), Good P c := fun c h => by cases h
theorem Good.cons {P : Program} {g : Nat} {ps : List PV} {r : PV} {l : List Told} (h : Sound P g ps r) (k : ∀ c ∈ l, Good P c) : ∀ c ∈ (g, ps, r) :: l, Good P c := fun c hc => by
  rcases List.mem_cons.1 hc with rfl | hc
  · exact h
  · exact k c hc
end Go.Proofs.Ytiondkijgpjgcaa.Pw
namespace Go.Proofs.Ytiondkijgpjgcaa.Pw
open Go Go.RowKit
/-- What a run leans on: a call's contract, or a condition's truth (the n-th condition behind what was told before). -/
inductive Ob where
  | call (g : Nat) (ps : List PV) (r : PV)
  | br (n : Nat) (t v : Bool)
  | enter
  | own (g : Nat) (ps : List PV) (e : Nat → Eff)
  | val (n : Nat) (t z : Int)
inductive Tk where
  | r (x : PV)
  | b (k n : Nat) (v : Bool)
  | e
  | f (e : Nat → Eff)
  | z (k n : Nat) (z : Int)
def Ob.holds (P : Program) : Ob → Prop
  | .call g ps r => Sound P g ps r
  | .br _ t v => t = v
  | .enter => True
  | .val _ t z => t = z
  | .own g ps e => ∀ (σ : Store) (new : Nat), SoundE P 64 g (ps.map .p) σ new (e new)
def Ob.tk : Ob → Tk
  | .call _ _ r => .r r
  | .br n _ v => .b n n v
  | .enter => .e
  | .own _ _ e => .f e
  | .val n _ z => .z n n z
abbrev CallY := Nat → List AV → Stores → Nat → List Tk → Option (Eff × List Tk × List Ob)
def CallYK (P : Program) (D : Nat) (cx : CallY) : Prop := ∀ g args st new tp r, cx g args st new tp = some r → (∀ c ∈ r.2.2, c.holds P) → SoundE P D g args (get st) new r.1
def isBin : Op → Bool
  | .binOp .. => true
  | _ => false
/-- A comparison's truth may be told. -/
def asks (op : Op) (e : Eff) (tp : List Tk) : Eff × List Tk × List Ob :=
  match isBin op, e.val, tp with
  | true, .p (.v (.bool t)), .b 0 n v :: tp => (⟨.p (.v (.bool v)), e.upd, e.rd⟩, tp, [.br n t v])
  | true, .p (.v (.bool _)), .b (k + 1) n v :: tp => (e, .b k n v :: tp, [])
  | true, .p (.v (.int kd t)), .z 0 n z :: tp => (⟨.p (.v (.int kd z)), e.upd, e.rd⟩, tp, [.val n t z])
  | true, .p (.v (.int _ _)), .z (k + 1) n z :: tp => (e, .z k n z :: tp, [])
  | _, _, tp => (e, tp, [])
theorem asks_same {P : Program} {op : Op} {e : Eff} {tp : List Tk} (h : ∀ c ∈ (asks op e tp).2.2, c.holds P) : (asks op e tp).1 = e := by
  unfold asks at *
  split
  · rename_i t n v tp' hb hv
    rw [hb] at h
    simp only [hv] at h
    have e1 : t = v := h (.br n t v) (by simp)
    subst e1
    cases e; simp only at hv; subst hv; rfl
  · rfl
  · rename_i kd t n z tp' hb hv
    rw [hb] at h
    simp only [hv] at h
    have e1 : t = z := h (.val n t z) (by simp)
    subst e1
    cases e; simp only at hv; subst hv; rfl
  · rfl
  · rfl
def stepY (cx : CallY) (T : Tab) (ops : List Oper) (o : Oper) (new : Nat) (env : List AV) (st : Stores) (tp : List Tk) : Option (Eff × List Tk × List Ob) :=
  match wantA ops env o with
  | some true => match o.op with
    | .call { callee := .value f, args, argTypes := _ } => match ev env f with
      | .fn g caps => cx g (args.toList.map (ev env) ++ caps) st new tp
      | _ => none
    | op => match popB T op (ev env) (get st) new with
      | some (e, true) => some (asks op e tp)
      | _ => none
  | some false => some (⟨.p (.tup []), [], []⟩, tp, [])
  | none => none
def opsY (cx : CallY) (T : Tab) (D : Nat) (ops : List Oper) (nx : Nat) : List Oper → Nat → List AV → Stores → List Eff → List Tk → List Ob → Option (List AV × Stores × List Eff × List Tk × List Ob)
  | [], _, env, st, acc, tp, lg => some (env, st, acc, tp, lg)
  | o :: r, i, env, st, acc, tp, lg => match stepY cx T ops o (nx + D * i) env st tp with
    | some (e, tp, l1) => if e.upd.all (fun x => Nat.blt x.1 (nx + D * (i + 1))) then opsY cx T D ops nx r (i + 1) (setD env o.dst e.val) (puts st e.upd) (e :: acc) tp (lg ++ l1) else none
    | none => none
theorem stepY_sound {P : Program} {T : Tab} {D : Nat} {cx : CallY} (hcx : CallYK P D cx) {ops : List Oper} {o : Oper} {new : Nat} {env : List AV} {st : Stores} {tp : List Tk} {r : Eff × List Tk × List Ob}
    (h : stepY cx T ops o new env st tp = some r) (hg : ∀ c ∈ r.2.2, c.holds P) {K : Eff → Prop} (hK : K r.1) : stepW P T D ops o new env (get st) K := by
  unfold stepY at h
  unfold stepW
  split at h
  · rename_i hw
    rw [hw]
    dsimp only
    split at h
    · rename_i f args ts ho
      split at h
      · rename_i g caps hf
        rw [ho]
        simp only [hf]
        exact ⟨r.1, hcx _ _ _ _ _ _ h hg, hK⟩
      · cases h
    · rename_i hno
      split at h
      · rename_i e' hp
        injection h with h; subst h
        rw [asks_same hg] at hK
        split
        · rename_i f args ts ho; exact absurd ho (hno _ _ _)
        · rw [pop_eq, hp]
          exact ⟨rfl, hK⟩
      · cases h
  · rename_i hw
    rw [hw]
    injection h with h; subst h; exact hK
  · cases h
theorem opsY_log {T : Tab} {D : Nat} {cx : CallY} {ops : List Oper} {nx : Nat} : ∀ (l : List Oper) (i : Nat) (env : List AV) (st : Stores) (acc : List Eff) (tp : List Tk) (lg : List Ob) (r : List AV × Stores × List Eff × List Tk × List Ob),
    opsY cx T D ops nx l i env st acc tp lg = some r → ∀ c ∈ lg, c ∈ r.2.2.2.2
  | [], i, env, st, acc, tp, lg, r, h => by
    simp only [opsY, Option.some.injEq] at h; subst h; exact fun _ h => h
  | o :: l, i, env, st, acc, tp, lg, r, h => by
    simp only [opsY] at h
    split at h
    · split at h
      · exact fun c hc => opsY_log l _ _ _ _ _ _ r h c (List.mem_append_left _ hc)
      · cases h
    · cases h
theorem opsY_sound {P : Program} {T : Tab} {D : Nat} {cx : CallY} (hcx : CallYK P D cx) {ops : List Oper} {nx : Nat} {K : List AV → Stores → List Eff → Prop} :
    ∀ (l : List Oper) (i : Nat) (env : List AV) (st : Stores) (acc : List Eff) (tp : List Tk) (lg : List Ob) (r : List AV × Stores × List Eff × List Tk × List Ob), opsY cx T D ops nx l i env st acc tp lg = some r → (∀ c ∈ r.2.2.2.2, c.holds P) → K r.1 r.2.1 r.2.2.1 → opsW P T D ops nx l i env st acc K
  | [], i, env, st, acc, tp, lg, r, h, hg, hK => by
    simp only [opsY, Option.some.injEq] at h; subst h; exact hK
  | o :: l, i, env, st, acc, tp, lg, r, h, hg, hK => by
    simp only [opsY] at h
    split at h
    · rename_i e tp' l1 he
      split at h
      · rename_i hb
        exact stepY_sound hcx he (fun c hc => hg c (opsY_log l _ _ _ _ _ _ r h c (List.mem_append_right _ hc))) ⟨hb, opsY_sound hcx l _ _ _ _ _ _ r h hg hK⟩
      · cases h
    · cases h
structure OutY where
  x : X
  env : List AV
  st : Stores
  nx : Nat
  wr : List Nat
  tp : List Tk
  lg : List Ob
def execY (T : Tab) (D base : Nat) (cx : CallY) : Nat → Code → List AV → Stores → Nat → List Nat → List Tk → List Ob → Option OutY
  | 0, _, _, _, _, _, _, _ => none
  | n + 1, c, env, st, nx, wr, tp, lg => match c with
    | .skip => some ⟨.normal, env, st, nx, wr, tp, lg⟩
    | .exit id => some ⟨.exit id, env, st, nx, wr, tp, lg⟩
    | .ret => some ⟨.ret, env, st, nx, wr, tp, lg⟩
    | .seq a b => match execY T D base cx n a env st nx wr tp lg with
      | some ⟨.normal, env, st, nx, wr, tp, lg⟩ => execY T D base cx n b env st nx wr tp lg
      | r => r
    | .cond c a b => match ev env c with
      | .p (.v (.bool t)) => match t with
        | true => execY T D base cx n a env st nx wr tp lg
        | false => execY T D base cx n b env st nx wr tp lg
      | _ => none
    | .block id c => match execY T D base cx n c env st nx wr tp lg with
      | some ⟨.exit i, env, st, nx, wr, tp, lg⟩ => if i = id then some ⟨.normal, env, st, nx, wr, tp, lg⟩ else some ⟨.exit i, env, st, nx, wr, tp, lg⟩
      | r => r
    | .loop c => match execY T D base cx n c env st nx wr tp lg with
      | some ⟨.normal, env, st, nx, wr, tp, lg⟩ => execY T D base cx n (.loop c) env st nx wr tp lg
      | r => r
    | .region _ ops draw => match opsY cx T D ops.toList nx ops.toList 0 env st [] tp lg with
      | some (env, st, acc, tp, lg) => if !draw || (lexOK ops (befs ops.toList []) && effsOK D nx (befs ops.toList []) (acc.reverse.map fun e => (e.upd.map (·.1), e.rd))) then some ⟨.normal, env, st, nx + D * ops.size, addW base wr acc, tp, lg⟩ else none
      | none => none
    | _ => none
theorem execY_log {T : Tab} {D : Nat} {cx : CallY} {B : Nat} : ∀ (n : Nat) (c : Code) (env : List AV) (st : Stores) (nx : Nat) (wr : List Nat) (tp : List Tk) (lg : List Ob) (o : OutY), execY T D B cx n c env st nx wr tp lg = some o → ∀ c ∈ lg, c ∈ o.lg := by
  intro n
  induction n with
  | zero => intro c env st nx wr tp lg o h; simp [execY] at h
  | succ n ih =>
    intro c env st nx wr tp lg o h
    cases c with
    | skip => simp only [execY, Option.some.injEq] at h; subst h; exact fun _ h => h
    | exit id => simp only [execY, Option.some.injEq] at h; subst h; exact fun _ h => h
    | ret => simp only [execY, Option.some.injEq] at h; subst h; exact fun _ h => h
    | seq a b =>
      simp only [execY] at h
      split at h
      · rename_i h1; exact fun c hc => ih _ _ _ _ _ _ _ _ h c (ih _ _ _ _ _ _ _ _ h1 c hc)
      · exact ih _ _ _ _ _ _ _ _ h
    | cond c a b =>
      simp only [execY] at h
      split at h
      · rename_i t hc
        cases t <;> exact ih _ _ _ _ _ _ _ _ h
      · cases h
    | block id c =>
      simp only [execY] at h
      split at h
      · rename_i h1
        have := ih _ _ _ _ _ _ _ _ h1
        split at h <;> (injection h with h; subst h; exact this)
      · exact ih _ _ _ _ _ _ _ _ h
    | loop c =>
      simp only [execY] at h
      split at h
      · rename_i h1; exact fun c hc => ih _ _ _ _ _ _ _ _ h c (ih _ _ _ _ _ _ _ _ h1 c hc)
      · exact ih _ _ _ _ _ _ _ _ h
    | region id ops draw =>
      simp only [execY] at h
      split at h
      · rename_i h1
        split at h
        · injection h with h; subst h
          exact opsY_log _ _ _ _ _ _ _ _ h1
        · cases h
      · cases h
    | _ => simp [execY] at h
section
variable {P : Program} {T : Tab} {D base : Nat} {cx : CallY}
theorem execY_sound (hT : TOK P T) (hm : P.follows .mixedOrders = true) (hD : 0 < D) (hcx : CallYK P D cx) {B : Nat} :
    ∀ (n : Nat), (∀ (c : Code) (env : List AV) (st : Stores) (nx : Nat) (wr : List Nat) (tp : List Tk) (lg : List Ob) (o : OutY) (Q : PostA), execY T D B cx n c env st nx wr tp lg = some o → (∀ c ∈ o.lg, c.holds P) → Q o.x o.env o.st o.nx → WP P base c Q env st nx) ∧
      ∀ (c : Code) (env : List AV) (st : Stores) (nx : Nat) (wr : List Nat) (tp : List Tk) (lg : List Ob) (o : OutY) (Q : PostA), execY T D B cx n (.loop c) env st nx wr tp lg = some o → (∀ c ∈ o.lg, c.holds P) → Q o.x o.env o.st o.nx → WPL P base c Q env st nx := by
  intro n
  induction n with
  | zero => exact ⟨fun c env st nx wr tp lg o Q h => by simp [execY] at h, fun c env st nx wr tp lg o Q h => by simp [execY] at h⟩
  | succ n ihh =>
    obtain ⟨ih, ihL⟩ := ihh
    have loop : ∀ (c : Code) (env : List AV) (st : Stores) (nx : Nat) (wr : List Nat) (tp : List Tk) (lg : List Ob) (o : OutY) (Q : PostA), execY T D B cx (n + 1) (.loop c) env st nx wr tp lg = some o → (∀ c ∈ o.lg, c.holds P) → Q o.x o.env o.st o.nx → WPL P base c Q env st nx := by
      intro c env st nx wr tp lg o Q h hg hQ
      simp only [execY] at h
      split at h
      · rename_i env1 st1 nx1 wr1 tp1 lg1 h1
        exact WPL_unroll (ih _ _ _ _ _ _ _ _ _ h1 (fun c hc => hg c (execY_log _ _ _ _ _ _ _ _ _ h c hc)) (ihL _ _ _ _ _ _ _ _ _ h hg hQ))
      · rename_i hno
        refine WPL_unroll (ih _ _ _ _ _ _ _ _ _ h hg ?_)
        unfold loopK
        split
        · rename_i hx
          obtain ⟨x, e1, s1, n1, w1, t1, g1⟩ := o
          simp only at hx; subst hx
          exact absurd h (hno _ _ _ _ _ _)
        · exact hQ
    refine ⟨?_, loop⟩
    intro c env st nx wr tp lg o Q h hg hQ
    cases c with
    | skip => simp only [execY, Option.some.injEq] at h; subst h; exact WP_skip hQ
    | exit id => simp only [execY, Option.some.injEq] at h; subst h; exact WP_exit hQ
    | ret => simp only [execY, Option.some.injEq] at h; subst h; exact WP_ret hQ
    | seq a b =>
      simp only [execY] at h
      split at h
      · rename_i env1 st1 nx1 wr1 tp1 lg1 h1
        exact WP_seq (ih _ _ _ _ _ _ _ _ _ h1 (fun c hc => hg c (execY_log _ _ _ _ _ _ _ _ _ h c hc)) (ih _ _ _ _ _ _ _ _ _ h hg hQ))
      · rename_i hno
        refine WP_seq (ih _ _ _ _ _ _ _ _ _ h hg ?_)
        unfold seqK
        split
        · rename_i hx
          obtain ⟨x, e1, s1, n1, w1, t1, g1⟩ := o
          simp only at hx; subst hx
          exact absurd h (hno _ _ _ _ _ _)
        · exact hQ
    | cond c a b =>
      simp only [execY] at h
      split at h
      · rename_i t hc
        cases t
        · exact WP_cond hc (by simpa using ih _ _ _ _ _ _ _ _ _ h hg hQ)
        · exact WP_cond hc (by simpa using ih _ _ _ _ _ _ _ _ _ h hg hQ)
      · cases h
    | block id c =>
      simp only [execY] at h
      split at h
      · rename_i i env1 st1 nx1 wr1 tp1 lg1 h1
        refine WP_block (ih _ _ _ _ _ _ _ _ _ h1 ?_ ?_)
        · split at h <;> (injection h with h; subst h; exact hg)
        simp only [blockK]
        split at h
        · rename_i e; rw [if_pos e]; injection h with h; subst h; exact hQ
        · rename_i e; rw [if_neg e]; injection h with h; subst h; exact hQ
      · rename_i hno
        refine WP_block (ih _ _ _ _ _ _ _ _ _ h hg ?_)
        unfold blockK
        split
        · rename_i i hx
          obtain ⟨x, e1, s1, n1, w1, t1, g1⟩ := o
          simp only at hx; subst hx
          exact absurd h (hno _ _ _ _ _ _ _)
        · exact hQ
    | loop c => exact WP_loop (loop _ _ _ _ _ _ _ _ _ h hg hQ)
    | region id ops draw =>
      simp only [execY] at h
      split at h
      · rename_i env1 st1 acc tp1 lg1 h1
        split at h
        · rename_i hb
          injection h with h; subst h
          simp only [Bool.or_eq_true, Bool.not_eq_true', Bool.and_eq_true] at hb
          refine WP_region hT hm hD (fun hd => ?_) (opsY_sound hcx _ _ _ _ _ _ _ _ h1 hg ⟨fun hd => ?_, hQ⟩)
          · rcases hb with hb | hb
            · rw [hd] at hb; cases hb
            · exact hb.1
          · rcases hb with hb | hb
            · rw [hd] at hb; cases hb
            · exact hb.2
        · cases h
      · cases h
    | _ => simp [execY] at h
end
end Go.Proofs.Ytiondkijgpjgcaa.Pw
namespace Go.Proofs.Ytiondkijgpjgcaa.Pw
open Go Go.RowKit
theorem opsY_inv {T : Tab} {D : Nat} {cx : CallY} {ops : List Oper} {nx : Nat} : ∀ (l : List Oper) (i : Nat) (env : List AV) (st : Stores) (acc : List Eff) (tp : List Tk) (lg : List Ob) (r : List AV × Stores × List Eff × List Tk × List Ob), opsY cx T D ops nx l i env st acc tp lg = some r →
    ∃ es, r.2.2.1 = es ++ acc ∧ ∀ b, (∀ e ∈ es, ∀ x ∈ e.upd, x.1 ≠ b) → get r.2.1 b = get st b
  | [], i, env, st, acc, tp, lg, r, h => by
    simp only [opsY, Option.some.injEq] at h; subst h; exact ⟨[], rfl, fun _ _ => rfl⟩
  | o :: l, i, env, st, acc, tp, lg, r, h => by
    simp only [opsY] at h
    split at h
    · rename_i e tp' l1 he
      split at h
      · obtain ⟨es, h1, h2⟩ := opsY_inv l _ _ _ _ _ _ r h
        refine ⟨es ++ [e], by rw [h1]; simp, fun b hb => ?_⟩
        rw [h2 b fun e' he' => hb e' (by simp [he']), get_puts]
        exact upds_other _ _ _ (hb e (by simp))
      · cases h
    · cases h
theorem execY_inv {T : Tab} {D : Nat} {cx : CallY} {B : Nat} : ∀ (n : Nat) (c : Code) (env : List AV) (st : Stores) (nx : Nat) (wr : List Nat) (tp : List Tk) (lg : List Ob) (o : OutY), execY T D B cx n c env st nx wr tp lg = some o →
    (∀ b, b ∈ wr → b ∈ o.wr) ∧ ∀ b, b < B → b ∉ o.wr → get o.st b = get st b := by
  intro n
  induction n with
  | zero => intro c env st nx wr tp lg o h; simp [execY] at h
  | succ n ih =>
    intro c env st nx wr tp lg o h
    have two : ∀ {c1 c2 : Code} {env1 st1 nx1 wr1 tp1 lg1 x}, execY T D B cx n c1 env st nx wr tp lg = some ⟨x, env1, st1, nx1, wr1, tp1, lg1⟩ → execY T D B cx n c2 env1 st1 nx1 wr1 tp1 lg1 = some o → (∀ b, b ∈ wr → b ∈ o.wr) ∧ ∀ b, b < B → b ∉ o.wr → get o.st b = get st b := fun h1 h2 => by
      obtain ⟨a1, a2⟩ := ih _ _ _ _ _ _ _ _ h1
      obtain ⟨b1, b2⟩ := ih _ _ _ _ _ _ _ _ h2
      exact ⟨fun b hb => b1 b (a1 b hb), fun b hb hn => (b2 b hb hn).trans (a2 b hb fun hm => hn (b1 b hm))⟩
    cases c with
    | skip => simp only [execY, Option.some.injEq] at h; subst h; exact ⟨fun _ h => h, fun _ _ _ => rfl⟩
    | exit id => simp only [execY, Option.some.injEq] at h; subst h; exact ⟨fun _ h => h, fun _ _ _ => rfl⟩
    | ret => simp only [execY, Option.some.injEq] at h; subst h; exact ⟨fun _ h => h, fun _ _ _ => rfl⟩
    | seq a b =>
      simp only [execY] at h
      split at h
      · rename_i h1; exact two h1 h
      · exact ih _ _ _ _ _ _ _ _ h
    | cond c a b =>
      simp only [execY] at h
      split at h
      · rename_i t hc
        cases t <;> exact ih _ _ _ _ _ _ _ _ h
      · cases h
    | block id c =>
      simp only [execY] at h
      split at h
      · rename_i i env1 st1 nx1 wr1 tp1 lg1 h1
        have := ih _ _ _ _ _ _ _ _ h1
        split at h <;> (injection h with h; subst h; exact this)
      · exact ih _ _ _ _ _ _ _ _ h
    | loop c =>
      simp only [execY] at h
      split at h
      · rename_i h1; exact two h1 h
      · exact ih _ _ _ _ _ _ _ _ h
    | region id ops draw =>
      simp only [execY] at h
      split at h
      · rename_i env1 st1 acc tp1 lg1 h1
        split at h
        · injection h with h; subst h
          obtain ⟨es, e1, e2⟩ := opsY_inv _ _ _ _ _ _ _ _ h1
          simp only [List.append_nil] at e1
          subst e1
          obtain ⟨w1, w2⟩ := addW_spec B acc wr
          exact ⟨w1, fun b hb hn => e2 b fun e he x hx hxb => hn (hxb ▸ w2 e he x hx (by omega))⟩
        · cases h
      · cases h
    | _ => simp [execY] at h
def finY (T : Tab) (fuel l : Nat) (fn : Func) (st0 : Stores) (keys : List Nat) (new : Nat) (o : OutY) : Option Eff :=
  match o.x with
  | .exit _ => none
  | _ => if Nat.ble o.nx (new + Dl l) then match resAllB T o.env (get o.st) fn.results.toList with
    | some avs =>
      match (((reach fuel o.st (refsL avs ++ o.wr) []).filter (fun b => Nat.ble new b)) ++ o.wr).map fun b => (b, get o.st b) with
      | u => if u.all (fun x => ((get st0 x.1).isSome || Nat.ble new x.1) && Nat.blt x.1 (new + Dl l)) then some ⟨pack avs, u, keys⟩ else none
    | none => none
    else none
theorem SoundE.mono {P : Program} {D D' f : Nat} {args : List AV} {σ : Store} {new : Nat} {e : Eff} (hD : D ≤ D') (h : SoundE P D f args σ new e) : SoundE P D' f args σ new e :=
  ⟨h.1, fun F μ st W vs hrd hS hG hnew hl hv => (h.2 F μ st W vs hrd hS hG (fun i hi => hnew i (Nat.lt_of_lt_of_le hi hD)) hl hv).mono fun en W' ⟨v, μ', h1, h2, h3, h4, h5⟩ => ⟨v, μ', h1, h2, h3, h4, fun b hb => h5 b (hb.imp id fun h => by omega)⟩⟩
/-- Into the body of a function. -/
def intoY (P : Program) (T : Tab) (fuel l : Nat) (cx : CallY) (g : Nat) (args : List AV) (st : Stores) (new : Nat) (tp : List Tk) : Option (Eff × List Tk × List Ob) :=
  match P.funcs[g]? with
  | none => none
  | some fn => if fn.name == "runtime.NumGoroutine" then none else match fn.body with
    | none => none
    | some c => match reach fuel st (refsL args) [] with
      | keys => match pickS st keys with
        | st0 => if lts new args && st0.all (fun x => Nat.blt x.1 new && ltB new x.2) then
          match execY T (Dl l) new cx fuel c (args0 fn.ntmps args) st0 new [] tp [] with
          | some o => match finY T fuel (l + 1) fn st0 keys new o with
            | some e => some (e, o.tp, o.lg)
            | none => none
          | none => none
          else none
/-- Told: the functions whose answers are read off the tape. -/
def callY (P : Program) (T : Tab) (told : List Nat) (fuel : Nat) : Nat → CallY
  | 0, _, _, _, _, _ => none
  | l + 1, g, args, st, new, tp => match told.contains g, tp with
    | true, .r r :: tp => match frzs (get st) 99 args with
      | some (ps, rd) => some (⟨.p r, if r.flat then [] else rd.map fun b => (b, none), rd⟩, tp, [.call g ps r])
      | none => none
    | true, .f e :: tp => match allP args with
      | some ps => some (e new, tp, [.own g ps e])
      | none => none
    | true, .e :: tp => match intoY P T fuel l (callY P T told fuel l) g args st new tp with
      | some (e, tp, lg) => some (e, tp, .enter :: lg)
      | none => none
    | true, _ => none
    | false, tp => intoY P T fuel l (callY P T told fuel l) g args st new tp
theorem intoY_sound {P : Program} {T : Tab} (hT : TOK P T) (hm : P.follows .mixedOrders = true) (fuel l : Nat) {cx : CallY} (ih : CallYK P (Dl l) cx) : CallYK P (Dl (l + 1)) (intoY P T fuel l cx) := by
  intro g args st new tp r h hg
  unfold intoY at h
  dsimp only at h
  split at h
  · cases h
  · rename_i fn hf
    split at h
    · cases h
    · rename_i hnm
      split at h
      · cases h
      · rename_i c hb
        split at h
        · rename_i hc
          split at h
          · rename_i o ho
            simp only [Bool.and_eq_true, List.all_eq_true, Nat.blt_eq] at hc
            obtain ⟨hargs, hc⟩ := hc
            split at h
            rotate_left
            · cases h
            rename_i e he
            injection h with h; subst h
            replace h := he
            clear he
            unfold finY at h
            have key : o.x ≠ .normal ∧ o.x ≠ .ret → False := by
              intro ⟨h1, h2⟩
              cases hx : o.x with
              | normal => exact h1 hx
              | ret => exact h2 hx
              | exit i => rw [hx] at h; cases h
            split at h
            · cases h
            · split at h
              · rename_i hnx
                split at h
                · rename_i avs has
                  dsimp only at h
                  split at h
                  · rename_i hu
                    injection h with h; subst h
                    simp only [List.all_eq_true, Bool.and_eq_true, Bool.or_eq_true, Nat.ble_eq, Nat.blt_eq] at hu
                    refine SoundE.of_WP hT hf hb (by simpa using hnm) (pickS st (reach fuel st (refsL args) [])) (fun b k hk => ?_) hargs (fun x hx => ?_) ?_
                    · obtain ⟨h1, h2⟩ := get_pickS _ _ _ _ hk
                      have := hc (b, k) (mem_of_get _ _ _ hk)
                      exact ⟨h1, h2, this.1, ltB_cells this.2⟩
                    · have := hu x hx
                      refine ⟨this.1.imp (fun h => ?_) id, this.2⟩
                      intro h0; rw [h0] at h; cases h
                    · refine (execY_sound hT hm (Dl_pos l) ih fuel).1 c _ _ _ _ _ _ o _ ho hg ⟨by simpa using hnx, ?_⟩
                      obtain ⟨cc, hr, hcc⟩ := resAllB_spec has
                      have res : Res T fn.results.toList o.env o.st fun a => a = pack avs ∧ ∀ b k, upds (get (pickS st (reach fuel st (refsL args) []))) ((((reach fuel o.st (refsL avs ++ o.wr) []).filter (fun b => Nat.ble new b)) ++ o.wr).map fun b => (b, get o.st b)) b = some k → get o.st b = some k := by
                        unfold Res
                        rw [hr]
                        refine ⟨hcc, rfl, fun b k hk => ?_⟩
                        rcases upds_self _ _ _ _ _ hk with h1 | ⟨h1, h2⟩
                        · exact h1
                        · have hlt := (hc (b, k) (mem_of_get _ _ _ h2)).1
                          rw [(execY_inv _ _ _ _ _ _ _ _ _ ho).2 b hlt fun hw => h1 (by simp [hw])]
                          exact h2
                      cases hx : o.x with
                      | normal => exact res
                      | ret => exact res
                      | exit i => exact (key ⟨by simp [hx], by simp [hx]⟩).elim
                  · cases h
                · cases h
              · cases h
          · cases h
        · cases h
theorem callY_sound {P : Program} {T : Tab} (hT : TOK P T) (hm : P.follows .mixedOrders = true) (told : List Nat) (fuel : Nat) : ∀ (l : Nat), CallYK P (Dl l) (callY P T told fuel l) := by
  intro l
  induction l with
  | zero => intro g args st new tp r h; simp [callY] at h
  | succ l ih =>
    intro g args st new tp r h hg
    simp only [callY] at h
    split at h
    · split at h
      · rename_i ps rd hf
        injection h with h; subst h
        exact SoundE.of hf (hg (.call g ps _) (List.mem_singleton.2 rfl))
      · cases h
    · split at h
      · rename_i ps hp
        injection h with h; subst h
        rw [allP_spec hp]
        refine SoundE.mono ?_ (hg (.own g ps _) (List.mem_singleton.2 rfl) _ _)
        unfold Dl
        exact Nat.le_trans (by decide : 64 ≤ 2 ^ 32) (Nat.pow_le_pow_right (by decide) (by omega))
      · cases h
    · split at h
      · rename_i e tp' lg he
        injection h with h; subst h
        exact intoY_sound hT hm fuel l ih _ _ _ _ _ (e, tp', lg) he fun c hc => hg c (List.mem_cons_of_mem _ hc)
      · cases h
    · cases h
    · exact intoY_sound hT hm fuel l ih _ _ _ _ _ _ h hg
/-- A run of a function at certain values. -/
def runY (P : Program) (T : Tab) (told : List Nat) (fuel l f : Nat) (args : List PV) (tp : List Tk) : Option (PV × List Ob) :=
  match P.funcs[f]? with
  | none => none
  | some fn => if fn.name == "runtime.NumGoroutine" then none else match fn.body with
    | none => none
    | some c => match execY T (Dl l) 0 (callY P T told fuel l) fuel c (args0 fn.ntmps (args.map .p)) [] 0 [] tp [] with
      | some o => match o.x with
        | .exit _ => none
        | _ => match resAllB T o.env (get o.st) fn.results.toList with
          | some avs => match frz (get o.st) 99 (pack avs) with
            | some (p, _) => some (p, o.lg)
            | none => none
          | none => none
      | none => none
theorem runY_sound {P : Program} {T : Tab} (hT : TOK P T) (hm : P.follows .mixedOrders = true) {told : List Nat} {fuel l f : Nat} {args : List PV} {tp : List Tk} {res : PV} {lg : List Ob} (h : runY P T told fuel l f args tp = some (res, lg)) (hg : ∀ c ∈ lg, c.holds P) : Sound P f args res := by
  unfold runY at h
  split at h
  · cases h
  · rename_i fn hf
    split at h
    · cases h
    · rename_i hnm
      split at h
      · cases h
      · rename_i c hb
        split at h
        · rename_i o ho
          have key : o.x ≠ .normal ∧ o.x ≠ .ret → False := by
            intro ⟨h1, h2⟩
            cases hx : o.x with
            | normal => exact h1 hx
            | ret => exact h2 hx
            | exit i => rw [hx] at h; cases h
          split at h
          · cases h
          · split at h
            · rename_i avs has
              split at h
              · rename_i p rd hp
                injection h with h; injection h with h1 h2; subst h1; subst h2
                refine Sound.of_WP99 hT hf hb (by simpa using hnm) ?_
                refine (execY_sound hT hm (Dl_pos l) (callY_sound hT hm told fuel l) fuel).1 c _ _ _ _ _ _ o _ ho hg ?_
                obtain ⟨cc, hr, hcc⟩ := resAllB_spec has
                have res : Res T fn.results.toList o.env o.st fun a => ∃ rd, frz (get o.st) 99 a = some (p, rd) := by
                  unfold Res
                  rw [hr]
                  exact ⟨hcc, rd, hp⟩
                cases hx : o.x with
                | normal => exact res
                | ret => exact res
                | exit i => exact (key ⟨by simp [hx], by simp [hx]⟩).elim
              · cases h
            · cases h
        · cases h
theorem runO {P : Program} {T : Tab} (hT : TOK P T) (hm : P.follows .mixedOrders = true) {f : Nat} {args : List PV} {res : PV} {lg : List Ob} (told : List Nat) (fuel l : Nat) (hg : ∀ c ∈ lg, c.holds P) (h : runY P T told fuel l f args (lg.map Ob.tk) = some (res, lg)) : Sound P f args res :=
  runY_sound hT hm h hg
theorem Obs.nil {P : Program} : ∀ c ∈ ([] : List Ob), c.holds P := fun c h => by cases h
theorem Obs.cons {P : Program} {g : Nat} {ps : List PV} {r : PV} {l : List Ob} (h : Sound P g ps r) (k : ∀ c ∈ l, c.holds P) : ∀ c ∈ Ob.call g ps r :: l, c.holds P := fun c hc => by
  rcases List.mem_cons.1 hc with rfl | hc
  · exact h
  · exact k c hc
theorem Obs.br {P : Program} {t v : Bool} {l : List Ob} (n : Nat) (h : t = v) (k : ∀ c ∈ l, c.holds P) : ∀ c ∈ Ob.br n t v :: l, c.holds P := fun c hc => by
  rcases List.mem_cons.1 hc with rfl | hc
  · exact h
  · exact k c hc
theorem Obs.val {P : Program} {t z : Int} {l : List Ob} (n : Nat) (h : t = z) (k : ∀ c ∈ l, c.holds P) : ∀ c ∈ Ob.val n t z :: l, c.holds P := fun c hc => by
  rcases List.mem_cons.1 hc with rfl | hc
  · exact h
  · exact k c hc
theorem Obs.enter {P : Program} {l : List Ob} (k : ∀ c ∈ l, c.holds P) : ∀ c ∈ Ob.enter :: l, c.holds P := fun c hc => by
  rcases List.mem_cons.1 hc with rfl | hc
  · trivial
  · exact k c hc
theorem Obs.own {P : Program} {g : Nat} {ps : List PV} {l : List Ob} (e : Nat → Eff) (h : ∀ (σ : Store) (new : Nat), SoundE P 64 g (ps.map .p) σ new (e new)) (k : ∀ c ∈ l, c.holds P) : ∀ c ∈ Ob.own g ps e :: l, c.holds P := fun c hc => by
  rcases List.mem_cons.1 hc with rfl | hc
  · exact h
  · exact k c hc
end Go.Proofs.Ytiondkijgpjgcaa.Pw
namespace Go.Proofs.Ytiondkijgpjgcaa.Pw
open Go.RowKit hiding wrap64
open Go Wd
theorem ltT {a b : Int} (h : a < b) : ltI a b = true := by rw [ltI_eq]; simpa using h
theorem ltF {a b : Int} (h : ¬ a < b) : ltI a b = false := by rw [ltI_eq]; simpa using h
theorem leT {a b : Int} (h : a ≤ b) : (!ltI b a) = true := by rw [leI_eq]; simpa using h
theorem leF {a b : Int} (h : ¬ a ≤ b) : (!ltI b a) = false := by rw [leI_eq]; simpa using h
theorem wI {n : Int} (h : -9223372036854775808 ≤ n) (h' : n ≤ 9223372036854775807) : IntKind.i64.wrap n = n := by rw [wrap_i64]; exact w64 h h'
theorem eqT {a b : Int} (h : a = b) : decide (a = b) = true := by simpa using h
theorem eqF {a b : Int} (h : a ≠ b) : decide (a = b) = false := by simpa using h
theorem neF {a b : Int} (h : a = b) : (!decide (a = b)) = false := by simpa using h
theorem neT {a b : Int} (h : a ≠ b) : (!decide (a = b)) = true := by simpa using h
end Go.Proofs.Ytiondkijgpjgcaa.Pw
namespace Go.Proofs.Ytiondkijgpjgcaa.Px
open Go.Proofs.Ytiondkijgpjgcaa.Wd Go.Proofs.Ytiondkijgpjgcaa.Mat
set_option linter.unusedVariables false
structure Rt where
  neg : Bool
  p : List Int
  q : List Int
  deriving Inhabited
abbrev zR : Rt := ⟨false, [], []⟩
def redS (neg : Bool) (p q : List Int) : Rt := ⟨neg && decide (0 < (dg (val p / gcdI (val p) (val q))).length), dg (val p / gcdI (val p) (val q)), dg (val q / gcdI (val p) (val q))⟩
theorem gcd_facts {p q : List Int} (hp : okN p = true) (hq : okN q = true) (hq0 : q ≠ []) : okN (dg (gcdI (val p) (val q))) = true ∧ dg (gcdI (val p) (val q)) ≠ [] ∧ val (dg (gcdI (val p) (val q))) = gcdI (val p) (val q) := by
  have oq := okN_iff.1 hq
  have hqp := val_pos oq.2 hq0
  have h0 := gcdI_nonneg (val p) (val q)
  have h1 : gcdI (val p) (val q) ≤ val q := gcdI_le_right hqp
  have h2 := oq.lt
  refine ⟨okN_iff.2 (ok_dg h0 (by omega)), ?_, val_dg h0⟩
  intro e
  have := (dg_nil h0).1 e
  unfold gcdI at this
  have h3 : Nat.gcd (val p).toNat (val q).toNat = 0 := by omega
  have h4 := (Nat.gcd_eq_zero_iff.1 h3).2
  omega

def inR (n : Int) : Bool := decide (-1125899906842624 ≤ n) && decide (n ≤ 1125899906842624)
def absI (n : Int) : Int := if n < 0 then -n else n
def makeS (p q : Int) : Rt × Int := if inR p = true ∧ inR q = true then (if q = 0 then (zR, 16) else (redS (!(decide (p < 0) == decide (q < 0))) (dg (absI p)) (dg (absI q)), 0)) else (zR, 1)
theorem absI_ok {n : Int} (h : inR n = true) : okN (dg (absI n)) = true ∧ (n ≠ 0 → dg (absI n) ≠ []) := by
  have h1 : -1125899906842624 ≤ n ∧ n ≤ 1125899906842624 := by simpa [inR] using h
  have h0 : 0 ≤ absI n := by unfold absI; split <;> omega
  have h2 : absI n < pw 48 := by
    have : absI n ≤ 1125899906842624 := by unfold absI; split <;> omega
    have : (1125899906842624 : Int) < pw 48 := by decide
    omega
  refine ⟨okN_iff.2 (ok_dg h0 h2), fun hn e => ?_⟩
  have := (dg_nil h0).1 e
  unfold absI at this
  split at this <;> omega
def rvB (x : Rt) : Bool := okN x.p && (okN x.q && (!decide (x.q.length = 0) && (!(x.neg && decide (x.p.length = 0)) && decide (gcdI (val x.p) (val x.q) = 1))))
theorem dg_one_iff {n : Int} (h : 0 ≤ n) : dg n = [1] ↔ n = 1 := by
  constructor
  · intro e
    have h1 := val_dg h
    rw [e] at h1
    simpa [val] using h1.symm
  · rintro rfl
    rw [dg_pos (by decide)]
    show (1 % 1000000000 : Int) :: dg (1 / 1000000000) = [1]
    rw [show (1 : Int) / 1000000000 = 0 from rfl, dg_zero]
    rfl
theorem rvB_iff {x : Rt} : rvB x = true ↔ okN x.p = true ∧ okN x.q = true ∧ x.q ≠ [] ∧ (x.neg = true → x.p ≠ []) ∧ gcdI (val x.p) (val x.q) = 1 := by
  unfold rvB
  cases x.neg <;> simp
def mulR (x y : Rt) : Rt × Int := if rvB x = true ∧ rvB y = true then (if (mulS x.p y.p).2 = 0 then (if (mulS x.q y.q).2 = 0 then (redS (!(x.neg == y.neg)) (mulS x.p y.p).1 (mulS x.q y.q).1, 0) else (zR, (mulS x.q y.q).2)) else (zR, (mulS x.p y.p).2)) else (zR, 3)
theorem mulS_ok {a b : List Int} (ha : okN a = true) (hb : okN b = true) : mulS a b = fitS (val a * val b) := by unfold mulS; rw [if_pos ⟨ha, hb⟩]
theorem fit_facts {n : Int} (h0 : 0 ≤ n) {m : List Int} (h : fitS n = (m, 0)) : okN m = true ∧ val m = n ∧ (n ≠ 0 → m ≠ []) ∧ m = dg n := by
  unfold fitS at h
  split at h
  · rename_i hl
    injection h with h1 _
    subst h1
    exact ⟨okN_iff.2 (ok_dg h0 hl), val_dg h0, fun hn e => hn ((dg_nil h0).1 e), rfl⟩
  · injection h with _ h2
    exact absurd h2 (by decide)
theorem fitS_cases (n : Int) : fitS n = (dg n, 0) ∨ fitS n = ([], 2) := by unfold fitS; split <;> simp
def plusS (na : Bool) (x : List Int) (nb : Bool) (y : List Int) : Bool × List Int × Int := if na = nb then (na, addS x y) else if cmpS (val x) (val y) < 0 then (nb, subS y x) else (na, subS x y)
def addR (x y : Rt) : Rt × Int := if rvB x = true ∧ rvB y = true then (if (mulS x.p y.q).2 = 0 ∧ (mulS y.p x.q).2 = 0 ∧ (mulS x.q y.q).2 = 0 ∧ (plusS x.neg (mulS x.p y.q).1 y.neg (mulS y.p x.q).1).2.2 = 0 then (redS (plusS x.neg (mulS x.p y.q).1 y.neg (mulS y.p x.q).1).1 (plusS x.neg (mulS x.p y.q).1 y.neg (mulS y.p x.q).1).2.1 (mulS x.q y.q).1, 0) else (zR, 2)) else (zR, 3)
theorem fitS_ok {n : Int} (h0 : 0 ≤ n) : okN (fitS n).1 = true ∧ ((fitS n).2 = 0 ∨ (fitS n).2 = 2) := by
  rcases fitS_cases n with h | h
  · have := fit_facts h0 h
    rw [h]
    exact ⟨this.1, .inl rfl⟩
  · rw [h]
    exact ⟨rfl, .inr rfl⟩
theorem plusS_ok {m n : Bool} {a b : List Int} (ha : okN a = true) (hb : okN b = true) : okN (plusS m a n b).2.1 = true ∧ ((plusS m a n b).2.2 = 0 ∨ (plusS m a n b).2.2 = 2) := by
  have oa := okN_iff.1 ha
  have ob := okN_iff.1 hb
  have na := oa.nonneg
  have nb := ob.nonneg
  unfold plusS
  split
  · have : addS a b = fitS (val a + val b) := by unfold addS; rw [if_pos ⟨ha, hb⟩]
    simp only [this]
    exact fitS_ok (by omega)
  · split
    · rename_i h
      have h' : val a < val b := by
        unfold cmpS at h
        split at h
        · assumption
        · split at h <;> omega
      have : subS b a = (dg (val b - val a), 0) := by unfold subS; rw [if_pos ⟨hb, ha⟩, if_neg (by omega)]
      simp only [this]
      refine ⟨okN_iff.2 (ok_dg (by omega) (by have := ob.lt; omega)), by simp⟩
    · rename_i h
      have h' : val b ≤ val a := by
        unfold cmpS at h
        split at h
        · omega
        · omega
      have : subS a b = (dg (val a - val b), 0) := by unfold subS; rw [if_pos ⟨ha, hb⟩, if_neg (by omega)]
      simp only [this]
      refine ⟨okN_iff.2 (ok_dg (by omega) (by have := oa.lt; omega)), by simp⟩
def negR (x : Rt) : Rt := ⟨!x.neg && decide (0 < x.p.length), x.p, x.q⟩
def subR (x y : Rt) : Rt × Int := if rvB x = true ∧ rvB y = true then addR x (negR y) else (zR, 3)
def timesR (x : Rt) (p q : Int) : Rt := (mulR x (makeS p q).1).1
def checkS (f r c : Int) : Int := if f < 0 ∨ 1099511627776 < f then 1 else if r < 1 ∨ 1000 < r ∨ c < 0 ∨ 999 < c then 18 else 0
def whiteS (x : Rt) : Int := if rvB x = true then (if x.neg = true then 1 else if 8 < x.p.length ∨ 8 < x.q.length then 32 else 0) else 3
def beginS (f r c : Int) (x : Rt) : Int := if checkS f r c = 0 then whiteS x else checkS f r c
end Go.Proofs.Ytiondkijgpjgcaa.Px
namespace Go.Proofs.Ytiondkijgpjgcaa.Px
open Go.Proofs.Ytiondkijgpjgcaa.Wd Go.Proofs.Ytiondkijgpjgcaa.Mat
set_option linter.unusedVariables false
def nn (x : Rt) : Int := if x.neg = true then -(val x.p) else val x.p
def dd (x : Rt) : Int := val x.q
theorem red_facts {a b : Int} (ha : 0 ≤ a) (hb : 0 < b) : 0 < gcdI a b ∧ a / gcdI a b * gcdI a b = a ∧ b / gcdI a b * gcdI a b = b ∧ 0 ≤ a / gcdI a b ∧ 0 < b / gcdI a b ∧ a / gcdI a b ≤ a ∧ b / gcdI a b ≤ b ∧ gcdI (a / gcdI a b) (b / gcdI a b) = 1 := by
  obtain ⟨m, rfl⟩ := Int.eq_ofNat_of_zero_le ha
  obtain ⟨n, rfl⟩ := Int.eq_ofNat_of_zero_le (Int.le_of_lt hb)
  have hn : 0 < n := by omega
  have hg : gcdI (m : Int) (n : Int) = ((Nat.gcd m n : Nat) : Int) := by simp [gcdI]
  have hp : 0 < Nat.gcd m n := Nat.gcd_pos_of_pos_right _ hn
  rw [hg]
  have e1 : (m : Int) / ((Nat.gcd m n : Nat) : Int) = ((m / Nat.gcd m n : Nat) : Int) := by simp
  have e2 : (n : Int) / ((Nat.gcd m n : Nat) : Int) = ((n / Nat.gcd m n : Nat) : Int) := by simp
  rw [e1, e2]
  have f1 := Nat.div_mul_cancel (Nat.gcd_dvd_left m n)
  have f2 := Nat.div_mul_cancel (Nat.gcd_dvd_right m n)
  have f3 := Nat.div_le_self m (Nat.gcd m n)
  have f4 := Nat.div_le_self n (Nat.gcd m n)
  have f5 := Nat.gcd_div_gcd_div_gcd_of_pos_right (n := m) hn
  have f6 : 0 < n / Nat.gcd m n := Nat.div_pos (Nat.le_of_dvd hn (Nat.gcd_dvd_right m n)) hp
  generalize m / Nat.gcd m n = a at *
  generalize n / Nat.gcd m n = b at *
  refine ⟨by omega, by exact_mod_cast f1, by exact_mod_cast f2, by omega, by omega, by omega, by omega, ?_⟩
  simp only [gcdI, Int.toNat_natCast, f5]
  rfl
theorem rv_facts {x : Rt} (h : rvB x = true) : 0 < dd x ∧ 0 ≤ val x.p ∧ (x.neg = true → 0 < val x.p) ∧ gcdI (val x.p) (val x.q) = 1 ∧ dg (val x.p) = x.p ∧ dg (val x.q) = x.q := by
  obtain ⟨h1, h2, h3, h4, h5⟩ := rvB_iff.1 h
  have o1 := okN_iff.1 h1
  have o2 := okN_iff.1 h2
  exact ⟨val_pos o2.2 h3, o1.nonneg, fun hn => val_pos o1.2 (h4 hn), h5, dg_val o1.2, dg_val o2.2⟩
theorem neg_iff {x : Rt} (h : rvB x = true) : x.neg = true ↔ nn x < 0 := by
  obtain ⟨h1, h2, h3, _⟩ := rv_facts h
  unfold nn
  constructor
  · intro hn
    have := h3 hn
    rw [if_pos hn]
    omega
  · intro hl
    by_cases hn : x.neg = true
    · exact hn
    · rw [if_neg hn] at hl
      omega
theorem neg_false {x : Rt} (h : rvB x = true) (h0 : 0 ≤ nn x) : x.neg = false := by
  have := neg_iff h
  cases hn : x.neg
  · rfl
  · have := this.1 hn
    omega
theorem redS_ok (neg : Bool) {p q : List Int} (hp : okN p = true) (hq : okN q = true) (hq0 : q ≠ []) : rvB (redS neg p q) = true ∧ nn (redS neg p q) * val q = (if neg = true then -(val p) else val p) * dd (redS neg p q) := by
  have o1 := okN_iff.1 hp
  have o2 := okN_iff.1 hq
  have hqp := val_pos o2.2 hq0
  obtain ⟨g0, g1, g2, g3, g4, g5, g6, g7⟩ := red_facts o1.nonneg hqp
  have l1 := o1.lt
  have l2 := o2.lt
  have k1 := ok_dg g3 (by omega)
  have k2 := ok_dg (Int.le_of_lt g4) (by omega)
  have v1 := val_dg g3
  have v2 := val_dg (Int.le_of_lt g4)
  have z2 : dg (val q / gcdI (val p) (val q)) ≠ [] := fun e => by have := (dg_nil (Int.le_of_lt g4)).1 e; omega
  have hl : (0 < (dg (val p / gcdI (val p) (val q))).length) ↔ 0 < val p / gcdI (val p) (val q) := by
    constructor
    · intro h
      have : val p / gcdI (val p) (val q) ≠ 0 := fun e => by rw [e, dg_zero] at h; simp at h
      omega
    · intro h
      have : dg (val p / gcdI (val p) (val q)) ≠ [] := fun e => by have := (dg_nil g3).1 e; omega
      exact List.length_pos_iff.2 this
  constructor
  · refine rvB_iff.2 ⟨okN_iff.2 k1, okN_iff.2 k2, z2, ?_, ?_⟩
    · intro h e
      simp only [redS, Bool.and_eq_true, decide_eq_true_eq] at h e
      rw [e] at h
      simp at h
    · simp only [redS, v1, v2]
      exact g7
  · have hz : redS neg p q = ⟨neg && decide (0 < (dg (val p / gcdI (val p) (val q))).length), dg (val p / gcdI (val p) (val q)), dg (val q / gcdI (val p) (val q))⟩ := rfl
    rw [hz]
    generalize val p / gcdI (val p) (val q) = a at *
    generalize val q / gcdI (val p) (val q) = b at *
    generalize gcdI (val p) (val q) = g at *
    have e1 : dd ⟨neg && decide (0 < (dg a).length), dg a, dg b⟩ = b := v2
    have e2 : nn ⟨neg && decide (0 < (dg a).length), dg a, dg b⟩ = if neg = true then -a else a := by
      simp only [nn]
      cases neg
      · simp [v1]
      · by_cases ha : 0 < a
        · have := hl.2 ha
          simp [this, v1]
        · have h0 : a = 0 := by omega
          subst h0
          simp [dg_zero, val]
    rw [e1, e2, ← g1, ← g2]
    cases neg
    · simp only [Bool.false_eq_true, if_false]
      grind
    · simp only [if_true]
      grind
theorem canon {x y : Rt} (hx : rvB x = true) (hy : rvB y = true) (h : nn x * dd y = nn y * dd x) : x = y := by
  obtain ⟨a1, a2, a3, a4, a5, a6⟩ := rv_facts hx
  obtain ⟨b1, b2, b3, b4, b5, b6⟩ := rv_facts hy
  obtain ⟨xn, xp, xq⟩ := x
  obtain ⟨yn, yp, yq⟩ := y
  simp only [nn, dd] at *
  have key : ∀ P Q P' Q' : Int, 0 ≤ P → 0 < Q → 0 ≤ P' → 0 < Q' → gcdI P Q = 1 → gcdI P' Q' = 1 → P * Q' = P' * Q → P = P' ∧ Q = Q' := by
    intro P Q P' Q' h1 h2 h3 h4 h5 h6 h7
    obtain ⟨p, rfl⟩ := Int.eq_ofNat_of_zero_le h1
    obtain ⟨q, rfl⟩ := Int.eq_ofNat_of_zero_le (Int.le_of_lt h2)
    obtain ⟨p', rfl⟩ := Int.eq_ofNat_of_zero_le h3
    obtain ⟨q', rfl⟩ := Int.eq_ofNat_of_zero_le (Int.le_of_lt h4)
    simp only [gcdI, Int.toNat_natCast] at h5 h6
    have h5' : Nat.gcd p q = 1 := by exact_mod_cast h5
    have h6' : Nat.gcd p' q' = 1 := by exact_mod_cast h6
    have h7' : p * q' = p' * q := by exact_mod_cast h7
    have d1 : q ∣ q' := by
      have : q ∣ p * q' := ⟨p', by rw [h7', Nat.mul_comm]⟩
      exact Nat.Coprime.dvd_of_dvd_mul_left (by rw [Nat.Coprime, Nat.gcd_comm]; exact h5') this
    have d2 : q' ∣ q := by
      have : q' ∣ p' * q := ⟨p, by rw [← h7', Nat.mul_comm]⟩
      exact Nat.Coprime.dvd_of_dvd_mul_left (by rw [Nat.Coprime, Nat.gcd_comm]; exact h6') this
    have e := Nat.dvd_antisymm d1 d2
    subst e
    have : p = p' := Nat.eq_of_mul_eq_mul_right (by omega) h7'
    subst this
    exact ⟨rfl, rfl⟩
  have fin : ∀ (n : Bool), val xp * val yq = val yp * val xq → xn = yn → (⟨xn, xp, xq⟩ : Rt) = ⟨yn, yp, yq⟩ := by
    intro _ he hn
    obtain ⟨e1, e2⟩ := key _ _ _ _ a2 a1 b2 b1 a4 b4 he
    rw [hn, ← a5, ← a6, ← b5, ← b6, e1, e2]
  cases xn <;> cases yn <;> simp only [Bool.false_eq_true, if_false, if_true, true_implies] at h a3 b3
  · exact fin true h rfl
  · exfalso
    have h1 : 0 ≤ val xp * val yq := Int.mul_nonneg a2 (Int.le_of_lt b1)
    have h2 : 0 < val yp * val xq := Int.mul_pos b3 a1
    rw [Int.neg_mul] at h
    omega
  · exfalso
    have h1 : 0 ≤ val yp * val xq := Int.mul_nonneg b2 (Int.le_of_lt a1)
    have h2 : 0 < val xp * val yq := Int.mul_pos a3 b1
    rw [Int.neg_mul] at h
    omega
  · rw [Int.neg_mul, Int.neg_mul] at h
    exact fin true (by omega) rfl
theorem mulR_ok {x y z : Rt} {e : Int} (h : mulR x y = (z, e)) : (e = 0 ∧ rvB x = true ∧ rvB y = true ∧ rvB z = true ∧ nn z * (dd x * dd y) = nn x * nn y * dd z) ∨ (e ≠ 0 ∧ z = zR) := by
  unfold mulR at h
  split at h
  · rename_i hv
    obtain ⟨hx, hy⟩ := hv
    obtain ⟨x1, x2, x3, x4, x5⟩ := rvB_iff.1 hx
    obtain ⟨y1, y2, y3, y4, y5⟩ := rvB_iff.1 hy
    have n1 := (okN_iff.1 x1).nonneg
    have n2 := (okN_iff.1 y1).nonneg
    have q1 := val_pos (okN_iff.1 x2).2 x3
    have q2 := val_pos (okN_iff.1 y2).2 y3
    rw [mulS_ok x1 y1, mulS_ok x2 y2] at h
    rcases fitS_cases (val x.p * val y.p) with f1 | f1 <;> rcases fitS_cases (val x.q * val y.q) with f2 | f2 <;> rw [f1, f2] at h <;> simp at h
    · obtain ⟨hz, he⟩ := h
      have k1 := fit_facts (Int.mul_nonneg n1 n2) f1
      have k2 := fit_facts (Int.mul_nonneg (Int.le_of_lt q1) (Int.le_of_lt q2)) f2
      have r := redS_ok (!(x.neg == y.neg)) k1.1 k2.1 (k2.2.2.1 (by have := Int.mul_pos q1 q2; omega))
      have hz' : redS (!(x.neg == y.neg)) (dg (val x.p * val y.p)) (dg (val x.q * val y.q)) = z := by simpa using hz
      rw [hz'] at r
      refine .inl ⟨he.symm, hx, hy, r.1, ?_⟩
      have r2 := r.2
      rw [k1.2.1, k2.2.1] at r2
      unfold dd nn at *
      cases hxn : x.neg <;> cases hyn : y.neg <;> simp [hxn, hyn] at r2 ⊢ <;> grind
    all_goals (obtain ⟨hz, he⟩ := h; exact .inr ⟨by omega, by rw [← hz]⟩)
  · injection h with h1 h2
    exact .inr ⟨by omega, h1.symm⟩
theorem plusS_val {m n : Bool} {a b : List Int} (ha : okN a = true) (hb : okN b = true) (h : (plusS m a n b).2.2 = 0) : (if (plusS m a n b).1 = true then -(val (plusS m a n b).2.1) else val (plusS m a n b).2.1) = (if m = true then -(val a) else val a) + (if n = true then -(val b) else val b) := by
  have oa := okN_iff.1 ha
  have ob := okN_iff.1 hb
  have na := oa.nonneg
  have nb := ob.nonneg
  unfold plusS at h ⊢
  split at h
  · rename_i e
    subst e
    have e1 : addS a b = fitS (val a + val b) := by unfold addS; rw [if_pos ⟨ha, hb⟩]
    simp only [if_true]
    rw [e1] at h ⊢
    have e2 : fitS (val a + val b) = ((fitS (val a + val b)).1, 0) := by rw [← h]
    have k := fit_facts (by omega) e2
    rw [k.2.1]
    cases m <;> simp <;> omega
  · rename_i e
    rw [if_neg e]
    have e' : n = !m := by cases m <;> cases n <;> simp at e ⊢
    subst e'
    split at h
    · rename_i hc
      rw [if_pos hc]
      have h' : val a < val b := by
        unfold cmpS at hc
        split at hc
        · assumption
        · split at hc <;> omega
      have e1 : subS b a = (dg (val b - val a), 0) := by unfold subS; rw [if_pos ⟨hb, ha⟩, if_neg (by omega)]
      rw [e1]
      simp only
      rw [val_dg (by omega)]
      cases m <;> simp <;> omega
    · rename_i hc
      rw [if_neg hc]
      have h' : val b ≤ val a := by
        unfold cmpS at hc
        split at hc <;> omega
      have e1 : subS a b = (dg (val a - val b), 0) := by unfold subS; rw [if_pos ⟨ha, hb⟩, if_neg (by omega)]
      rw [e1]
      simp only
      rw [val_dg (by omega)]
      cases m <;> simp <;> omega
theorem addR_ok {x y z : Rt} {e : Int} (h : addR x y = (z, e)) : (e = 0 ∧ rvB x = true ∧ rvB y = true ∧ rvB z = true ∧ nn z * (dd x * dd y) = (nn x * dd y + nn y * dd x) * dd z) ∨ (e ≠ 0 ∧ z = zR) := by
  unfold addR at h
  split at h
  · rename_i hv
    obtain ⟨hx, hy⟩ := hv
    obtain ⟨x1, x2, x3, x4, x5⟩ := rvB_iff.1 hx
    obtain ⟨y1, y2, y3, y4, y5⟩ := rvB_iff.1 hy
    have n1 := (okN_iff.1 x1).nonneg
    have n2 := (okN_iff.1 y1).nonneg
    have q1 := val_pos (okN_iff.1 x2).2 x3
    have q2 := val_pos (okN_iff.1 y2).2 y3
    have g1 := mulS_ok x1 y2
    have g2 := mulS_ok y1 x2
    have g3 := mulS_ok x2 y2
    split at h
    · rename_i hz
      obtain ⟨z1, z2, z3, z4⟩ := hz
      injection h with h1 h2
      have p1 : fitS (val x.p * val y.q) = ((mulS x.p y.q).1, 0) := by rw [← g1, ← z1]
      have p2 : fitS (val y.p * val x.q) = ((mulS y.p x.q).1, 0) := by rw [← g2, ← z2]
      have p3 : fitS (val x.q * val y.q) = ((mulS x.q y.q).1, 0) := by rw [← g3, ← z3]
      have k1 := fit_facts (Int.mul_nonneg n1 (Int.le_of_lt q2)) p1
      have k2 := fit_facts (Int.mul_nonneg n2 (Int.le_of_lt q1)) p2
      have k3 := fit_facts (Int.mul_nonneg (Int.le_of_lt q1) (Int.le_of_lt q2)) p3
      have k4 := plusS_val (m := x.neg) (n := y.neg) k1.1 k2.1 z4
      have k5 := plusS_ok (m := x.neg) (n := y.neg) k1.1 k2.1
      have r := redS_ok (plusS x.neg (mulS x.p y.q).1 y.neg (mulS y.p x.q).1).1 k5.1 k3.1 (k3.2.2.1 (by have := Int.mul_pos q1 q2; omega))
      rw [h1] at r
      refine .inl ⟨h2.symm, hx, hy, r.1, ?_⟩
      have r2 := r.2
      rw [k4, k1.2.1, k2.2.1, k3.2.1] at r2
      unfold dd nn at *
      cases hxn : x.neg <;> cases hyn : y.neg <;> simp [hxn, hyn] at r2 ⊢ <;> grind
    · injection h with h1 h2
      exact .inr ⟨by omega, h1.symm⟩
  · injection h with h1 h2
    exact .inr ⟨by omega, h1.symm⟩
end Go.Proofs.Ytiondkijgpjgcaa.Px
namespace Go.Proofs.Ytiondkijgpjgcaa.Px
open Go.Proofs.Ytiondkijgpjgcaa.Wd Go.Proofs.Ytiondkijgpjgcaa.Mat
set_option linter.unusedVariables false
theorem makeS_ok {p q : Int} (hp : inR p = true) (hq : inR q = true) (h0 : 0 < q) {z : Rt} {e : Int} (h : makeS p q = (z, e)) : e = 0 ∧ rvB z = true ∧ nn z * q = p * dd z := by
  unfold makeS at h
  rw [if_pos ⟨hp, hq⟩, if_neg (by omega)] at h
  injection h with h1 h2
  obtain ⟨a1, a2⟩ := absI_ok hp
  obtain ⟨b1, b2⟩ := absI_ok hq
  have r := redS_ok (!(decide (p < 0) == decide (q < 0))) a1 b1 (b2 (by omega))
  rw [h1] at r
  have v1 : val (dg (absI p)) = absI p := val_dg (by unfold absI; split <;> omega)
  have v2 : val (dg (absI q)) = absI q := val_dg (by unfold absI; split <;> omega)
  refine ⟨h2.symm, r.1, ?_⟩
  have r2 := r.2
  rw [v1, v2] at r2
  have e1 : absI q = q := by unfold absI; rw [if_neg (by omega)]
  rw [e1] at r2
  rw [r2]
  congr 1
  unfold absI
  by_cases hn : p < 0
  · rw [if_pos (by simp [hn]; omega), if_pos hn]
    omega
  · rw [if_neg (by simp [hn]; omega), if_neg hn]
theorem makeS_neg {p q : Int} (hp : 0 ≤ p) (hq : 0 < q) : (makeS p q).1.neg = false := by
  unfold makeS
  split
  · split
    · rfl
    · simp only [redS]
      have : (decide (p < 0)) = false := by simp; omega
      have : (decide (q < 0)) = false := by simp; omega
      simp [*]
  · rfl
theorem negR_ok {x : Rt} (h : rvB x = true) : rvB (negR x) = true ∧ nn (negR x) = -(nn x) ∧ dd (negR x) = dd x := by
  obtain ⟨h1, h2, h3, h4, h5⟩ := rvB_iff.1 h
  have o1 := okN_iff.1 h1
  have hl : 0 < x.p.length ↔ 0 < val x.p := by
    constructor
    · intro h
      exact val_pos o1.2 (List.length_pos_iff.1 h)
    · intro h
      refine List.length_pos_iff.2 (fun e => ?_)
      rw [e] at h
      simp [val] at h
  refine ⟨rvB_iff.2 ⟨h1, h2, h3, ?_, h5⟩, ?_, rfl⟩
  · intro hn e
    simp only [negR, Bool.and_eq_true, decide_eq_true_eq] at hn e
    rw [e] at hn
    simp at hn
  · have hn := o1.nonneg
    have h4' := fun hx => val_pos o1.2 (h4 hx)
    clear h h4 h5 h2 h3
    obtain ⟨xn, xp, xq⟩ := x
    simp only [negR, nn] at *
    cases xn
    · by_cases hp : 0 < val xp
      · simp [hl.2 hp]
      · have : ¬ 0 < xp.length := fun h => hp (hl.1 h)
        simp only [this, decide_false, Bool.and_false, Bool.false_eq_true, if_false]
        omega
    · simp
theorem subR_ok {x y z : Rt} {e : Int} (h : subR x y = (z, e)) : (e = 0 ∧ rvB x = true ∧ rvB y = true ∧ rvB z = true ∧ nn z * (dd x * dd y) = (nn x * dd y - nn y * dd x) * dd z) ∨ (e ≠ 0 ∧ z = zR) := by
  unfold subR at h
  split at h
  · rename_i hv
    obtain ⟨n1, n2, n3⟩ := negR_ok hv.2
    rcases addR_ok h with ⟨h1, h2, h3, h4, h5⟩ | h
    · refine .inl ⟨h1, h2, hv.2, h4, ?_⟩
      rw [n2, n3] at h5
      rw [h5]
      grind
    · exact .inr h
  · injection h with h1 h2
    exact .inr ⟨by omega, h1.symm⟩
theorem nonneg_of_mul {a k : Int} (hk : 0 < k) (h : 0 ≤ a * k) : 0 ≤ a := by
  rcases Int.lt_or_le a 0 with h1 | h1
  · have := Int.mul_neg_of_neg_of_pos h1 hk
    omega
  · exact h1
theorem addR_neg {x y : Rt} (hx : x.neg = false) (hy : y.neg = false) : (addR x y).1.neg = false := by
  unfold addR
  split
  · split
    · have : (plusS x.neg (mulS x.p y.q).1 y.neg (mulS y.p x.q).1).1 = false := by unfold plusS; rw [hx, hy, if_pos rfl]
      simp only [redS, this]
      rfl
    · rfl
  · rfl
theorem mulR_neg {x y : Rt} (hx : x.neg = false) (hy : y.neg = false) : (mulR x y).1.neg = false := by
  unfold mulR
  split
  · split
    · split
      · simp [redS, hx, hy]
      · rfl
    · rfl
  · rfl
theorem timesR_neg {x : Rt} {n m : Int} (hx : x.neg = false) (hn : 0 ≤ n) (hm : 0 < m) : (timesR x n m).neg = false := mulR_neg hx (makeS_neg hn hm)
/-- A part of a number that is not negative, taken from it, leaves what is not negative. -/
theorem rest_neg {x : Rt} {n m : Int} (hn : 0 ≤ n) (hnm : n ≤ m) (hm : 0 < m) (hr : inR n = true) (hr' : inR m = true) (hx : x.neg = false) : (subR x (timesR x n m)).1.neg = false := by
  obtain ⟨t, e1, g1⟩ : ∃ r e, makeS n m = (r, e) := ⟨_, _, rfl⟩
  obtain ⟨p, e2, g2⟩ : ∃ r e, mulR x t = (r, e) := ⟨_, _, rfl⟩
  have gt : timesR x n m = p := by unfold timesR; rw [g1, g2]
  rw [gt]
  obtain ⟨r, e3, g3⟩ : ∃ r e, subR x p = (r, e) := ⟨_, _, rfl⟩
  rw [g3]
  rcases subR_ok g3 with ⟨_, vx, vp, vr, h3⟩ | ⟨_, h⟩
  rotate_left
  · rw [h]
  obtain ⟨_, vt, h1⟩ := makeS_ok hr hr' hm g1
  rcases mulR_ok g2 with ⟨_, _, _, _, h2⟩ | ⟨_, h⟩
  rotate_left
  · rw [h] at vp
    exact absurd vp (by decide)
  refine neg_false vr ?_
  have dx := (rv_facts vx).1
  have dp := (rv_facts vp).1
  have dt := (rv_facts vt).1
  have dr := (rv_facts vr).1
  have nx : 0 ≤ nn x := by unfold nn; rw [hx]; exact (rv_facts vx).2.1
  -- nn t ≤ dd t
  have k1 : nn t ≤ dd t := by
    have : nn t * m ≤ dd t * m := by rw [h1, Int.mul_comm n]; exact Int.mul_le_mul_of_nonneg_left hnm (Int.le_of_lt dt)
    exact Int.le_of_mul_le_mul_right this hm
  have k2 : nn p * dd x * dd t ≤ nn x * dd p * dd t := by
    have e : nn p * dd x * dd t = nn x * dd p * nn t := by
      have := h2
      grind
    rw [e]
    exact Int.mul_le_mul_of_nonneg_left k1 (Int.mul_nonneg nx (Int.le_of_lt dp))
  have k3 : nn p * dd x ≤ nn x * dd p := Int.le_of_mul_le_mul_right k2 dt
  refine nonneg_of_mul (Int.mul_pos dx dp) ?_
  rw [h3]
  exact Int.mul_nonneg (by omega) (Int.le_of_lt dr)
end Go.Proofs.Ytiondkijgpjgcaa.Px
