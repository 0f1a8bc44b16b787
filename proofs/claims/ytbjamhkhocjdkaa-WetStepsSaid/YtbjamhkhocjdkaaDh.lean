/- One step on the way to the rows: contracts of the program's functions, each for every argument that its statement names. -/
import Derived.Test.YtbjamhkhocjdkaaDg
import Derived.Outline
import Derived.LoopN
namespace Go.Proofs.Ytbjamhkhocjdkaa.Px
open Go.RowKit Go.Proofs.YtbjamhkhocjdkaaW.PrintWords Go.Proofs.YtbjamhkhocjdkaaW.PrintLast Go.Proofs.YtbjamhkhocjdkaaW.PrintMore Go.Proofs.Ytbjamhkhocjdkaa.Mat
set_option linter.unusedVariables false
set_option linter.unusedSimpArgs false
def Sl (w : World) (v : Value) (xs : List Int) : Prop := ∃ A c, v = .slice A xs.length c ∧ xs.length ≤ c ∧ (Kd.int .i64).C w A xs.length xs
theorem Sl.below {w w1 : World} {v : Value} {xs : List Int} (h : Sl w v xs) (hb : Below w.heap.size w w1) : Sl w1 v xs := by
  obtain ⟨A, c, e, hc, hr⟩ := h
  exact ⟨A, c, e, hc, Kd.C_below hr hb⟩
theorem Sl.of_R {w : World} {base : Nat} {ok : Nat → Prop} {v : Value} {xs : List Int} (h : (Kd.int .i64).R 3 w base ok v xs) : Sl w v xs := Kd.R_reads h
theorem Sl.sml {w : World} {v : Value} {xs : List Int} (h : Sl w v xs) : Sml xs := by
  obtain ⟨A, c, e, hc, hr⟩ := h
  exact Kd.C_max hr
theorem Sl.nil (w : World) : Sl w (.slice none 0 0) [] := ⟨none, 0, rfl, Nat.le_refl _, Kd.C_nil _ _⟩
def Old (B : Nat) (w : World) (k : Nat) : Prop := k < B ∨ ∃ cells, w.heap[k]? = some (.cells cells 3 (0, 0))
def Fr (B : Nat) (w : World) (v : Value) (xs : List Int) : Prop := Sl w v xs ∧ (xs ≠ [] → ∀ k, v.ownBlock = some k → Old B w k)
theorem addr_block (a : Addr) (j : Nat) : (a.add j).block = a.block := by unfold Addr.add; split <;> rfl
theorem Fr.move {B : Nat} {w w' : World} {v : Value} {xs : List Int} (h : Fr B w v xs) (hw : ∀ k, k < w.heap.size → Old B w k → w'.heap[k]? = w.heap[k]?) : Fr B w' v xs := by
  obtain ⟨⟨A, c, e, hc, hC⟩, ho⟩ := h
  subst e
  by_cases hx : xs = []
  · subst hx
    refine ⟨⟨A, c, rfl, hc, ⟨rfl, by simp, fun hn => absurd hn (by simp)⟩⟩, fun h => absurd rfl h⟩
  · have hr := Kd.reads_of_C (enc := Value.int .i64) (d := (0 : Int)) (h1 := fun _ => rfl) hC
    have hp : 0 < xs.length := List.length_pos_iff.2 hx
    obtain ⟨ad, e, hcell⟩ := hr.2.2 hp
    subst e
    have hold := ho hx ad.block rfl
    have hlt : ad.block < w.heap.size := by have := World.block_lt_of_cell? _ _ (hcell 0 hp); rwa [addr_block] at this
    have hq := hw _ hlt hold
    refine ⟨⟨some ad, c, rfl, hc, Kd.C_of_reads (enc := Value.int .i64) (d := (0 : Int)) ⟨hr.1, hr.2.1, fun _ => ⟨ad, rfl, fun j hj => ?_⟩⟩⟩, fun _ k hk => ?_⟩
    · rw [World.cell?_of_block (w := w) (by rw [addr_block]; exact hq)]; exact hcell j hj
    · have : ad.block = k := Option.some.inj hk
      subst this
      rcases hold with h | ⟨cells, h⟩
      · exact .inl h
      · exact .inr ⟨cells, by rw [hq]; exact h⟩
theorem Fr.below {B : Nat} {w w' : World} {v : Value} {xs : List Int} (h : Fr B w v xs) (hb : Below w.heap.size w w') : Fr B w' v xs := h.move fun k hk _ => hb.block k hk
theorem Fr.sl {B : Nat} {w : World} {v : Value} {xs : List Int} (h : Fr B w v xs) : Sl w v xs := h.1
theorem Fr.of_R {w : World} {base B : Nat} {ok : Nat → Prop} {v : Value} {xs : List Int} (h : (Kd.int .i64).R 3 w base ok v xs) : Fr B w v xs := ⟨Sl.of_R h, fun _ k hk => .inr (Kd.R_typed h k hk)⟩
theorem Fr.of_sl {w : World} {v : Value} {xs : List Int} (h : Sl w v xs) : Fr w.heap.size w v xs := by
  refine ⟨h, fun hx k hk => .inl ?_⟩
  obtain ⟨A, c, e, hc, hC⟩ := h
  subst e
  have hr := Kd.reads_of_C (enc := Value.int .i64) (d := (0 : Int)) (h1 := fun _ => rfl) hC
  obtain ⟨ad, e, hcell⟩ := hr.2.2 (List.length_pos_iff.2 hx)
  subst e
  have := World.block_lt_of_cell? _ _ (hcell 0 (List.length_pos_iff.2 hx))
  rw [addr_block] at this
  have e2 : ad.block = k := Option.some.inj hk
  omega
theorem Fr.nil (B : Nat) (w : World) : Fr B w (.slice none 0 0) [] := ⟨Sl.nil w, fun h => absurd rfl h⟩
theorem Fr.nil' {B : Nat} {w : World} {xs : List Int} {n : Nat} (e : xs = []) (en : n = 0) : Fr B w (.slice none n 0) xs := by subst e; subst en; exact Fr.nil B w
theorem Fr.open {B : Nat} {w : World} {v : Value} {xs : List Int} (h : Fr B w v xs) : ∃ A c, v = .slice A xs.length c ∧ Fr B w (.slice A xs.length c) xs := by
  obtain ⟨⟨A, c, e, hc⟩, ho⟩ := h
  subst e
  exact ⟨A, c, rfl, ⟨A, c, rfl, hc⟩, ho⟩
theorem Fr.first {B : Nat} {w : World} {A : Option Addr} {c : Nat} {xs : List Int} (h : Fr B w (.slice A xs.length c) xs) (hx : xs ≠ []) : ∃ ad : Addr, A = some ad ∧ ∀ j, j < xs.length → w.cell? (ad.add j) = some (.int .i64 (xs.getD j 0)) := by
  obtain ⟨⟨A', c', e, hc, hr⟩, _⟩ := h
  have e1 : A = A' := by injection e
  subst e1
  have hr := Kd.reads_of_C (enc := Value.int .i64) (d := (0 : Int)) (h1 := fun _ => rfl) hr
  obtain ⟨ad, e, hc⟩ := hr.2.2 (List.length_pos_iff.2 hx)
  exact ⟨ad, e, hc⟩
def Box (w : World) (g t : Nat) : Prop := ∃ cs fr, w.heap[g]? = some (.cells cs t fr)
theorem Box.alloc (w : World) (cs : Array Value) (t : Nat) : Box (w.alloc (.cells cs t)) w.heap.size t := ⟨cs, (0, 0), heap_alloc_new w _⟩
theorem Box.below {w w' : World} {g t : Nat} (h : Box w g t) (hb : Below w.heap.size w w') : Box w' g t := by
  obtain ⟨cs, fr, h⟩ := h
  exact ⟨cs, fr, by rw [hb.block g (by have := Array.getElem?_eq_some_iff.1 h; exact this.1)]; exact h⟩
theorem Box.set {w : World} {g t : Nat} (h : Box w g t) (p : Addr) (u : Value) : Box (w.setCell p u) g t := by
  obtain ⟨cs, fr, h⟩ := h
  by_cases e : g = p.block
  · subst e
    simp only [Box, World.setCell, Array.getElem?_modify, h]
    simp
  · exact ⟨cs, fr, by rw [Below.heap_setCell _ _ _ _ e]; exact h⟩
def Vr (w : World) (g : Nat) (cs : Array Value) (t : Nat) : Prop := w.heap[g]? = some (.cells cs t (0, 0))
theorem Vr.alloc (w : World) (cs : Array Value) (t : Nat) : Vr (w.alloc (.cells cs t)) w.heap.size cs t := heap_alloc_new w _
theorem Vr.below {w w' : World} {g t : Nat} {cs : Array Value} (h : Vr w g cs t) (hb : Below w.heap.size w w') : Vr w' g cs t := by
  unfold Vr at h ⊢
  rw [hb.block g (by have := Array.getElem?_eq_some_iff.1 h; exact this.1)]; exact h
theorem Vr.set {w : World} {g t : Nat} {cs : Array Value} (h : Vr w g cs t) (o : Nat) (u : Value) : Vr (w.setCell ⟨g, o, none⟩ u) g (cs.setIfInBounds o u) t := by
  simp only [Vr] at h
  simp [Vr, World.setCell, Array.getElem?_modify, h]
theorem Vr.ne {w : World} {g g' t : Nat} {cs : Array Value} (h : Vr w g cs t) (hn : g ≠ g') (o : Nat) (u : Value) : Vr (w.setCell ⟨g', o, none⟩ u) g cs t := by
  unfold Vr at h ⊢
  rw [Below.heap_setCell _ _ _ _ hn]; exact h
theorem Vr.eq {w : World} {g t : Nat} {cs cs' : Array Value} (h : Vr w g cs t) (e : cs = cs') : Vr w g cs' t := e ▸ h
theorem Vr.box {w : World} {g t : Nat} {cs : Array Value} (h : Vr w g cs t) : Box w g t := ⟨cs, (0, 0), h⟩
theorem Fr.mono {B B' : Nat} {w : World} {v : Value} {xs : List Int} (h : Fr B w v xs) (hB : B ≤ B') : Fr B' w v xs := ⟨h.1, fun hx k hk => (h.2 hx k hk).imp (fun h => by omega) id⟩
def Env (B : Nat) (w : World) (L : List (Value × List Int)) : Prop := ∀ p, p ∈ L → Fr B w p.1 p.2
theorem Env.nil (B : Nat) (w : World) : Env B w [] := fun p h => by simp at h
theorem Env.get {B : Nat} {w : World} {L : List (Value × List Int)} (h : Env B w L) {v : Value} {xs : List Int} (hm : (v, xs) ∈ L) : Fr B w v xs := h _ hm
theorem Env.below {B : Nat} {w w1 : World} {L : List (Value × List Int)} (h : Env B w L) (hb : Below w.heap.size w w1) : Env B w1 L := fun p hp => (h p hp).below hb
theorem Env.cons {B : Nat} {w : World} {L : List (Value × List Int)} (h : Env B w L) {v : Value} {xs : List Int} (hs : Fr B w v xs) : Env B w ((v, xs) :: L) := by
  intro p hp
  rcases List.mem_cons.1 hp with rfl | hp
  · exact hs
  · exact h p hp
theorem Env.set {B : Nat} {w : World} {L : List (Value × List Int)} (h : Env B w L) {g t : Nat} (hg : Box w g t) (ht : t ≠ 3) (hB : B ≤ g) (o : Nat) (u : Value) : Env B (w.setCell ⟨g, o, none⟩ u) L := fun p hp => (h p hp).move fun k hk ho => Below.heap_setCell _ _ _ _ (by
  intro e
  have e' : k = g := e
  rw [e'] at ho
  rcases ho with h1 | ⟨cells, h1⟩
  · omega
  · obtain ⟨cs, fr, h2⟩ := hg
    rw [h2] at h1
    injection h1 with h1
    injection h1 with _ h1
    exact ht h1)
theorem bcell {W w1 : World} (hb : Below W.heap.size W w1) : (∀ b o, b < W.heap.size → w1.cell? ⟨b, o, none⟩ = W.cell? ⟨b, o, none⟩) ∧ (∀ b o, b < W.heap.size → w1.frozen? ⟨b, o, none⟩ = W.frozen? ⟨b, o, none⟩) :=
  ⟨fun b o h => hb.cell (p := ⟨b, o, none⟩) h, fun b o h => hb.frozen (p := ⟨b, o, none⟩) h⟩
theorem Env.setV {B : Nat} {w : World} {L : List (Value × List Int)} (h : Env B w L) {g t : Nat} {cs : Array Value} (hg : Vr w g cs t) (ht : t ≠ 3) (hB : B ≤ g) {o : Nat} {u : Value} : Env B (w.setCell ⟨g, o, none⟩ u) L := h.set hg.box ht hB o u
theorem Vr.setn {w : World} {g t : Nat} {cs : Array Value} (h : Vr w g cs t) {o : Nat} {u : Value} : Vr (w.setCell ⟨g, o, none⟩ u) g (cs.setIfInBounds o u) t := h.set o u
theorem Vr.nen {w : World} {g g' t : Nat} {cs : Array Value} (h : Vr w g cs t) (hn : g ≠ g') {o : Nat} {u : Value} : Vr (w.setCell ⟨g', o, none⟩ u) g cs t := h.ne hn o u
theorem Vr.nen2 {w : World} {g g' t : Nat} {cs : Array Value} (hn : g ≠ g') (h : Vr w g cs t) {o : Nat} {u : Value} : Vr (w.setCell ⟨g', o, none⟩ u) g cs t := h.ne hn o u
theorem vals_vr {P : Program} {tmps : Array Value} {w : World} {p : Tmp} {ty : TypeId} {rs : List ResultVar} {vs : List Value} {g : Nat} {t : TypeId} {cs : Array Value} {d : TypeDesc} (hg : Vr w g cs t)
    (hp : tmps.getD p undef = .pointer (some ⟨g, 0, none⟩))
    (hu : P.underlying ty = some d) (hd : (match d with | .struct _ | .array _ _ => true | _ => false) = true) (hi : (P.info? ty).map (·.size) = some cs.size)
    (h : Vals P tmps w rs vs) : Vals P tmps w (.cell p ty :: rs) (.agg cs :: vs) := .cell g t cs (0, 0) d hp hg hu hd hi h
theorem Env.allocn {B : Nat} {w : World} {L : List (Value × List Int)} (h : Env B w L) {o : Obj} : Env B (w.alloc o) L := h.below (below_alloc (Below.refl _ _) _)
theorem Env.drew {B : Nat} {w : World} {L : List (Value × List Int)} (h : Env B w L) : Env B w.drew L := h.below (below_drew1 (Below.refl _ _))
theorem Env.drewN {B : Nat} {w : World} {L : List (Value × List Int)} (h : Env B w L) {n : Nat} : Env B (w.drewN n) L := h.below (pw_below_drewN (Below.refl _ _) n)
theorem Vr.allocn {w : World} {g t : Nat} {cs : Array Value} (h : Vr w g cs t) {o : Obj} : Vr (w.alloc o) g cs t := h.below (below_alloc (Below.refl _ _) _)
theorem Vr.drew {w : World} {g t : Nat} {cs : Array Value} (h : Vr w g cs t) : Vr w.drew g cs t := h.below (below_drew1 (Below.refl _ _))
theorem Vr.drewN {w : World} {g t : Nat} {cs : Array Value} (h : Vr w g cs t) {n : Nat} : Vr (w.drewN n) g cs t := h.below (pw_below_drewN (Below.refl _ _) n)
theorem Fr.allocn {B : Nat} {w : World} {v : Value} {x : List Int} (h : Fr B w v x) {o : Obj} : Fr B (w.alloc o) v x := h.below (below_alloc (Below.refl _ _) _)
theorem Fr.drew {B : Nat} {w : World} {v : Value} {x : List Int} (h : Fr B w v x) : Fr B w.drew v x := h.below (below_drew1 (Below.refl _ _))
theorem Fr.drewN {B : Nat} {w : World} {v : Value} {x : List Int} (h : Fr B w v x) {n : Nat} : Fr B (w.drewN n) v x := h.below (pw_below_drewN (Below.refl _ _) n)
theorem Fr.setV {B : Nat} {w : World} {v : Value} {x : List Int} (h : Fr B w v x) {g t : Nat} {cs : Array Value} (hg : Vr w g cs t) (ht : t ≠ 3) (hB : B ≤ g) {o : Nat} {u : Value} : Fr B (w.setCell ⟨g, o, none⟩ u) v x :=
  Env.get (Env.setV ((Env.nil B w).cons h) hg ht hB) (by simp)
theorem Vr.alloc' {w : World} {g : Nat} {cs : Array Value} {t : Nat} (e : g = w.heap.size) : Vr (w.alloc (.cells cs t)) g cs t := by subst e; exact Vr.alloc w cs t
theorem Vr.lt {w : World} {g t : Nat} {cs : Array Value} (h : Vr w g cs t) : g < w.heap.size ∧ g ≠ w.heap.size ∧ w.heap.size ≠ g := by
  have h1 : g < w.heap.size := by have := Array.getElem?_eq_some_iff.1 h; exact this.1
  omega
theorem Vr.fz {w : World} {g t : Nat} {cs : Array Value} (h : Vr w g cs t) : ∀ o, w.frozen? ⟨g, o, none⟩ = false := by
  intro o
  unfold Vr at h
  simp [World.frozen?, h]
theorem Vr.cell {w : World} {g t : Nat} {cs : Array Value} (h : Vr w g cs t) (o : Nat) : w.cell? ⟨g, o, none⟩ = cs[o]? := by
  unfold Vr at h
  simp [World.cell?, h]
theorem Vr.k1 {w : World} {g t : Nat} {cs : Array Value} (h : Vr w g cs t) : w.cell? ⟨g, 0, none⟩ = cs[0]? := h.cell 0
theorem Vr.k3 {w : World} {g t : Nat} {cs : Array Value} (h : Vr w g cs t) : w.cell? ⟨g, 0, none⟩ = cs[0]? ∧ w.cell? ⟨g, 1, none⟩ = cs[1]? ∧ w.cell? ⟨g, 2, none⟩ = cs[2]? := ⟨h.cell 0, h.cell 1, h.cell 2⟩
theorem Vr.k6 {w : World} {g t : Nat} {cs : Array Value} (h : Vr w g cs t) : w.cell? ⟨g, 0, none⟩ = cs[0]? ∧ w.cell? ⟨g, 1, none⟩ = cs[1]? ∧ w.cell? ⟨g, 2, none⟩ = cs[2]? ∧ w.cell? ⟨g, 3, none⟩ = cs[3]? ∧ w.cell? ⟨g, 4, none⟩ = cs[4]? ∧ w.cell? ⟨g, 5, none⟩ = cs[5]? := ⟨h.cell 0, h.cell 1, h.cell 2, h.cell 3, h.cell 4, h.cell 5⟩
structure Mv (G : Nat → Prop) (w w' : World) : Prop where
  os : w'.os = w.os
  tape : w'.tape = w.tape
  output : w'.output = w.output
  size : w.heap.size ≤ w'.heap.size
  block : ∀ k, k < w.heap.size → ¬ G k → w'.heap[k]? = w.heap[k]?
theorem Mv.of_below {G : Nat → Prop} {w w' : World} (h : Below w.heap.size w w') : Mv G w w' := ⟨h.os, h.tape, h.output, h.size, fun k hk _ => h.block k hk⟩
theorem Mv.set {G : Nat → Prop} {w w' : World} (h : Mv G w w') {g o : Nat} {u : Value} (hg : G g) : Mv G w (w'.setCell ⟨g, o, none⟩ u) :=
  ⟨h.os, h.tape, h.output, by have := h.size; simpa [World.setCell] using this, fun k hk hn => (Below.heap_setCell _ _ _ _ (fun e => hn (by have e' : k = g := e; rw [e']; exact hg))).trans (h.block k hk hn)⟩
theorem Mv.step {G : Nat → Prop} {w w' w2 : World} (h : Mv G w w') (hb : Below w'.heap.size w' w2) : Mv G w w2 :=
  ⟨hb.os.trans h.os, hb.tape.trans h.tape, hb.output.trans h.output, Nat.le_trans h.size hb.size, fun k hk hn => (hb.block k (Nat.lt_of_lt_of_le hk h.size)).trans (h.block k hk hn)⟩
theorem Below.mv {G : Nat → Prop} {w w' w2 : World} (h : Below w.heap.size w w') (hm : Mv G w' w2) (hG : ∀ g, G g → w.heap.size ≤ g) : Below w.heap.size w w2 :=
  ⟨hm.os.trans h.os, hm.tape.trans h.tape, hm.output.trans h.output, Nat.le_trans h.size hm.size, fun k hk => (hm.block k (Nat.lt_of_lt_of_le hk h.size) (fun hg => by have := hG k hg; omega)).trans (h.block k hk)⟩
theorem Vr.mv {G : Nat → Prop} {w w' : World} {g t : Nat} {cs : Array Value} (h : Vr w g cs t) (hm : Mv G w w') (hn : ¬ G g) : Vr w' g cs t := by
  unfold Vr at h ⊢
  rw [hm.block g (by have := Array.getElem?_eq_some_iff.1 h; exact this.1) hn]; exact h
def Ours (G : Nat → Prop) (B : Nat) (w : World) : Prop := ∀ g, G g → B ≤ g ∧ ∃ cs t, t ≠ 3 ∧ Vr w g cs t
theorem Env.mv {G : Nat → Prop} {B : Nat} {w w' : World} {L : List (Value × List Int)} (h : Env B w L) (hm : Mv G w w') (ho : Ours G B w) : Env B w' L := fun p hp => (h p hp).move fun k hk hold => hm.block k hk (fun hg => by
  obtain ⟨hB, cs, t, ht, hv⟩ := ho k hg
  rcases hold with h1 | ⟨cells, h1⟩
  · omega
  · unfold Vr at hv
    rw [hv] at h1
    injection h1 with h1
    injection h1 with _ h1
    exact ht h1)
theorem Fr.mv {G : Nat → Prop} {B : Nat} {w w' : World} {v : Value} {x : List Int} (h : Fr B w v x) (hm : Mv G w w') (ho : Ours G B w) : Fr B w' v x := Env.get (((Env.nil B w).cons h).mv hm ho) (by simp)
theorem Ours.one {B : Nat} {w : World} {g t : Nat} {cs : Array Value} (h : Vr w g cs t) (ht : t ≠ 3) (hB : B ≤ g) {G : Nat → Prop} (ho : Ours G B w) : Ours (fun k => k = g ∨ G k) B w := by
  rintro k (rfl | hk)
  · exact ⟨hB, cs, t, ht, h⟩
  · exact ho k hk
theorem Ours.none {B : Nat} {w : World} : Ours (fun _ => False) B w := fun _ h => h.elim
theorem Vr.got {w : World} {g t : Nat} {cs : Array Value} (h : Aside0 (Vr w g cs t)) : Vr w g cs t := h.out
theorem Env.got {B : Nat} {w : World} {L : List (Value × List Int)} (h : Aside0 (Env B w L)) : Env B w L := h.out
theorem Fr.got {B : Nat} {w : World} {L : List (Value × List Int)} {v : Value} {xs : List Int} (h : Aside0 (Env B w L)) (hm : (v, xs) ∈ L) : Fr B w v xs := h.out.get hm
theorem below_got {n : Nat} {w w' : World} (h : Aside0 (Below n w w')) : Below n w w' := h.out
theorem Xv {w : World} {g t : Nat} {cs : Array Value} (h : Vr w g cs t := by repeat (first | (with_reducible apply Vr.got; with_reducible assumption) | with_reducible apply Vr.setn | (with_reducible apply Vr.nen2; omega) | (with_reducible refine Vr.alloc' ?_; simp; done) | with_reducible apply Vr.allocn | with_reducible apply Vr.drew | with_reducible apply Vr.drewN)) : Vr w g cs t := h
theorem Xe {B : Nat} {w : World} {L : List (Value × List Int)} (h : Env B w L := by repeat (first | (with_reducible apply Env.got; with_reducible assumption) | with_reducible apply Env.allocn | with_reducible apply Env.drew | with_reducible apply Env.drewN | (with_reducible apply Env.setV; rotate_left; exact Xv; decide; omega))) : Env B w L := h
theorem Xf {B : Nat} {w : World} {v : Value} {xs : List Int} (h : Fr B w v xs := by repeat (first | (refine Fr.nil' rfl rfl) | (with_reducible apply Fr.got; with_reducible assumption; (first | (with_reducible (repeat (first | exact List.Mem.head _ | apply List.Mem.tail)); done) | (simp; done))) | with_reducible apply Fr.allocn | with_reducible apply Fr.drew | with_reducible apply Fr.drewN | (with_reducible apply Fr.setV; rotate_left; exact Xv; decide; omega))) : Fr B w v xs := h
theorem Xb {n : Nat} {w w' : World} (h : Below n w w' := by repeat (first | (with_reducible apply below_got; with_reducible assumption) | (with_reducible apply below_set; rotate_left; omega) | with_reducible apply below_alloc | with_reducible apply pw_below_drewN | with_reducible apply below_drew1)) : Below n w w' := h
theorem Vr.q1 {w : World} {g t : Nat} {a : Value} (h : Vr w g #[a] t) : w.cell? ⟨g, 0, none⟩ = some a ∧ (∀ o, w.frozen? ⟨g, o, none⟩ = false) ∧ g < w.heap.size ∧ g ≠ w.heap.size ∧ w.heap.size ≠ g := ⟨h.cell 0, h.fz, h.lt⟩
theorem Vr.q3 {w : World} {g t : Nat} {a b c : Value} (h : Vr w g #[a, b, c] t) : (w.cell? ⟨g, 0, none⟩ = some a ∧ w.cell? ⟨g, 1, none⟩ = some b ∧ w.cell? ⟨g, 2, none⟩ = some c) ∧ (∀ o, w.frozen? ⟨g, o, none⟩ = false) ∧ g < w.heap.size ∧ g ≠ w.heap.size ∧ w.heap.size ≠ g := ⟨⟨h.cell 0, h.cell 1, h.cell 2⟩, h.fz, h.lt⟩
theorem Vr.q6 {w : World} {g t : Nat} {a b c d e f : Value} (h : Vr w g #[a, b, c, d, e, f] t) : (w.cell? ⟨g, 0, none⟩ = some a ∧ w.cell? ⟨g, 1, none⟩ = some b ∧ w.cell? ⟨g, 2, none⟩ = some c ∧ w.cell? ⟨g, 3, none⟩ = some d ∧ w.cell? ⟨g, 4, none⟩ = some e ∧ w.cell? ⟨g, 5, none⟩ = some f) ∧ (∀ o, w.frozen? ⟨g, o, none⟩ = false) ∧ g < w.heap.size ∧ g ≠ w.heap.size ∧ w.heap.size ≠ g := ⟨⟨h.cell 0, h.cell 1, h.cell 2, h.cell 3, h.cell 4, h.cell 5⟩, h.fz, h.lt⟩
theorem Vr.p1 {w : World} {g t : Nat} {cs : Array Value} (h : Vr w g cs t) : w.cell? ⟨g, 0, none⟩ = cs[0]? ∧ (∀ o, w.frozen? ⟨g, o, none⟩ = false) ∧ g < w.heap.size ∧ g ≠ w.heap.size ∧ w.heap.size ≠ g := ⟨h.k1, h.fz, h.lt⟩
theorem Vr.p3 {w : World} {g t : Nat} {cs : Array Value} (h : Vr w g cs t) : (w.cell? ⟨g, 0, none⟩ = cs[0]? ∧ w.cell? ⟨g, 1, none⟩ = cs[1]? ∧ w.cell? ⟨g, 2, none⟩ = cs[2]?) ∧ (∀ o, w.frozen? ⟨g, o, none⟩ = false) ∧ g < w.heap.size ∧ g ≠ w.heap.size ∧ w.heap.size ≠ g := ⟨h.k3, h.fz, h.lt⟩
theorem Vr.p6 {w : World} {g t : Nat} {cs : Array Value} (h : Vr w g cs t) : (w.cell? ⟨g, 0, none⟩ = cs[0]? ∧ w.cell? ⟨g, 1, none⟩ = cs[1]? ∧ w.cell? ⟨g, 2, none⟩ = cs[2]? ∧ w.cell? ⟨g, 3, none⟩ = cs[3]? ∧ w.cell? ⟨g, 4, none⟩ = cs[4]? ∧ w.cell? ⟨g, 5, none⟩ = cs[5]?) ∧ (∀ o, w.frozen? ⟨g, o, none⟩ = false) ∧ g < w.heap.size ∧ g ≠ w.heap.size ∧ w.heap.size ≠ g := ⟨h.k6, h.fz, h.lt⟩
section
variable {v v' : Value} {a b : List Int} {w : World}
theorem sem_nat_Valid (h : Sl w v a) : Calls Try.prog 67 #[v] w fun e w' => e = .returned (.bool (okN a)) ∧ Drawn0 w w' := by
  obtain ⟨A, c, rfl, hc, hr⟩ := h
  obtain ⟨k, hk⟩ := (ev_Valid a).rounds
  exact nat_Valid.calls k A c a _ w hr hc hk
theorem sem_ref_Valid (h : Sl w v a) : Calls Try.prog 41 #[v] w fun e w' => e = .returned (.bool (okN a)) ∧ Drawn0 w w' := by
  have hs := h.sml
  obtain ⟨A, c, rfl, hc, hr⟩ := h
  obtain ⟨k, hk⟩ := (er_Valid a hs).rounds
  exact papermillref02_Valid.calls k A c a _ w hr hc hk
def Gives (w : World) (r : List Int × Int) (e : Ending) (w' : World) : Prop := ∃ v, e = .returned (.tuple #[v, .int .i64 r.2]) ∧ (∀ B, Fr B w' v r.1) ∧ Below w.heap.size w w'
theorem gives_of {r : List Int × Int} {e : Ending} {w' : World} {ok : Value → Nat → Prop} (h : ∃ v0_ : Value, e = .returned (.tuple #[v0_, .int .i64 r.2]) ∧ Kd.R (Kd.int .i64) 3 w' w.heap.size (ok v0_) v0_ r.1 ∧ Below w.heap.size w w') : Gives w r e w' := by
  obtain ⟨v, he, hr, hb⟩ := h
  exact ⟨v, he, fun B => Fr.of_R hr, hb⟩
theorem sem_nat_Add (h : Sl w v a) (h' : Sl w v' b) : Calls Try.prog 70 #[v, v'] w (Gives w (addS a b)) := by
  obtain ⟨A, c, rfl, hc, hr⟩ := h
  obtain ⟨A', c', rfl, hc', hr'⟩ := h'
  obtain ⟨k, hk⟩ := (ev_Add a b).rounds
  exact (nat_Add.calls k A c a A' c' b _ _ w hr hc hr' hc' hk).mono fun e w' h => gives_of (ok := fun _ _ => True) h
theorem sem_nat_Sub (h : Sl w v a) (h' : Sl w v' b) : Calls Try.prog 72 #[v, v'] w (Gives w (subS a b)) := by
  obtain ⟨A, c, rfl, hc, hr⟩ := h
  obtain ⟨A', c', rfl, hc', hr'⟩ := h'
  obtain ⟨k, hk⟩ := (ev_Sub a b).rounds
  exact (nat_Sub.calls k A c a A' c' b _ _ w hr hc hr' hc' hk).mono fun e w' h => gives_of (ok := fun _ _ => True) h
theorem sem_nat_Mul (h : Sl w v a) (h' : Sl w v' b) : Calls Try.prog 79 #[v, v'] w (Gives w (mulS a b)) := by
  obtain ⟨A, c, rfl, hc, hr⟩ := h
  obtain ⟨A', c', rfl, hc', hr'⟩ := h'
  obtain ⟨k, hk⟩ := (ev_Mul a b).rounds
  exact (nat_Mul.calls k A c a A' c' b _ _ w hr hc hr' hc' hk).mono fun e w' h => gives_of (ok := fun _ _ => True) h
theorem C_foot {A : Option Addr} {n : Nat} {xs : List Int} (h : (Kd.int .i64).C w A n xs) : Kd.F (Kd.int .i64) w (fun _ => True) A n xs := by
  intro W' hW
  have hr := Kd.reads_of_C (enc := Value.int .i64) (d := (0 : Int)) (h1 := fun _ => rfl) h
  refine Kd.C_of_reads (enc := Value.int .i64) (d := (0 : Int)) ⟨hr.1, hr.2.1, fun hn => ?_⟩
  obtain ⟨ad, e, hc⟩ := hr.2.2 hn
  refine ⟨ad, e, fun j hj => ?_⟩
  have h1 := hc j hj
  rw [World.cell?_of_block (hW _ trivial (World.block_lt_of_cell? _ _ h1))]
  exact h1
theorem V_of {A : Option Addr} {c : Nat} {xs : List Int} {base : Nat} (hc : xs.length ≤ c) (h : (Kd.int .i64).C w A xs.length xs) : Kd.V (Kd.int .i64) 3 w base (fun _ => True) (.slice A xs.length c) xs := ⟨A, c, rfl, hc, C_foot h⟩
theorem sem_nat_Gcd (h : Sl w v a) (h' : Sl w v' b) : Calls Try.prog 68 #[v, v'] w (Gives w (gcdS a b)) := by
  obtain ⟨A, c, rfl, hc, hr⟩ := h
  obtain ⟨A', c', rfl, hc', hr'⟩ := h'
  obtain ⟨k, hk⟩ := (ev_Gcd a b).rounds
  exact (nat_Gcd.calls k (fun _ => True) A c a (fun _ => True) A' c' b _ _ w (V_of hc hr) (V_of hc' hr') hk).mono fun e w' h => gives_of (ok := fun _ k_ => w.heap.size ≤ k_) h
def Gives2 (w : World) (r : List Int × List Int × Int) (e : Ending) (w' : World) : Prop := ∃ v v', e = .returned (.tuple #[v, v', .int .i64 r.2.2]) ∧ (∀ B, Fr B w' v r.1) ∧ (∀ B, Fr B w' v' r.2.1) ∧ Below w.heap.size w w'
theorem sem_nat_DivMod (h : Sl w v a) (h' : Sl w v' b) : Calls Try.prog 80 #[v, v'] w (Gives2 w (divS a b)) := by
  obtain ⟨A, c, rfl, hc, hr⟩ := h
  obtain ⟨A', c', rfl, hc', hr'⟩ := h'
  obtain ⟨k, hk⟩ := (ev_DivMod a b).rounds
  exact (nat_DivMod.calls k A c a A' c' b _ _ _ w hr hc hr' hc' hk).mono fun e w' ⟨v0, v1, he, h0, h1, hb⟩ => ⟨v0, v1, he, fun B => Fr.of_R h0, fun B => Fr.of_R h1, hb⟩
theorem sem_nat_Cmp (h : Sl w v a) (h' : Sl w v' b) (ha : okN a = true) (hb : okN b = true) : Calls Try.prog 71 #[v, v'] w fun e w' => e = .returned (.tuple #[.int .i64 (cmpS (val a) (val b)), .int .i64 0]) ∧ Drawn0 w w' := by
  obtain ⟨A, c, rfl, hc, hr⟩ := h
  obtain ⟨A', c', rfl, hc', hr'⟩ := h'
  have oa := okN_iff.1 ha
  have ob := okN_iff.1 hb
  have h1 := oa.1
  have hE : Ev (fun k => nat_Cmp.f k a b) (cmpS (val a) (val b), 0) := by
    unfold nat_Cmp.f
    refine Ev.bind (ev_Valid a) ?_
    rw [ha]
    simp only [if_true]
    refine Ev.bind (ev_Valid b) ?_
    rw [hb]
    simp only [if_true]
    exact Ev.bind (ev_compare a b oa.2 ob.2 (by omega)) (Ev.now _)
  obtain ⟨k, hk⟩ := hE.rounds
  exact nat_Cmp.calls k A c a A' c' b _ _ w hr hc hr' hc' hk
theorem sem_ref_Add (h : Sl w v a) (h' : Sl w v' b) : Calls Try.prog 58 #[v, v'] w (Gives w (addS a b)) := by
  have s1 := h.sml
  have s2 := h'.sml
  obtain ⟨A, c, rfl, hc, hr⟩ := h
  obtain ⟨A', c', rfl, hc', hr'⟩ := h'
  obtain ⟨k, hk⟩ := (er_Add a b s1 s2).rounds
  exact (papermillref02_Add.calls k A c a A' c' b _ _ w hr hc hr' hc' hk).mono fun e w' h => gives_of (ok := fun _ _ => True) h
theorem sem_ref_Sub (h : Sl w v a) (h' : Sl w v' b) : Calls Try.prog 60 #[v, v'] w (Gives w (subS a b)) := by
  have s1 := h.sml
  have s2 := h'.sml
  obtain ⟨A, c, rfl, hc, hr⟩ := h
  obtain ⟨A', c', rfl, hc', hr'⟩ := h'
  obtain ⟨k, hk⟩ := (er_Sub a b s1 s2).rounds
  exact (papermillref02_Sub.calls k A c a A' c' b _ _ w hr hc hr' hc' hk).mono fun e w' h => gives_of (ok := fun _ _ => True) h
theorem sem_ref_Mul (h : Sl w v a) (h' : Sl w v' b) : Calls Try.prog 44 #[v, v'] w (Gives w (mulS a b)) := by
  have s1 := h.sml
  have s2 := h'.sml
  obtain ⟨A, c, rfl, hc, hr⟩ := h
  obtain ⟨A', c', rfl, hc', hr'⟩ := h'
  obtain ⟨k, hk⟩ := (er_Mul a b s1 s2).rounds
  exact (papermillref02_Mul.calls k A c a A' c' b _ _ w hr hc hr' hc' hk).mono fun e w' h => gives_of (ok := fun _ _ => True) h
theorem sem_ref_Gcd (h : Sl w v a) (h' : Sl w v' b) : Calls Try.prog 42 #[v, v'] w (Gives w (gcdS a b)) := by
  have s1 := h.sml
  have s2 := h'.sml
  obtain ⟨A, c, rfl, hc, hr⟩ := h
  obtain ⟨A', c', rfl, hc', hr'⟩ := h'
  obtain ⟨k, hk⟩ := (er_Gcd a b s1 s2).rounds
  exact (papermillref02_Gcd.calls k A c a (fun _ => True) A' c' b _ _ w hr hc (V_of hc' hr') hk).mono fun e w' h => gives_of (ok := fun _ k_ => w.heap.size ≤ k_) h
theorem sem_ref_DivMod (h : Sl w v a) (h' : Sl w v' b) : Calls Try.prog 55 #[v, v'] w (Gives2 w (divS a b)) := by
  have s1 := h.sml
  have s2 := h'.sml
  obtain ⟨A, c, rfl, hc, hr⟩ := h
  obtain ⟨A', c', rfl, hc', hr'⟩ := h'
  obtain ⟨k, hk⟩ := (er_DivMod a b s1 s2).rounds
  exact (papermillref02_DivMod.calls k A c a A' c' b _ _ _ w hr hc hr' hc' hk).mono fun e w' ⟨v0, v1, he, h0, h1, hb⟩ => ⟨v0, v1, he, fun B => Fr.of_R h0, fun B => Fr.of_R h1, hb⟩
theorem sem_ref_Cmp (h : Sl w v a) (h' : Sl w v' b) (ha : okN a = true) (hb : okN b = true) : Calls Try.prog 59 #[v, v'] w fun e w' => e = .returned (.tuple #[.int .i64 (cmpS (val a) (val b)), .int .i64 0]) ∧ Drawn0 w w' := by
  have s1 := h.sml
  have s2 := h'.sml
  obtain ⟨A, c, rfl, hc, hr⟩ := h
  obtain ⟨A', c', rfl, hc', hr'⟩ := h'
  have oa := okN_iff.1 ha
  have ob := okN_iff.1 hb
  have h1 := oa.1
  have hE : Ev (fun k => papermillref02_Cmp.f k a b) (cmpS (val a) (val b), 0) := by
    unfold papermillref02_Cmp.f
    refine Ev.bind (er_Valid a s1) ?_
    rw [ha]
    simp only [if_true]
    refine Ev.bind (er_Valid b s2) ?_
    rw [hb]
    simp only [if_true]
    exact Ev.bind (er_compare a b oa.2 ob.2 (by omega)) (Ev.now _)
  obtain ⟨k, hk⟩ := hE.rounds
  exact papermillref02_Cmp.calls k A c a A' c' b _ _ w hr hc hr' hc' hk
theorem sem_ref_Of (n : Int) (h : n ≤ 9223372036854775807) : Calls Try.prog 47 #[.int .i64 n] w (Gives w (ofS n)) := by
  obtain ⟨k, hk⟩ := (er_Of n h).rounds
  exact (papermillref02_Of.calls k n _ _ w hk).mono fun e w' h => gives_of (ok := fun _ _ => True) h
theorem sem_nat_Of (n : Int) (h : n ≤ 9223372036854775807) : Calls Try.prog 81 #[.int .i64 n] w (Gives w (ofS n)) := by
  obtain ⟨k, hk⟩ := (ev_Of n h).rounds
  exact (nat_Of.calls k n _ _ w hk).mono fun e w' h => gives_of (ok := fun _ _ => True) h
end
structure Rt where
  neg : Bool
  p : List Int
  q : List Int
def RaF (B : Nat) (w : World) (v : Value) (x : Rt) : Prop := ∃ A1 c1 A2 c2, v = .agg #[.bool x.neg, .slice A1 x.p.length c1, .slice A2 x.q.length c2] ∧ Fr B w (.slice A1 x.p.length c1) x.p ∧ Fr B w (.slice A2 x.q.length c2) x.q
def redS (neg : Bool) (p q : List Int) : Rt := ⟨neg && decide (0 < (dg (val p / gcdI (val p) (val q))).length), dg (val p / gcdI (val p) (val q)), dg (val q / gcdI (val p) (val q))⟩
theorem gcd_facts {p q : List Int} (hp : okN p = true) (hq : okN q = true) (hq0 : q ≠ []) : okN (dg (gcdI (val p) (val q))) = true ∧ dg (gcdI (val p) (val q)) ≠ [] ∧ val (dg (gcdI (val p) (val q))) = gcdI (val p) (val q) := by
  have oq := okN_iff.1 hq
  have hqp := val_pos oq.2 hq0
  have h0 := gcdI_nonneg (val p) (val q)
  have h1 : gcdI (val p) (val q) ≤ val q := gcdI_le_right hqp
  have h2 := oq.lt
  refine ⟨okN_iff.2 (ok_dg h0 (by omega)), ?_, val_dg h0⟩
  intro e
  have := (dg_nil h0).1 e
  unfold gcdI at this
  have h3 : Nat.gcd (val p).toNat (val q).toNat = 0 := by omega
  have h4 := (Nat.gcd_eq_zero_iff.1 h3).2
  omega
set_option maxHeartbeats 1000000 in
set_option maxRecDepth 100000 in
theorem sem_reduced (neg : Bool) {v1 v2 : Value} {p q : List Int} {w : World} {B : Nat} (hB : B ≤ w.heap.size) (h1 : Fr B w v1 p) (h2 : Fr B w v2 q) (hp : okN p = true) (hq : okN q = true) (hq0 : q ≠ []) :
    Calls Try.prog 64 #[.bool neg, v1, v2] w fun e w' => ∃ v, e = .returned (.tuple #[v, .int .i64 0]) ∧ RaF B w' v (redS neg p q) ∧ Below w.heap.size w w' := by
  obtain ⟨hg1, hg2, hg3⟩ := gcd_facts hp hq hq0
  have e1 : gcdS p q = (dg (gcdI (val p) (val q)), 0) := by unfold gcdS; rw [if_pos ⟨hp, hq⟩]
  have e2 : divS p (dg (gcdI (val p) (val q))) = (dg (val p / gcdI (val p) (val q)), dg (val p % gcdI (val p) (val q)), 0) := by unfold divS; rw [if_pos ⟨hp, hg1⟩, if_neg hg2, hg3]
  have e3 : divS q (dg (gcdI (val p) (val q))) = (dg (val q / gcdI (val p) (val q)), dg (val q % gcdI (val p) (val q)), 0) := by unfold divS; rw [if_pos ⟨hq, hg1⟩, if_neg hg2, hg3]
  obtain ⟨rs, hrs⟩ : ∃ x, redS neg p q = x := ⟨_, rfl⟩
  have HR := Aside0.mk hrs
  rw [hrs]
  unfold redS at HR
  obtain ⟨g, hg⟩ : ∃ g, dg (gcdI (val p) (val q)) = g := ⟨_, rfl⟩
  obtain ⟨up, hup⟩ : ∃ u, dg (val p / gcdI (val p) (val q)) = u := ⟨_, rfl⟩
  obtain ⟨dn, hdn⟩ : ∃ u, dg (val q / gcdI (val p) (val q)) = u := ⟨_, rfl⟩
  obtain ⟨m1, hm1⟩ : ∃ u, dg (val p % gcdI (val p) (val q)) = u := ⟨_, rfl⟩
  obtain ⟨m2, hm2⟩ : ∃ u, dg (val q % gcdI (val p) (val q)) = u := ⟨_, rfl⟩
  rw [hg] at e1 e2 e3
  rw [hup] at e2 HR
  rw [hdn] at e3 HR
  rw [hm1] at e2
  rw [hm2] at e3
  have E1 := Aside0.mk e1
  have E2 := Aside0.mk e2
  have E3 := Aside0.mk e3
  have HE := Aside0.mk ((Env.nil B w).cons h2 |>.cons h1)
  have HB := Aside0.mk (Below.refl w.heap.size w)
  clear hg1 hg2 hg3 e1 e2 e3 hg hup hdn hm1 hm2 hrs h1 h2 hp hq hq0
  cases neg
  all_goals
    go_enter Try.func64, Try.ntmps64
    go_wp2_with (first | (go_at_call 68; refine (sem_nat_Gcd (a := p) (b := q) ?_ ?_).mono ?_; (exact ((HE.out.below Z13).get (by simp)).sl); (exact ((HE.out.below Z13).get (by simp)).sl); rw [E1.out]; rintro e w5 ⟨v, rfl, hs, hb⟩; have HX := Aside0.mk ((Vr.alloc w _ _).below hb); have n_ := Aside0.mk (Env.cons (Env.below (Env.below HE.out Z13) hb) (hs B)); have nb_ := Aside0.mk (below_step (by repeat (first | exact HB.out | apply below_alloc | apply pw_below_drewN | apply below_drew1)) hb); have hz1 : w.heap.size < w5.heap.size := (by have h_ := hb.size; (first | simp at h_ | skip); omega); clear HE HB; have HE := n_; have HB := nb_; obtain ⟨hc1, hf1⟩ := bcell hb; clear n_ nb_ hb) | (go_at_call_of 80 v1; refine (sem_nat_DivMod (a := p) (b := g) ?_ ?_).mono ?_; (exact ((HE.out.below Z13).get (by simp)).sl); (exact ((HE.out.below Z13).get (by simp)).sl); rw [E2.out]; rintro e w6 ⟨vu, vx, rfl, hs, hs', hb⟩; obtain ⟨Au, cu, rfl, hs2⟩ := (hs B).open; have n_ := Aside0.mk (Env.cons (Env.below (Env.below HE.out Z13) hb) (hs2)); have nb_ := Aside0.mk (below_step (by repeat (first | exact HB.out | apply below_alloc | apply pw_below_drewN | apply below_drew1)) hb); have nx0_ := Aside0.mk (Vr.below (Vr.below HX.out Z13) hb); have hz2 : w.heap.size < w6.heap.size := (by have h_ := hb.size; (first | simp at h_ | skip); omega); clear HE HB HX; have HE := n_; have HB := nb_; have HX := nx0_; obtain ⟨hc2, hf2⟩ := bcell hb; clear n_ nb_ nx0_ hb) | (go_at_call_of 80 v2; refine (sem_nat_DivMod (a := q) (b := g) ?_ ?_).mono ?_; (exact ((HE.out.below Z13).get (by simp)).sl); (exact ((HE.out.below Z13).get (by simp)).sl); rw [E3.out]; rintro e w7 ⟨vd, vy, rfl, hs, hs', hb⟩; obtain ⟨Ad, cd, rfl, hs2⟩ := (hs B).open; have n_ := Aside0.mk (Env.cons (Env.below (Env.below HE.out Z13) hb) (hs2)); have nb_ := Aside0.mk (below_step (by repeat (first | exact HB.out | apply below_alloc | apply pw_below_drewN | apply below_drew1)) hb); have nx0_ := Aside0.mk (Vr.below (Vr.below HX.out Z13) hb); have hz3 : w.heap.size < w7.heap.size := (by have h_ := hb.size; (first | simp at h_ | skip); omega); clear HE HB HX; have HE := n_; have HB := nb_; have HX := nx0_; obtain ⟨hc3, hf3⟩ := bcell hb; clear n_ nb_ nx0_ hb))
    have hR := HR.out
    subst hR
    refine bodyPost_ret (results_list (rs := [.cell 6 27, .tmp 7]) rfl (by simp) (vals_vr Z18 rfl Try.underlying27 rfl Z6 (.tmp .nil))) rfl ?_
    exact ⟨_, rfl, ⟨Au, cu, Ad, cd, rfl, (by repeat (first | (with_reducible exact HE.out.get (by simp)) | with_reducible apply Fr.allocn | with_reducible apply Fr.drew | with_reducible apply Fr.drewN | (refine Fr.setV ?_ Z18 (by decide) (by omega)))), (by repeat (first | (with_reducible exact HE.out.get (by simp)) | with_reducible apply Fr.allocn | with_reducible apply Fr.drew | with_reducible apply Fr.drewN | (refine Fr.setV ?_ Z18 (by decide) (by omega))))⟩, (by repeat (first | exact HB.out | (refine below_set ?_ (by omega)) | apply below_alloc | apply pw_below_drewN | apply below_drew1))⟩
abbrev zR : Rt := ⟨false, [], []⟩
def inR (n : Int) : Bool := decide (-1125899906842624 ≤ n) && decide (n ≤ 1125899906842624)
def absI (n : Int) : Int := if n < 0 then -n else n
def makeS (p q : Int) : Rt × Int := if inR p = true ∧ inR q = true then (if q = 0 then (zR, 16) else (redS (!(decide (p < 0) == decide (q < 0))) (dg (absI p)) (dg (absI q)), 0)) else (zR, 1)
theorem sem_in (n : Int) (w : World) : Calls Try.prog 65 #[.int .i64 n] w fun e w' => e = .returned (.bool (inR n)) ∧ w' = w := by
  unfold inR
  by_cases h1 : -1125899906842624 ≤ n
  · by_cases h2 : n ≤ 1125899906842624
    · go_enter Try.func65, Try.ntmps65
      go_wp2
      all_goals first | (go_ret; exact ⟨by simp [h1, h2], rfl⟩) | (exfalso; omega)
    · go_enter Try.func65, Try.ntmps65
      go_wp2
      all_goals first | (go_ret; exact ⟨by simp [h1, h2], rfl⟩) | (exfalso; omega)
  · go_enter Try.func65, Try.ntmps65
    go_wp2
    all_goals first | (go_ret; exact ⟨by simp; omega, rfl⟩) | (exfalso; omega)
theorem sem_natural (n : Int) (hn : inR n = true) (w : World) : Calls Try.prog 66 #[.int .i64 n] w fun e w' => ∃ v, e = .returned v ∧ (∀ B, Fr B w' v (dg (absI n))) ∧ Below w.heap.size w w' := by
  have h1 : -1125899906842624 ≤ n ∧ n ≤ 1125899906842624 := by simpa [inR] using hn
  obtain ⟨h2, h3⟩ := h1
  have hk : ofS (absI n) = (dg (absI n), 0) := by unfold ofS; rw [if_neg (by unfold absI; split <;> omega)]
  have hm : absI n ≤ 9223372036854775807 := by unfold absI; split <;> omega
  have hE : (if -n ≤ n then n else -n) = absI n := by unfold absI; split <;> split <;> omega
  have hE2 : (if n < -n then -n else n) = absI n := by unfold absI; split <;> split <;> omega
  have hE3 : max n (-n) = absI n := by unfold absI; split <;> omega
  obtain ⟨m, hM⟩ : ∃ m, absI n = m := ⟨_, rfl⟩
  rw [hM] at hE hE2 hE3 hk hm ⊢
  clear hM hn
  have HK := Aside0.mk hk
  clear hk
  go_enter Try.func66, Try.ntmps66
  go_wp2_with (first | (go_at_call 81; refine Calls.mono (sem_nat_Of _ ?_) ?_; omega; (first | rw [HK.out] | (rw [hE]; rw [HK.out]) | (rw [hE2]; rw [HK.out]) | (rw [hE3]; rw [HK.out])); rintro e w5 ⟨v, rfl, hs, hb⟩))
  go_ret
  exact ⟨v, rfl, hs, hb⟩
def GiveR (B : Nat) (w : World) (r : Rt × Int) (e : Ending) (w' : World) : Prop := ∃ v, e = .returned (.tuple #[v, .int .i64 r.2]) ∧ RaF B w' v r.1 ∧ Below w.heap.size w w'
theorem absI_ok {n : Int} (h : inR n = true) : okN (dg (absI n)) = true ∧ (n ≠ 0 → dg (absI n) ≠ []) := by
  have h1 : -1125899906842624 ≤ n ∧ n ≤ 1125899906842624 := by simpa [inR] using h
  have h0 : 0 ≤ absI n := by unfold absI; split <;> omega
  have h2 : absI n < pw 48 := by
    have : absI n ≤ 1125899906842624 := by unfold absI; split <;> omega
    have : (1125899906842624 : Int) < pw 48 := by decide
    omega
  refine ⟨okN_iff.2 (ok_dg h0 h2), fun hn e => ?_⟩
  have := (dg_nil h0).1 e
  unfold absI at this
  split at this <;> omega
set_option maxHeartbeats 400000 in
set_option maxRecDepth 100000 in
theorem sem_Make (p q : Int) {w : World} {B : Nat} (hB : B ≤ w.heap.size) : Calls Try.prog 50 #[.int .i64 p, .int .i64 q] w (GiveR B w (makeS p q)) := by
  have HE := Aside0.mk (Env.nil B w)
  have HB := Aside0.mk (Below.refl w.heap.size w)
  by_cases hp : inR p = true
  rotate_left
  · have hS : makeS p q = (zR, 1) := by unfold makeS; rw [if_neg (by simp [hp])]
    rw [hS]
    replace hp : inR p = false := by simpa using hp
    go_enter Try.func50, Try.ntmps50
    go_wp2_with (first | (go_at_call 65; refine (sem_in _ _).mono ?_; rintro e w8 ⟨rfl, rfl⟩))
    all_goals
      refine bodyPost_ret (results_list (rs := [.cell 4 27, .tmp 5]) rfl (by simp) (vals_vr Xv rfl Try.underlying27 rfl Z6 (.tmp .nil))) rfl ?_
      exact ⟨_, rfl, ⟨_, _, _, _, rfl, Xf, Xf⟩, Xb⟩
  by_cases hq : inR q = true
  rotate_left
  · have hS : makeS p q = (zR, 1) := by unfold makeS; rw [if_neg (by simp [hq])]
    rw [hS]
    replace hq : inR q = false := by simpa using hq
    go_enter Try.func50, Try.ntmps50
    go_wp2_with (first | (go_at_call 65; refine (sem_in _ _).mono ?_; rintro e w8 ⟨rfl, rfl⟩))
    all_goals
      refine bodyPost_ret (results_list (rs := [.cell 4 27, .tmp 5]) rfl (by simp) (vals_vr Xv rfl Try.underlying27 rfl Z6 (.tmp .nil))) rfl ?_
      exact ⟨_, rfl, ⟨_, _, _, _, rfl, Xf, Xf⟩, Xb⟩
  by_cases h0 : q = 0
  · have hS : makeS p q = (zR, 16) := by unfold makeS; rw [if_pos ⟨hp, hq⟩, if_pos h0]
    rw [hS]
    have h00 : inR 0 = true := by decide
    go_enter Try.func50, Try.ntmps50
    go_wp2_with (first | (go_at_call 65; refine (sem_in _ _).mono ?_; rintro e w8 ⟨rfl, rfl⟩))
    all_goals
      refine bodyPost_ret (results_list (rs := [.cell 4 27, .tmp 5]) rfl (by simp) (vals_vr Xv rfl Try.underlying27 rfl Z6 (.tmp .nil))) rfl ?_
      exact ⟨_, rfl, ⟨_, _, _, _, rfl, Xf, Xf⟩, Xb⟩
  have hS : makeS p q = (redS (!(decide (p < 0) == decide (q < 0))) (dg (absI p)) (dg (absI q)), 0) := by unfold makeS; rw [if_pos ⟨hp, hq⟩, if_neg h0]
  obtain ⟨rr, hr⟩ : ∃ x, redS (!(decide (p < 0) == decide (q < 0))) (dg (absI p)) (dg (absI q)) = x := ⟨_, rfl⟩
  rw [hS, hr]
  have HR := Aside0.mk hr
  have HN := Aside0.mk (And.intro (absI_ok hp).1 (And.intro (absI_ok hq).1 ((absI_ok hq).2 h0)))
  clear hr hS
  go_enter Try.func50, Try.ntmps50
  go_wp2_with (first | (go_at_call 65; refine (sem_in _ _).mono ?_; rintro e w8 ⟨rfl, rfl⟩) | (go_at_call_of 66 (Value.int .i64 p); refine (sem_natural p hp _).mono ?_; rintro e w1 ⟨v1, rfl, hs, hb⟩; have n_ := Aside0.mk (Env.cons (Env.below Xe hb) (hs B)); have nb_ := Aside0.mk (below_step (w := w) Xb hb); have hz1 := hb.size; (try simp at hz1); clear HE HB; have HE := n_; have HB := nb_; clear n_ nb_; have HX := Aside0.mk (Vr.below (g := w.heap.size) Z5 hb); (first | obtain ⟨hc_HX, hf_HX, hl_HX⟩ := Vr.q3 HX.out | (obtain ⟨hc_HX, hf_HX, hl_HX⟩ := Vr.p3 HX.out; (try simp at hc_HX))); clear hb) | (go_at_call_of 66 (Value.int .i64 q); refine (sem_natural q hq _).mono ?_; rintro e w2 ⟨v2, rfl, hs, hb⟩; have n_ := Aside0.mk (Env.cons (Env.below Xe hb) (hs B)); have nb_ := Aside0.mk (below_step (w := w) Xb hb); have hz2 := hb.size; (try simp at hz2); clear HE HB; have HE := n_; have HB := nb_; clear n_ nb_; replace HX := Aside0.mk (Vr.below (g := w.heap.size) Z5 hb); (try clear hc_HX hf_HX hl_HX); (first | obtain ⟨hc_HX, hf_HX, hl_HX⟩ := Vr.q3 HX.out | (obtain ⟨hc_HX, hf_HX, hl_HX⟩ := Vr.p3 HX.out; (try simp at hc_HX))); clear hb) | (go_at_call 64; refine (sem_reduced (B := B) _ (p := dg (absI p)) (q := dg (absI q)) (by omega) ?_ ?_ HN.out.1 HN.out.2.1 HN.out.2.2).mono ?_; exact Xf; exact Xf; rw [HR.out]; rintro e w3 ⟨v3, rfl, ⟨A1, c1, A2, c2, rfl, hs1, hs2⟩, hb⟩; have n_ := Aside0.mk (Env.cons (Env.cons (Env.below Xe hb) (hs1)) (hs2)); have nb_ := Aside0.mk (below_step (w := w) Xb hb); have hz3 := hb.size; (try simp at hz3); clear HE HB; have HE := n_; have HB := nb_; clear n_ nb_; replace HX := Aside0.mk (Vr.below (g := w.heap.size) Z5 hb); (try clear hc_HX hf_HX hl_HX); (first | obtain ⟨hc_HX, hf_HX, hl_HX⟩ := Vr.q3 HX.out | (obtain ⟨hc_HX, hf_HX, hl_HX⟩ := Vr.p3 HX.out; (try simp at hc_HX))); clear hb))
  all_goals
    refine bodyPost_ret (results_list (rs := [.cell 4 27, .tmp 5]) rfl (by simp) (vals_vr Xv rfl Try.underlying27 rfl Z6 (.tmp .nil))) rfl ?_
    exact ⟨_, rfl, ⟨_, _, _, _, rfl, Xf, Xf⟩, Xb⟩
set_option maxHeartbeats 400000 in
theorem sem_Of (n : Int) {w : World} {B : Nat} (hB : B ≤ w.heap.size) : Calls Try.prog 32 #[.int .i64 n] w (GiveR B w (makeS n 1)) := by
  have HE := Aside0.mk (Env.nil B w)
  have HB := Aside0.mk (Below.refl w.heap.size w)
  obtain ⟨rr, hr⟩ : ∃ x, makeS n 1 = x := ⟨_, rfl⟩
  rw [hr]
  have HR := Aside0.mk hr
  clear hr
  go_enter Try.func32, Try.ntmps32
  go_wp2_with (first | (go_at_call 50; refine (sem_Make (B := B) _ _ Z20).mono ?_; rintro e w1 ⟨v1, rfl, ⟨A1, c1, A2, c2, rfl, hs1, hs2⟩, hb⟩; have n_ := Aside0.mk (Env.cons (Env.cons (Env.below Xe hb) (hs1)) (hs2)); have nb_ := Aside0.mk (below_step (w := w) Xb hb); have hz1 := hb.size; (try simp at hz1); clear HE HB; have HE := n_; have HB := nb_; clear n_ nb_; have HX := Aside0.mk (Vr.below (g := w.heap.size) Z5 hb); (first | obtain ⟨hc_HX, hf_HX, hl_HX⟩ := Vr.q3 HX.out | (obtain ⟨hc_HX, hf_HX, hl_HX⟩ := Vr.p3 HX.out; (try simp at hc_HX))); clear hb))
  all_goals
    have hR := HR.out
    subst hR
    refine bodyPost_ret (results_list (rs := [.cell 2 27, .tmp 3]) rfl (by simp) (vals_vr Xv rfl Try.underlying27 rfl Z6 (.tmp .nil))) rfl ?_
    exact ⟨_, rfl, ⟨_, _, _, _, rfl, Xf, Xf⟩, Xb⟩
def rvB (x : Rt) : Bool := okN x.p && (okN x.q && (!decide (x.q.length = 0) && (!(x.neg && decide (x.p.length = 0)) && decide (gcdI (val x.p) (val x.q) = 1))))
set_option maxHeartbeats 400000 in
theorem sem_Valid_a (x : Rt) {v : Value} {w : World} {B : Nat} (h : RaF B w v x) (hx : okN x.p = false) : Calls Try.prog 51 #[v] w fun e w' => e = .returned (.bool (rvB x)) ∧ Below w.heap.size w w' := by
  obtain ⟨A1, c1, A2, c2, rfl, h1, h2⟩ := h
  obtain ⟨neg, p, q⟩ := x
  simp only at hx h1 h2 ⊢
  have HE := Aside0.mk (((Env.nil B w).cons h2).cons h1)
  have HB := Aside0.mk (Below.refl w.heap.size w)
  clear h1 h2
  cases neg
  all_goals
    go_enter Try.func51, Try.ntmps51
    go_wp2_with (first | (go_at_call_of 67 (Value.slice A1 p.length c1); refine (sem_nat_Valid (a := p) ?_).mono ?_; exact Fr.sl (B := B) Xf; rintro e w1 ⟨rfl, hd⟩; obtain ⟨m1, rfl⟩ := hd.out; clear hd) | (go_at_call_of 67 (Value.slice A2 q.length c2); refine (sem_nat_Valid (a := q) ?_).mono ?_; exact Fr.sl (B := B) Xf; rintro e w2 ⟨rfl, hd⟩; obtain ⟨m2, rfl⟩ := hd.out; clear hd))
    all_goals
      go_ret
      exact ⟨by simp [rvB, *], Xb⟩
set_option maxHeartbeats 400000 in
theorem sem_Valid_b (x : Rt) {v : Value} {w : World} {B : Nat} (h : RaF B w v x) (hx : okN x.p = true) (hy : okN x.q = false) : Calls Try.prog 51 #[v] w fun e w' => e = .returned (.bool (rvB x)) ∧ Below w.heap.size w w' := by
  obtain ⟨A1, c1, A2, c2, rfl, h1, h2⟩ := h
  obtain ⟨neg, p, q⟩ := x
  simp only at hx hy h1 h2 ⊢
  have HE := Aside0.mk (((Env.nil B w).cons h2).cons h1)
  have HB := Aside0.mk (Below.refl w.heap.size w)
  clear h1 h2
  cases neg
  all_goals
    go_enter Try.func51, Try.ntmps51
    go_wp2_with (first | (go_at_call_of 67 (Value.slice A1 p.length c1); refine (sem_nat_Valid (a := p) ?_).mono ?_; exact Fr.sl (B := B) Xf; rintro e w1 ⟨rfl, hd⟩; obtain ⟨m1, rfl⟩ := hd.out; clear hd) | (go_at_call_of 67 (Value.slice A2 q.length c2); refine (sem_nat_Valid (a := q) ?_).mono ?_; exact Fr.sl (B := B) Xf; rintro e w2 ⟨rfl, hd⟩; obtain ⟨m2, rfl⟩ := hd.out; clear hd))
    all_goals
      go_ret
      exact ⟨by simp [rvB, *], Xb⟩
set_option maxHeartbeats 400000 in
theorem sem_Valid_c (x : Rt) {v : Value} {w : World} {B : Nat} (h : RaF B w v x) (hx : okN x.p = true) (hy : okN x.q = true) (h0 : x.q.length = 0) : Calls Try.prog 51 #[v] w fun e w' => e = .returned (.bool (rvB x)) ∧ Below w.heap.size w w' := by
  obtain ⟨A1, c1, A2, c2, rfl, h1, h2⟩ := h
  obtain ⟨neg, p, q⟩ := x
  have h0 : q = [] := List.eq_nil_of_length_eq_zero h0
  subst h0
  simp only at hx hy h1 h2 ⊢
  have HE := Aside0.mk (((Env.nil B w).cons h2).cons h1)
  have HB := Aside0.mk (Below.refl w.heap.size w)
  clear h1 h2
  cases neg
  all_goals
    go_enter Try.func51, Try.ntmps51
    go_wp2_with (first | (go_at_call_of 67 (Value.slice A1 p.length c1); refine (sem_nat_Valid (a := p) ?_).mono ?_; exact Fr.sl (B := B) Xf; rintro e w1 ⟨rfl, hd⟩; obtain ⟨m1, rfl⟩ := hd.out; clear hd) | (go_at_call_of 67 (Value.slice A2 0 c2); refine (sem_nat_Valid (a := []) ?_).mono ?_; exact Fr.sl (B := B) Xf; rintro e w2 ⟨rfl, hd⟩; obtain ⟨m2, rfl⟩ := hd.out; clear hd))
    all_goals
      go_ret
      exact ⟨by simp [rvB, *], Xb⟩
set_option maxHeartbeats 400000 in
theorem sem_Valid_d (x : Rt) {v : Value} {w : World} {B : Nat} (h : RaF B w v x) (hx : okN x.p = true) (hy : okN x.q = true) (h0 : x.q.length ≠ 0) (h3 : x.neg = true) (h4 : x.p.length = 0) : Calls Try.prog 51 #[v] w fun e w' => e = .returned (.bool (rvB x)) ∧ Below w.heap.size w w' := by
  obtain ⟨A1, c1, A2, c2, rfl, h1, h2⟩ := h
  obtain ⟨neg, p, q⟩ := x
  have h4 : p = [] := List.eq_nil_of_length_eq_zero h4
  subst h4
  simp only at hx hy h1 h2 h0 h3 ⊢
  subst h3
  have HE := Aside0.mk (((Env.nil B w).cons h2).cons h1)
  have HB := Aside0.mk (Below.refl w.heap.size w)
  have h0' : (q.length : Int) ≠ 0 := by omega
  clear h1 h2
  go_enter Try.func51, Try.ntmps51
  go_wp2_with (first | (go_at_call_of 67 (Value.slice A1 0 c1); refine (sem_nat_Valid (a := []) ?_).mono ?_; exact Fr.sl (B := B) Xf; rintro e w1 ⟨rfl, hd⟩; obtain ⟨m1, rfl⟩ := hd.out; clear hd) | (go_at_call_of 67 (Value.slice A2 q.length c2); refine (sem_nat_Valid (a := q) ?_).mono ?_; exact Fr.sl (B := B) Xf; rintro e w2 ⟨rfl, hd⟩; obtain ⟨m2, rfl⟩ := hd.out; clear hd))
  all_goals
    go_ret
    exact ⟨by simp [rvB, *], Xb⟩
set_option maxHeartbeats 400000 in
set_option maxRecDepth 100000 in
theorem sem_Valid_e (neg : Bool) (p q g : List Int) {A1 A2 : Option Addr} {c1 c2 : Nat} {w : World} {B : Nat} (h1 : Fr B w (.slice A1 p.length c1) p) (h2 : Fr B w (.slice A2 q.length c2) q) (hx : okN p = true) (hy : okN q = true) (h0 : ¬ (q.length : Int) = 0) (h3 : (neg = false ∨ ¬ (p.length : Int) = 0)) (hG : gcdS p q = (g, 0)) (hg0 : g ≠ []) : Calls Try.prog 51 #[.agg #[.bool neg, .slice A1 p.length c1, .slice A2 q.length c2]] w fun e w' => e = .returned (.bool (decide (g = [1]))) ∧ Below w.heap.size w w' := by
  have HE := Aside0.mk (((Env.nil B w).cons h2).cons h1)
  have HB := Aside0.mk (Below.refl w.heap.size w)
  have HG := Aside0.mk hG
  replace h3 : (neg = false ∨ ¬ p = []) := h3.imp id (fun h e => h (by rw [e]; rfl))
  have h0' : ¬ q = [] := by rintro rfl; exact h0 rfl
  have hq0 : ((q.length : Int) == 0) = false := beq_false_of_ne h0
  have hp0 : ∀ h : ¬ p = [], ((p.length : Int) == 0) = false := fun h => beq_false_of_ne (fun e => h (List.eq_nil_of_length_eq_zero (by omega)))
  clear h1 h2 hG
  obtain ⟨d, g', rfl⟩ : ∃ d g', g = d :: g' := by cases g with | nil => exact absurd rfl hg0 | cons d g' => exact ⟨d, g', rfl⟩
  cases g' with
  | cons d2 g2 =>
    have hl : ¬ ((g2.length : Int) + 1 + 1 = 1) := by omega
    rcases h3 with rfl | h3
    · go_enter Try.func51, Try.ntmps51
      go_wp2_with (first | (go_at_call_of 67 (Value.slice A1 p.length c1); refine (sem_nat_Valid (a := p) ?_).mono ?_; exact Fr.sl (B := B) Xf; rintro e w1 ⟨rfl, hd⟩; obtain ⟨m1, rfl⟩ := hd.out; clear hd) | (go_at_call_of 67 (Value.slice A2 q.length c2); refine (sem_nat_Valid (a := q) ?_).mono ?_; exact Fr.sl (B := B) Xf; rintro e w2 ⟨rfl, hd⟩; obtain ⟨m2, rfl⟩ := hd.out; clear hd) | (go_at_call 68; refine (sem_nat_Gcd (a := p) (b := q) ?_ ?_).mono ?_; exact Fr.sl (B := B) Xf; exact Fr.sl (B := B) Xf; rw [HG.out]; rintro e w3 ⟨v3, rfl, hs, hb⟩; obtain ⟨Ag, cg, rfl, hs3⟩ := (hs B).open; obtain ⟨ad, e_, hcell⟩ := hs3.first (by simp); subst e_; have hcell0 := hcell 0 (by simp); rw [show ad.add 0 = ad from rfl] at hcell0; (try simp at hcell0); have n_ := Aside0.mk (Env.cons (Env.below Xe hb) (hs3)); have nb_ := Aside0.mk (below_step (w := w) Xb hb); have hz3 := hb.size; (try simp at hz3); clear HE HB; have HE := n_; have HB := nb_; clear n_ nb_; have HX := Aside0.mk (Vr.below (g := w.heap.size) Z5 hb); (first | obtain ⟨hc_HX, hf_HX, hl_HX⟩ := Vr.q3 HX.out | (obtain ⟨hc_HX, hf_HX, hl_HX⟩ := Vr.p3 HX.out; (try simp at hc_HX))); clear hb))
      all_goals
        go_ret
        exact ⟨by simp, Xb⟩
    · have hp1 := hp0 h3
      clear hp0
      cases neg
      all_goals
        go_enter Try.func51, Try.ntmps51
        go_wp2_with (first | (go_at_call_of 67 (Value.slice A1 p.length c1); refine (sem_nat_Valid (a := p) ?_).mono ?_; exact Fr.sl (B := B) Xf; rintro e w1 ⟨rfl, hd⟩; obtain ⟨m1, rfl⟩ := hd.out; clear hd) | (go_at_call_of 67 (Value.slice A2 q.length c2); refine (sem_nat_Valid (a := q) ?_).mono ?_; exact Fr.sl (B := B) Xf; rintro e w2 ⟨rfl, hd⟩; obtain ⟨m2, rfl⟩ := hd.out; clear hd) | (go_at_call 68; refine (sem_nat_Gcd (a := p) (b := q) ?_ ?_).mono ?_; exact Fr.sl (B := B) Xf; exact Fr.sl (B := B) Xf; rw [HG.out]; rintro e w3 ⟨v3, rfl, hs, hb⟩; obtain ⟨Ag, cg, rfl, hs3⟩ := (hs B).open; obtain ⟨ad, e_, hcell⟩ := hs3.first (by simp); subst e_; have hcell0 := hcell 0 (by simp); rw [show ad.add 0 = ad from rfl] at hcell0; (try simp at hcell0); have n_ := Aside0.mk (Env.cons (Env.below Xe hb) (hs3)); have nb_ := Aside0.mk (below_step (w := w) Xb hb); have hz3 := hb.size; (try simp at hz3); clear HE HB; have HE := n_; have HB := nb_; clear n_ nb_; have HX := Aside0.mk (Vr.below (g := w.heap.size) Z5 hb); (first | obtain ⟨hc_HX, hf_HX, hl_HX⟩ := Vr.q3 HX.out | (obtain ⟨hc_HX, hf_HX, hl_HX⟩ := Vr.p3 HX.out; (try simp at hc_HX))); clear hb))
        all_goals
          go_ret
          exact ⟨by simp, Xb⟩
  | nil =>
    by_cases hd : d = 1
    · subst hd
      rcases h3 with rfl | h3
      · go_enter Try.func51, Try.ntmps51
        go_wp2_with (first | (go_at_call_of 67 (Value.slice A1 p.length c1); refine (sem_nat_Valid (a := p) ?_).mono ?_; exact Fr.sl (B := B) Xf; rintro e w1 ⟨rfl, hd⟩; obtain ⟨m1, rfl⟩ := hd.out; clear hd) | (go_at_call_of 67 (Value.slice A2 q.length c2); refine (sem_nat_Valid (a := q) ?_).mono ?_; exact Fr.sl (B := B) Xf; rintro e w2 ⟨rfl, hd⟩; obtain ⟨m2, rfl⟩ := hd.out; clear hd) | (go_at_call 68; refine (sem_nat_Gcd (a := p) (b := q) ?_ ?_).mono ?_; exact Fr.sl (B := B) Xf; exact Fr.sl (B := B) Xf; rw [HG.out]; rintro e w3 ⟨v3, rfl, hs, hb⟩; obtain ⟨Ag, cg, rfl, hs3⟩ := (hs B).open; obtain ⟨ad, e_, hcell⟩ := hs3.first (by simp); subst e_; have hcell0 := hcell 0 (by simp); rw [show ad.add 0 = ad from rfl] at hcell0; (try simp at hcell0); have n_ := Aside0.mk (Env.cons (Env.below Xe hb) (hs3)); have nb_ := Aside0.mk (below_step (w := w) Xb hb); have hz3 := hb.size; (try simp at hz3); clear HE HB; have HE := n_; have HB := nb_; clear n_ nb_; have HX := Aside0.mk (Vr.below (g := w.heap.size) Z5 hb); (first | obtain ⟨hc_HX, hf_HX, hl_HX⟩ := Vr.q3 HX.out | (obtain ⟨hc_HX, hf_HX, hl_HX⟩ := Vr.p3 HX.out; (try simp at hc_HX))); clear hb))
        all_goals
          go_ret
          exact ⟨by simp, Xb⟩
      · have hp1 := hp0 h3
        clear hp0
        cases neg
        all_goals
          go_enter Try.func51, Try.ntmps51
          go_wp2_with (first | (go_at_call_of 67 (Value.slice A1 p.length c1); refine (sem_nat_Valid (a := p) ?_).mono ?_; exact Fr.sl (B := B) Xf; rintro e w1 ⟨rfl, hd⟩; obtain ⟨m1, rfl⟩ := hd.out; clear hd) | (go_at_call_of 67 (Value.slice A2 q.length c2); refine (sem_nat_Valid (a := q) ?_).mono ?_; exact Fr.sl (B := B) Xf; rintro e w2 ⟨rfl, hd⟩; obtain ⟨m2, rfl⟩ := hd.out; clear hd) | (go_at_call 68; refine (sem_nat_Gcd (a := p) (b := q) ?_ ?_).mono ?_; exact Fr.sl (B := B) Xf; exact Fr.sl (B := B) Xf; rw [HG.out]; rintro e w3 ⟨v3, rfl, hs, hb⟩; obtain ⟨Ag, cg, rfl, hs3⟩ := (hs B).open; obtain ⟨ad, e_, hcell⟩ := hs3.first (by simp); subst e_; have hcell0 := hcell 0 (by simp); rw [show ad.add 0 = ad from rfl] at hcell0; (try simp at hcell0); have n_ := Aside0.mk (Env.cons (Env.below Xe hb) (hs3)); have nb_ := Aside0.mk (below_step (w := w) Xb hb); have hz3 := hb.size; (try simp at hz3); clear HE HB; have HE := n_; have HB := nb_; clear n_ nb_; have HX := Aside0.mk (Vr.below (g := w.heap.size) Z5 hb); (first | obtain ⟨hc_HX, hf_HX, hl_HX⟩ := Vr.q3 HX.out | (obtain ⟨hc_HX, hf_HX, hl_HX⟩ := Vr.p3 HX.out; (try simp at hc_HX))); clear hb))
          all_goals
            go_ret
            exact ⟨by simp, Xb⟩
    · rcases h3 with rfl | h3
      · go_enter Try.func51, Try.ntmps51
        go_wp2_with (first | (go_at_call_of 67 (Value.slice A1 p.length c1); refine (sem_nat_Valid (a := p) ?_).mono ?_; exact Fr.sl (B := B) Xf; rintro e w1 ⟨rfl, hd⟩; obtain ⟨m1, rfl⟩ := hd.out; clear hd) | (go_at_call_of 67 (Value.slice A2 q.length c2); refine (sem_nat_Valid (a := q) ?_).mono ?_; exact Fr.sl (B := B) Xf; rintro e w2 ⟨rfl, hd⟩; obtain ⟨m2, rfl⟩ := hd.out; clear hd) | (go_at_call 68; refine (sem_nat_Gcd (a := p) (b := q) ?_ ?_).mono ?_; exact Fr.sl (B := B) Xf; exact Fr.sl (B := B) Xf; rw [HG.out]; rintro e w3 ⟨v3, rfl, hs, hb⟩; obtain ⟨Ag, cg, rfl, hs3⟩ := (hs B).open; obtain ⟨ad, e_, hcell⟩ := hs3.first (by simp); subst e_; have hcell0 := hcell 0 (by simp); rw [show ad.add 0 = ad from rfl] at hcell0; (try simp at hcell0); have n_ := Aside0.mk (Env.cons (Env.below Xe hb) (hs3)); have nb_ := Aside0.mk (below_step (w := w) Xb hb); have hz3 := hb.size; (try simp at hz3); clear HE HB; have HE := n_; have HB := nb_; clear n_ nb_; have HX := Aside0.mk (Vr.below (g := w.heap.size) Z5 hb); (first | obtain ⟨hc_HX, hf_HX, hl_HX⟩ := Vr.q3 HX.out | (obtain ⟨hc_HX, hf_HX, hl_HX⟩ := Vr.p3 HX.out; (try simp at hc_HX))); clear hb))
        all_goals
          go_ret
          exact ⟨by simp [hd], Xb⟩
      · have hp1 := hp0 h3
        clear hp0
        cases neg
        all_goals
          go_enter Try.func51, Try.ntmps51
          go_wp2_with (first | (go_at_call_of 67 (Value.slice A1 p.length c1); refine (sem_nat_Valid (a := p) ?_).mono ?_; exact Fr.sl (B := B) Xf; rintro e w1 ⟨rfl, hd⟩; obtain ⟨m1, rfl⟩ := hd.out; clear hd) | (go_at_call_of 67 (Value.slice A2 q.length c2); refine (sem_nat_Valid (a := q) ?_).mono ?_; exact Fr.sl (B := B) Xf; rintro e w2 ⟨rfl, hd⟩; obtain ⟨m2, rfl⟩ := hd.out; clear hd) | (go_at_call 68; refine (sem_nat_Gcd (a := p) (b := q) ?_ ?_).mono ?_; exact Fr.sl (B := B) Xf; exact Fr.sl (B := B) Xf; rw [HG.out]; rintro e w3 ⟨v3, rfl, hs, hb⟩; obtain ⟨Ag, cg, rfl, hs3⟩ := (hs B).open; obtain ⟨ad, e_, hcell⟩ := hs3.first (by simp); subst e_; have hcell0 := hcell 0 (by simp); rw [show ad.add 0 = ad from rfl] at hcell0; (try simp at hcell0); have n_ := Aside0.mk (Env.cons (Env.below Xe hb) (hs3)); have nb_ := Aside0.mk (below_step (w := w) Xb hb); have hz3 := hb.size; (try simp at hz3); clear HE HB; have HE := n_; have HB := nb_; clear n_ nb_; have HX := Aside0.mk (Vr.below (g := w.heap.size) Z5 hb); (first | obtain ⟨hc_HX, hf_HX, hl_HX⟩ := Vr.q3 HX.out | (obtain ⟨hc_HX, hf_HX, hl_HX⟩ := Vr.p3 HX.out; (try simp at hc_HX))); clear hb))
          all_goals
            go_ret
            exact ⟨by simp [hd], Xb⟩
theorem dg_one_iff {n : Int} (h : 0 ≤ n) : dg n = [1] ↔ n = 1 := by
  constructor
  · intro e
    have h1 := val_dg h
    rw [e] at h1
    simpa [val] using h1.symm
  · rintro rfl
    rw [dg_pos (by decide)]
    show (1 % 1000000000 : Int) :: dg (1 / 1000000000) = [1]
    rw [show (1 : Int) / 1000000000 = 0 from rfl, dg_zero]
    rfl
theorem sem_rat_Valid {x : Rt} {v : Value} {w : World} {B : Nat} (h : RaF B w v x) : Calls Try.prog 51 #[v] w fun e w' => e = .returned (.bool (rvB x)) ∧ Below w.heap.size w w' := by
  by_cases hx : okN x.p = true
  rotate_left
  · exact sem_Valid_a x h (by simpa using hx)
  by_cases hy : okN x.q = true
  rotate_left
  · exact sem_Valid_b x h hx (by simpa using hy)
  by_cases h0 : x.q.length = 0
  · exact sem_Valid_c x h hx hy h0
  by_cases h3 : x.neg = true ∧ x.p.length = 0
  · exact sem_Valid_d x h hx hy h0 h3.1 h3.2
  have hq0 : x.q ≠ [] := by intro e; rw [e] at h0; exact h0 rfl
  obtain ⟨g1, g2, g3⟩ := gcd_facts hx hy hq0
  have hG : gcdS x.p x.q = (dg (gcdI (val x.p) (val x.q)), 0) := by unfold gcdS; rw [if_pos ⟨hx, hy⟩]
  obtain ⟨A1, c1, A2, c2, rfl, h1, h2⟩ := h
  refine (sem_Valid_e x.neg x.p x.q _ h1 h2 hx hy (by omega) ?_ hG g2).mono fun e w' h => ⟨?_, h.2⟩
  · by_cases hn : x.neg = true
    · exact .inr (fun h => h3 ⟨hn, by omega⟩)
    · exact .inl (by simpa using hn)
  · rw [h.1]
    have e1 : (dg (gcdI (val x.p) (val x.q)) = [1]) = (gcdI (val x.p) (val x.q) = 1) := propext (dg_one_iff (gcdI_nonneg _ _))
    have e2 : rvB x = decide (gcdI (val x.p) (val x.q) = 1) := by
      unfold rvB
      rw [hx, hy]
      have : (x.neg && decide (x.p.length = 0)) = false := by
        cases hn : x.neg
        · rfl
        · have : ¬ x.p.length = 0 := fun h => h3 ⟨hn, h⟩
          simp [this]
      rw [this]
      simp [hq0]
    rw [e2]
    simp only [e1]
theorem rvB_iff {x : Rt} : rvB x = true ↔ okN x.p = true ∧ okN x.q = true ∧ x.q ≠ [] ∧ (x.neg = true → x.p ≠ []) ∧ gcdI (val x.p) (val x.q) = 1 := by
  unfold rvB
  cases x.neg <;> simp
set_option maxHeartbeats 400000 in
theorem sem_valid2_a {x y : Rt} {w : World} {B g t : Nat} {A1 A2 A3 A4 : Option Addr} {c1 c2 c3 c4 : Nat} (hB : B ≤ w.heap.size) (hg : B ≤ g) (ht : t ≠ 3) (b1 b2 : Bool) (hv1 : rvB x = b1) (hv2 : rvB y = b2)
    (hv : Vr w g #[.bool x.neg, .slice A1 x.p.length c1, .slice A2 x.q.length c2, .bool y.neg, .slice A3 y.p.length c3, .slice A4 y.q.length c4] t)
    (h1 : Fr B w (.slice A1 x.p.length c1) x.p) (h2 : Fr B w (.slice A2 x.q.length c2) x.q) (h3 : Fr B w (.slice A3 y.p.length c3) y.p) (h4 : Fr B w (.slice A4 y.q.length c4) y.q) :
    Calls Try.prog 61 #[.slice (some ⟨g, 0, none⟩) 2 2] w fun e w' => e = .returned (.bool (b1 && b2)) ∧ Below w.heap.size w w' := by
  obtain ⟨ng, p, q⟩ := x
  obtain ⟨ng', p', q'⟩ := y
  simp only at hv h1 h2 h3 h4
  have HE := Aside0.mk (((((Env.nil B w).cons h4).cons h3).cons h2).cons h1)
  have HB := Aside0.mk (Below.refl w.heap.size w)
  have HV := Aside0.mk (And.intro hv1 hv2)
  have HG := Aside0.mk hv
  have hc_HG := Vr.k6 hv
  have hf_HG := Vr.fz hv
  have hl_HG := Vr.lt hv
  simp at hc_HG
  clear h1 h2 h3 h4 hv hv1 hv2
  cases b1
  · go_enter Try.func61, Try.ntmps61
    go_wp2_with (first | (go_at_call_of 51 (Value.agg #[Value.bool ng, Value.slice A1 p.length c1, Value.slice A2 q.length c2]); refine (sem_rat_Valid (B := B) (x := ⟨ng, p, q⟩) ?_).mono ?_; exact ⟨_, _, _, _, rfl, Xf, Xf⟩; rw [HV.out.1]; rintro e w1 ⟨rfl, hb⟩; have n_ := Aside0.mk (Env.below Xe hb); have nb_ := Aside0.mk (below_step (w := w) Xb hb); have hz1 := hb.size; (try simp at hz1); clear HE HB; have HE := n_; have HB := nb_; clear n_ nb_; replace HG := Aside0.mk (Vr.below (g := g) Z5 hb); have HX := Aside0.mk (Vr.below (g := w.heap.size) Z5 hb); (try clear hc_HG hf_HG hl_HG); (first | obtain ⟨hc_HG, hf_HG, hl_HG⟩ := Vr.q6 HG.out | (obtain ⟨hc_HG, hf_HG, hl_HG⟩ := Vr.p6 HG.out; (try simp at hc_HG))); (first | obtain ⟨hc_HX, hf_HX, hl_HX⟩ := Vr.q3 HX.out | (obtain ⟨hc_HX, hf_HX, hl_HX⟩ := Vr.p3 HX.out; (try simp at hc_HX))); clear hb))
    refine wp_loop_rounds 3 ?_
    rw [rounds_succ]
    go_wp2_with (first | (go_at_call_of 51 (Value.agg #[Value.bool ng, Value.slice A1 p.length c1, Value.slice A2 q.length c2]); refine (sem_rat_Valid (B := B) (x := ⟨ng, p, q⟩) ?_).mono ?_; exact ⟨_, _, _, _, rfl, Xf, Xf⟩; rw [HV.out.1]; rintro e w1 ⟨rfl, hb⟩; have n_ := Aside0.mk (Env.below Xe hb); have nb_ := Aside0.mk (below_step (w := w) Xb hb); have hz1 := hb.size; (try simp at hz1); clear HE HB; have HE := n_; have HB := nb_; clear n_ nb_; replace HG := Aside0.mk (Vr.below (g := g) Z5 hb); have HX := Aside0.mk (Vr.below (g := w.heap.size) Z5 hb); (try clear hc_HG hf_HG hl_HG); (first | obtain ⟨hc_HG, hf_HG, hl_HG⟩ := Vr.q6 HG.out | (obtain ⟨hc_HG, hf_HG, hl_HG⟩ := Vr.p6 HG.out; (try simp at hc_HG))); (first | obtain ⟨hc_HX, hf_HX, hl_HX⟩ := Vr.q3 HX.out | (obtain ⟨hc_HX, hf_HX, hl_HX⟩ := Vr.p3 HX.out; (try simp at hc_HX))); clear hb))
    all_goals
      go_ret
      exact ⟨by simp, Xb⟩
  · cases b2
    · go_enter Try.func61, Try.ntmps61
      go_wp2_with (first | (go_at_call_of 51 (Value.agg #[Value.bool ng, Value.slice A1 p.length c1, Value.slice A2 q.length c2]); refine (sem_rat_Valid (B := B) (x := ⟨ng, p, q⟩) ?_).mono ?_; exact ⟨_, _, _, _, rfl, Xf, Xf⟩; rw [HV.out.1]; rintro e w1 ⟨rfl, hb⟩; have n_ := Aside0.mk (Env.below Xe hb); have nb_ := Aside0.mk (below_step (w := w) Xb hb); have hz1 := hb.size; (try simp at hz1); clear HE HB; have HE := n_; have HB := nb_; clear n_ nb_; replace HG := Aside0.mk (Vr.below (g := g) Z5 hb); have HX := Aside0.mk (Vr.below (g := w.heap.size) Z5 hb); (try clear hc_HG hf_HG hl_HG); (first | obtain ⟨hc_HG, hf_HG, hl_HG⟩ := Vr.q6 HG.out | (obtain ⟨hc_HG, hf_HG, hl_HG⟩ := Vr.p6 HG.out; (try simp at hc_HG))); (first | obtain ⟨hc_HX, hf_HX, hl_HX⟩ := Vr.q3 HX.out | (obtain ⟨hc_HX, hf_HX, hl_HX⟩ := Vr.p3 HX.out; (try simp at hc_HX))); clear hb))
      refine wp_loop_rounds 3 ?_
      rw [rounds_succ]
      go_wp2_with (first | (go_at_call_of 51 (Value.agg #[Value.bool ng, Value.slice A1 p.length c1, Value.slice A2 q.length c2]); refine (sem_rat_Valid (B := B) (x := ⟨ng, p, q⟩) ?_).mono ?_; exact ⟨_, _, _, _, rfl, Xf, Xf⟩; rw [HV.out.1]; rintro e w1 ⟨rfl, hb⟩; have n_ := Aside0.mk (Env.below Xe hb); have nb_ := Aside0.mk (below_step (w := w) Xb hb); have hz1 := hb.size; (try simp at hz1); clear HE HB; have HE := n_; have HB := nb_; clear n_ nb_; replace HG := Aside0.mk (Vr.below (g := g) Z5 hb); have HX := Aside0.mk (Vr.below (g := w.heap.size) Z5 hb); (try clear hc_HG hf_HG hl_HG); (first | obtain ⟨hc_HG, hf_HG, hl_HG⟩ := Vr.q6 HG.out | (obtain ⟨hc_HG, hf_HG, hl_HG⟩ := Vr.p6 HG.out; (try simp at hc_HG))); (first | obtain ⟨hc_HX, hf_HX, hl_HX⟩ := Vr.q3 HX.out | (obtain ⟨hc_HX, hf_HX, hl_HX⟩ := Vr.p3 HX.out; (try simp at hc_HX))); clear hb))
      rw [rounds_succ]
      go_wp2_with (first | (go_at_call_of 51 (Value.agg #[Value.bool ng', Value.slice A3 p'.length c3, Value.slice A4 q'.length c4]); refine (sem_rat_Valid (B := B) (x := ⟨ng', p', q'⟩) ?_).mono ?_; exact ⟨_, _, _, _, rfl, Xf, Xf⟩; rw [HV.out.2]; rintro e w2 ⟨rfl, hb⟩; have n_ := Aside0.mk (Env.below Xe hb); have nb_ := Aside0.mk (below_step (w := w) Xb hb); have hz2 := hb.size; (try simp at hz2); clear HE HB; have HE := n_; have HB := nb_; clear n_ nb_; replace HG := Aside0.mk (Vr.below (g := g) Z5 hb); replace HX := Aside0.mk (Vr.below (g := w.heap.size) Z5 hb); have HY := Aside0.mk (Vr.below (g := w1.heap.size) Z5 hb); (try clear hc_HG hf_HG hl_HG); (try clear hc_HX hf_HX hl_HX); (first | obtain ⟨hc_HG, hf_HG, hl_HG⟩ := Vr.q6 HG.out | (obtain ⟨hc_HG, hf_HG, hl_HG⟩ := Vr.p6 HG.out; (try simp at hc_HG))); (first | obtain ⟨hc_HX, hf_HX, hl_HX⟩ := Vr.q3 HX.out | (obtain ⟨hc_HX, hf_HX, hl_HX⟩ := Vr.p3 HX.out; (try simp at hc_HX))); (first | obtain ⟨hc_HY, hf_HY, hl_HY⟩ := Vr.q3 HY.out | (obtain ⟨hc_HY, hf_HY, hl_HY⟩ := Vr.p3 HY.out; (try simp at hc_HY))); clear hb))
      all_goals
        go_ret
        exact ⟨by simp, Xb⟩
    · go_enter Try.func61, Try.ntmps61
      go_wp2_with (first | (go_at_call_of 51 (Value.agg #[Value.bool ng, Value.slice A1 p.length c1, Value.slice A2 q.length c2]); refine (sem_rat_Valid (B := B) (x := ⟨ng, p, q⟩) ?_).mono ?_; exact ⟨_, _, _, _, rfl, Xf, Xf⟩; rw [HV.out.1]; rintro e w1 ⟨rfl, hb⟩; have n_ := Aside0.mk (Env.below Xe hb); have nb_ := Aside0.mk (below_step (w := w) Xb hb); have hz1 := hb.size; (try simp at hz1); clear HE HB; have HE := n_; have HB := nb_; clear n_ nb_; replace HG := Aside0.mk (Vr.below (g := g) Z5 hb); have HX := Aside0.mk (Vr.below (g := w.heap.size) Z5 hb); (try clear hc_HG hf_HG hl_HG); (first | obtain ⟨hc_HG, hf_HG, hl_HG⟩ := Vr.q6 HG.out | (obtain ⟨hc_HG, hf_HG, hl_HG⟩ := Vr.p6 HG.out; (try simp at hc_HG))); (first | obtain ⟨hc_HX, hf_HX, hl_HX⟩ := Vr.q3 HX.out | (obtain ⟨hc_HX, hf_HX, hl_HX⟩ := Vr.p3 HX.out; (try simp at hc_HX))); clear hb))
      refine wp_loop_rounds 3 ?_
      rw [rounds_succ]
      go_wp2_with (first | (go_at_call_of 51 (Value.agg #[Value.bool ng, Value.slice A1 p.length c1, Value.slice A2 q.length c2]); refine (sem_rat_Valid (B := B) (x := ⟨ng, p, q⟩) ?_).mono ?_; exact ⟨_, _, _, _, rfl, Xf, Xf⟩; rw [HV.out.1]; rintro e w1 ⟨rfl, hb⟩; have n_ := Aside0.mk (Env.below Xe hb); have nb_ := Aside0.mk (below_step (w := w) Xb hb); have hz1 := hb.size; (try simp at hz1); clear HE HB; have HE := n_; have HB := nb_; clear n_ nb_; replace HG := Aside0.mk (Vr.below (g := g) Z5 hb); have HX := Aside0.mk (Vr.below (g := w.heap.size) Z5 hb); (try clear hc_HG hf_HG hl_HG); (first | obtain ⟨hc_HG, hf_HG, hl_HG⟩ := Vr.q6 HG.out | (obtain ⟨hc_HG, hf_HG, hl_HG⟩ := Vr.p6 HG.out; (try simp at hc_HG))); (first | obtain ⟨hc_HX, hf_HX, hl_HX⟩ := Vr.q3 HX.out | (obtain ⟨hc_HX, hf_HX, hl_HX⟩ := Vr.p3 HX.out; (try simp at hc_HX))); clear hb))
      rw [rounds_succ]
      go_wp2_with (first | (go_at_call_of 51 (Value.agg #[Value.bool ng', Value.slice A3 p'.length c3, Value.slice A4 q'.length c4]); refine (sem_rat_Valid (B := B) (x := ⟨ng', p', q'⟩) ?_).mono ?_; exact ⟨_, _, _, _, rfl, Xf, Xf⟩; rw [HV.out.2]; rintro e w2 ⟨rfl, hb⟩; have n_ := Aside0.mk (Env.below Xe hb); have nb_ := Aside0.mk (below_step (w := w) Xb hb); have hz2 := hb.size; (try simp at hz2); clear HE HB; have HE := n_; have HB := nb_; clear n_ nb_; replace HG := Aside0.mk (Vr.below (g := g) Z5 hb); replace HX := Aside0.mk (Vr.below (g := w.heap.size) Z5 hb); have HY := Aside0.mk (Vr.below (g := w1.heap.size) Z5 hb); (try clear hc_HG hf_HG hl_HG); (try clear hc_HX hf_HX hl_HX); (first | obtain ⟨hc_HG, hf_HG, hl_HG⟩ := Vr.q6 HG.out | (obtain ⟨hc_HG, hf_HG, hl_HG⟩ := Vr.p6 HG.out; (try simp at hc_HG))); (first | obtain ⟨hc_HX, hf_HX, hl_HX⟩ := Vr.q3 HX.out | (obtain ⟨hc_HX, hf_HX, hl_HX⟩ := Vr.p3 HX.out; (try simp at hc_HX))); (first | obtain ⟨hc_HY, hf_HY, hl_HY⟩ := Vr.q3 HY.out | (obtain ⟨hc_HY, hf_HY, hl_HY⟩ := Vr.p3 HY.out; (try simp at hc_HY))); clear hb))
      rw [rounds_succ]
      go_wp2_with (first | (go_at_call_of 51 (Value.agg #[Value.bool ng', Value.slice A3 p'.length c3, Value.slice A4 q'.length c4]); refine (sem_rat_Valid (B := B) (x := ⟨ng', p', q'⟩) ?_).mono ?_; exact ⟨_, _, _, _, rfl, Xf, Xf⟩; rw [HV.out.2]; rintro e w2 ⟨rfl, hb⟩; have n_ := Aside0.mk (Env.below Xe hb); have nb_ := Aside0.mk (below_step (w := w) Xb hb); have hz2 := hb.size; (try simp at hz2); clear HE HB; have HE := n_; have HB := nb_; clear n_ nb_; replace HG := Aside0.mk (Vr.below (g := g) Z5 hb); replace HX := Aside0.mk (Vr.below (g := w.heap.size) Z5 hb); have HY := Aside0.mk (Vr.below (g := w1.heap.size) Z5 hb); (try clear hc_HG hf_HG hl_HG); (try clear hc_HX hf_HX hl_HX); (first | obtain ⟨hc_HG, hf_HG, hl_HG⟩ := Vr.q6 HG.out | (obtain ⟨hc_HG, hf_HG, hl_HG⟩ := Vr.p6 HG.out; (try simp at hc_HG))); (first | obtain ⟨hc_HX, hf_HX, hl_HX⟩ := Vr.q3 HX.out | (obtain ⟨hc_HX, hf_HX, hl_HX⟩ := Vr.p3 HX.out; (try simp at hc_HX))); (first | obtain ⟨hc_HY, hf_HY, hl_HY⟩ := Vr.q3 HY.out | (obtain ⟨hc_HY, hf_HY, hl_HY⟩ := Vr.p3 HY.out; (try simp at hc_HY))); clear hb))
      all_goals
        go_ret
        exact ⟨by simp, Xb⟩
end Go.Proofs.Ytbjamhkhocjdkaa.Px
