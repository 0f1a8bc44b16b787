/- The functions of the program as functions of values, part 8: a proof's lemmas, with no condition of their own. -/
import Derived.Shelf.Strings.Builder1
import Derived.Shelf.Strings.Builder2
import Derived.Shelf.Strings.BuilderF
import Derived.Shelf.Strings.BuilderK
import Derived.Shelf.Strconv.Itoa0
import Derived.Shelf.Strconv.Itoa1
import Derived.Shelf.LaysM
import Derived.Shelf.Strconv.Itoa2
import Derived.Shelf.Strconv.Itoa3
import Derived.Shelf.Strings.Prefix
import Derived.Shelf.Bits.Mul64
import Derived.Shelf.Strings.Repeat
import Derived.Test.YtalklhbdpmggjaaDoorProg
import Derived.Test.YtalklhbdpmggjaaDoorNeb
import Derived.Test.YtalklhbdpmggjaaDoorNed
import Derived.Test.YtalklhbdpmggjaaDoorNeg
set_option linter.unusedVariables false
set_option linter.unusedSimpArgs false
namespace Go.Proofs
open Go.Shelf
def Tryd.lays170_ren : Go.Shelf.Ren := ⟨fun | 170 => 114 | n => n, fun | 70 => 69 | 3 => 3 | 0 => 0 | 72 => 72 | 37 => 70 | 5 => 5 | n => n, fun | n => n⟩
theorem Tryd.lays170 : Go.Proofs.Lays.n170 Tryd.prog Tryd.lays170_ren := {
  mixed := by kernel_rfl
  f170 := Tryd.func114.trans (congrArg some (by kernel_rfl))
  t0 := Tryd.underlying0
  a0 := Tryd.isAgg0
  z0 := Tryd.sizeOf0
  v0 := Tryd.zeroValue0
  t3 := Tryd.underlying3
  a3 := Tryd.isAgg3
  z3 := Tryd.sizeOf3
  v3 := Tryd.zeroValue3
  t37 := Tryd.underlying70
  a37 := Tryd.isAgg70
  z37 := Tryd.sizeOf70
  v37 := Tryd.zeroValue70
  t70 := Tryd.underlying69
  a70 := Tryd.isAgg69
  z70 := Tryd.sizeOf69
  v70 := Tryd.zeroValue69
  t72 := Tryd.underlying72
  a72 := Tryd.isAgg72
  z72 := Tryd.sizeOf72
  v72 := Tryd.zeroValue72 }
open Go.RowKit in
/-- (*strings.Builder).Len: "Len returns the number of accumulated bytes; b.Len() == len(b.String()).": the world is as it was. (LAID: no walk: one application.) -/
theorem Tryd.Builder_Len (B b : Nat) (bs : List Value) (w : World) (h : Lib.IsBuilder 72 5 B b bs w) :
    Calls Tryd.prog 114 #[.pointer (some ⟨b, 0, none⟩)] w fun e w' => e = .returned (.int .i64 bs.length) ∧ w' = w := Any.Builder_Len Tryd.lays170 B b bs w h
def Tryd.lays169_ren : Go.Shelf.Ren := ⟨fun | 169 => 87 | n => n, fun | 70 => 69 | 9 => 9 | 0 => 0 | 72 => 72 | 37 => 70 | 127 => 104 | 3 => 3 | 5 => 5 | n => n, fun | n => n⟩
theorem Tryd.lays169 : Go.Proofs.Lays.n169 Tryd.prog Tryd.lays169_ren := {
  mixed := by kernel_rfl
  f169 := Tryd.func87.trans (congrArg some (by kernel_rfl))
  t0 := Tryd.underlying0
  a0 := Tryd.isAgg0
  z0 := Tryd.sizeOf0
  v0 := Tryd.zeroValue0
  t3 := Tryd.underlying3
  a3 := Tryd.isAgg3
  z3 := Tryd.sizeOf3
  v3 := Tryd.zeroValue3
  t9 := Tryd.underlying9
  a9 := Tryd.isAgg9
  z9 := Tryd.sizeOf9
  v9 := Tryd.zeroValue9
  t37 := Tryd.underlying70
  a37 := Tryd.isAgg70
  z37 := Tryd.sizeOf70
  v37 := Tryd.zeroValue70
  t70 := Tryd.underlying69
  a70 := Tryd.isAgg69
  z70 := Tryd.sizeOf69
  v70 := Tryd.zeroValue69
  t72 := Tryd.underlying72
  a72 := Tryd.isAgg72
  z72 := Tryd.sizeOf72
  v72 := Tryd.zeroValue72
  t127 := Tryd.underlying104
  a127 := Tryd.isAgg104
  z127 := Tryd.sizeOf104
  v127 := Tryd.zeroValue104 }
theorem Tryd.Builder_Extra_169 : Builder.Extra Tryd.prog Tryd.lays169_ren := {
  sizeBuilder := by kernel_rfl
  liesBuilder := by kernel_rfl
  t5 := Tryd.underlying5
  a5 := Tryd.isAgg5
  z5 := Tryd.sizeOf5
  v5 := Tryd.zeroValue5
  infoByte := by kernel_rfl
  cellsByte := by kernel_rfl
  sizeByte := by kernel_rfl
  neB5 := by decide }
open Go.RowKit in
/-- (*strings.Builder).String: "String returns the accumulated string.": OF A BUILDER THAT HOLDS AT LEAST ONE BYTE. ✋ THE MODEL FREEZES THOSE BYTES IN THE BUFFER (unsafe.String): a later write INTO them ends the model's run without an answer; a later append BEHIND them goes on. The statement's order of evaluation is drawn: one draw. (LAID: no walk: one application.) -/
theorem Tryd.Builder_String (B b : Nat) (l : List UInt8) (w : World) (h : Lib.IsBuilder 72 5 B b (Lib.byteCells l) w) (h0 : l ≠ []) :
    Calls Tryd.prog 87 #[.pointer (some ⟨b, 0, none⟩)] w fun e w' => e = .returned (.string ⟨l.toArray⟩) ∧ Below B w w' := Any.Builder_String Tryd.lays169 Tryd.Builder_Extra_169 B b l w h h0
open Go.RowKit in
/-- (*strings.Builder).String OF A BUILDER THAT HOLDS NO BYTE: the empty string. (Its buffer is nil, or a row of which it has taken nothing yet; where that row has NO capacity the model lays one new block for unsafe.SliceData's 'some address'.) One draw. (LAID: no walk: one application.) -/
theorem Tryd.Builder_String_empty (B b : Nat) (w : World) (h : Lib.IsBuilder 72 5 B b [] w) (hBw : B ≤ w.heap.size) :
    Calls Tryd.prog 87 #[.pointer (some ⟨b, 0, none⟩)] w fun e w' => e = .returned (.string ⟨#[]⟩) ∧ Below B w w' := Any.Builder_String_empty Tryd.lays169 Tryd.Builder_Extra_169 B b w h hBw
open Go.RowKit in
/-- (*strings.Builder).String: "String returns the accumulated string.": WHATEVER THE BUILDER HOLDS. (LAID: no walk: one application.) -/
theorem Tryd.Builder_String_any (B b : Nat) (l : List UInt8) (w : World) (h : Lib.IsBuilder 72 5 B b (Lib.byteCells l) w) (hBw : B ≤ w.heap.size) :
    Calls Tryd.prog 87 #[.pointer (some ⟨b, 0, none⟩)] w fun e w' => e = .returned (.string ⟨l.toArray⟩) ∧ Below B w w' := Any.Builder_String_any Tryd.lays169 Tryd.Builder_Extra_169 B b l w h hBw
def Tryd.lays241_ren : Go.Shelf.Ren := ⟨fun | 241 => 125 | 277 => 130 | n => n, fun | 70 => 69 | 3 => 3 | 0 => 0 | 72 => 72 | 37 => 70 | 5 => 5 | n => n, fun | n => n⟩
theorem Tryd.lays241 : Go.Proofs.Lays.n241 Tryd.prog Tryd.lays241_ren := {
  mixed := by kernel_rfl
  f241 := Tryd.func125.trans (congrArg some (by kernel_rfl))
  f277 := Tryd.func130.trans (congrArg some (by kernel_rfl))
  t0 := Tryd.underlying0
  a0 := Tryd.isAgg0
  z0 := Tryd.sizeOf0
  v0 := Tryd.zeroValue0
  t3 := Tryd.underlying3
  a3 := Tryd.isAgg3
  z3 := Tryd.sizeOf3
  v3 := Tryd.zeroValue3
  t37 := Tryd.underlying70
  a37 := Tryd.isAgg70
  z37 := Tryd.sizeOf70
  v37 := Tryd.zeroValue70
  t70 := Tryd.underlying69
  a70 := Tryd.isAgg69
  z70 := Tryd.sizeOf69
  v70 := Tryd.zeroValue69
  t72 := Tryd.underlying72
  a72 := Tryd.isAgg72
  z72 := Tryd.sizeOf72
  v72 := Tryd.zeroValue72 }
theorem Tryd.Builder_Extra_241 : Builder.Extra Tryd.prog Tryd.lays241_ren := {
  sizeBuilder := by kernel_rfl
  liesBuilder := by kernel_rfl
  t5 := Tryd.underlying5
  a5 := Tryd.isAgg5
  z5 := Tryd.sizeOf5
  v5 := Tryd.zeroValue5
  infoByte := by kernel_rfl
  cellsByte := by kernel_rfl
  sizeByte := by kernel_rfl
  neB5 := by decide }
open Go.RowKit in
/-- (*strings.Builder).grow (no doc but "grow copies the buffer to a new, larger buffer so that there are at least n bytes of capacity beyond len(b.buf)."): AT A BUILDER WITHOUT A BUFFER: a new row of whatever bytes for its buffer, none of them its own yet. Three draws. (LAID: no walk: one application.) -/
theorem Tryd.Builder_grow_fresh (B b n : Nat) (w : World) (hB : B ≤ b) (hbk : w.heap[b]? = some (.cells #[.pointer (some ⟨b, 0, none⟩), .slice none 0 0] 72 (0, 0))) (hBw : B ≤ w.heap.size) (hn : n ≤ 281474976710656) :
    Calls Tryd.prog 125 #[.pointer (some ⟨b, 0, none⟩), .int .i64 n] w fun e w' => e = .returned (.tuple #[]) ∧ (Lib.BuilderAt 72 5 B b (.pointer (some ⟨b, 0, none⟩)) [] w' ∧ Below B w w') := Any.Builder_grow_fresh Tryd.lays241 Tryd.Builder_Extra_241 B b n w hB hbk hBw hn
def Tryd.lays165_ren : Go.Shelf.Ren := ⟨fun | 165 => 113 | 240 => 109 | 241 => 125 | 276 => 120 | 277 => 130 | n => n, fun | 70 => 69 | 3 => 3 | 0 => 0 | 4 => 4 | 9 => 9 | 20 => 20 | 72 => 72 | 37 => 70 | 164 => 109 | 5 => 5 | n => n, fun | n => n⟩
theorem Tryd.lays165 : Go.Proofs.Lays.n165 Tryd.prog Tryd.lays165_ren := {
  mixed := by kernel_rfl
  f165 := Tryd.func113.trans (congrArg some (by kernel_rfl))
  f240 := Tryd.func109.trans (congrArg some (by kernel_rfl))
  f241 := Tryd.func125.trans (congrArg some (by kernel_rfl))
  f276 := Tryd.func120.trans (congrArg some (by kernel_rfl))
  f277 := Tryd.func130.trans (congrArg some (by kernel_rfl))
  t0 := Tryd.underlying0
  a0 := Tryd.isAgg0
  z0 := Tryd.sizeOf0
  v0 := Tryd.zeroValue0
  t3 := Tryd.underlying3
  a3 := Tryd.isAgg3
  z3 := Tryd.sizeOf3
  v3 := Tryd.zeroValue3
  t4 := Tryd.underlying4
  a4 := Tryd.isAgg4
  z4 := Tryd.sizeOf4
  v4 := Tryd.zeroValue4
  t9 := Tryd.underlying9
  a9 := Tryd.isAgg9
  z9 := Tryd.sizeOf9
  v9 := Tryd.zeroValue9
  t20 := Tryd.underlying20
  a20 := Tryd.isAgg20
  z20 := Tryd.sizeOf20
  v20 := Tryd.zeroValue20
  t37 := Tryd.underlying70
  a37 := Tryd.isAgg70
  z37 := Tryd.sizeOf70
  v37 := Tryd.zeroValue70
  t70 := Tryd.underlying69
  a70 := Tryd.isAgg69
  z70 := Tryd.sizeOf69
  v70 := Tryd.zeroValue69
  t72 := Tryd.underlying72
  a72 := Tryd.isAgg72
  z72 := Tryd.sizeOf72
  v72 := Tryd.zeroValue72
  t164 := Tryd.underlying109
  a164 := Tryd.isAgg109
  z164 := Tryd.sizeOf109
  v164 := Tryd.zeroValue109 }
theorem Tryd.Builder_Extra_165 : Builder.Extra Tryd.prog Tryd.lays165_ren := {
  sizeBuilder := by kernel_rfl
  liesBuilder := by kernel_rfl
  t5 := Tryd.underlying5
  a5 := Tryd.isAgg5
  z5 := Tryd.sizeOf5
  v5 := Tryd.zeroValue5
  infoByte := by kernel_rfl
  cellsByte := by kernel_rfl
  sizeByte := by kernel_rfl
  neB5 := by decide }
open Go.RowKit in
/-- (*strings.Builder).Grow AT A BUILDER THAT HAS NOT BEEN WRITTEN ('var b strings.Builder; b.Grow(n)'): "Grow grows b's capacity, if necessary, to guarantee space for another n bytes.": it holds no byte behind it as before it. (LAID: no walk: one application.) -/
theorem Tryd.Builder_Grow_fresh (B b n : Nat) (w : World) (hB : B ≤ b) (hbk : w.heap[b]? = some (.cells #[.pointer none, .slice none 0 0] 72 (0, 0))) (hBw : B ≤ w.heap.size) (hn : n ≤ 281474976710656) :
    Calls Tryd.prog 113 #[.pointer (some ⟨b, 0, none⟩), .int .i64 n] w fun e w' => e = .returned (.tuple #[]) ∧ (Lib.BuilderAt 72 5 B b (.pointer (some ⟨b, 0, none⟩)) [] w' ∧ Below B w w') := Any.Builder_Grow_fresh Tryd.lays165 Tryd.Builder_Extra_165 B b n w hB hbk hBw hn
open Go.RowKit in
/-- (*strings.Builder).Len: "Len returns the number of accumulated bytes; b.Len() == len(b.String()).": the world is as it was. (THE FORM '_f': 'Lib.IsBuilderF'.) (LAID: no walk: one application.) -/
theorem Tryd.Builder_Len_f (B b : Nat) (bs : List Value) (w : World) (h : Lib.IsBuilderF 72 5 B b bs w) :
    Calls Tryd.prog 114 #[.pointer (some ⟨b, 0, none⟩)] w fun e w' => e = .returned (.int .i64 bs.length) ∧ w' = w := Any.Builder_Len_f Tryd.lays170 B b bs w h
open Go.RowKit in
/-- (*strings.Builder).String: "String returns the accumulated string.": OF A BUILDER THAT HOLDS AT LEAST ONE BYTE. ✋ THE MODEL FREEZES THOSE BYTES IN THE BUFFER (unsafe.String): a later write INTO them ends the model's run without an answer; a later append BEHIND them goes on. The statement's order of evaluation is drawn: one draw. THE FORM '_f': IT SAYS BESIDES THAT THE BUILDER IS A BUILDER STILL ('Lib.IsBuilderF', the same bytes): SO IT CAN BE WRITTEN ON: 'b.WriteString(b.String()[:k])'. (LAID: no walk: one application.) -/
theorem Tryd.Builder_String_f (B b : Nat) (l : List UInt8) (w : World) (h : Lib.IsBuilderF 72 5 B b (Lib.byteCells l) w) (h0 : l ≠ []) :
    Calls Tryd.prog 87 #[.pointer (some ⟨b, 0, none⟩)] w fun e w' => e = .returned (.string ⟨l.toArray⟩) ∧ (Lib.IsBuilderF 72 5 B b (Lib.byteCells l) w' ∧ Below B w w') := Any.Builder_String_f Tryd.lays169 Tryd.Builder_Extra_169 B b l w h h0
open Go.RowKit in
/-- (*strings.Builder).String OF A BUILDER THAT HOLDS NO BYTE: the empty string; THE FORM '_f': a builder still. (LAID: no walk: one application.) -/
theorem Tryd.Builder_String_empty_f (B b : Nat) (w : World) (h : Lib.IsBuilderF 72 5 B b [] w) (hBw : B ≤ w.heap.size) :
    Calls Tryd.prog 87 #[.pointer (some ⟨b, 0, none⟩)] w fun e w' => e = .returned (.string ⟨#[]⟩) ∧ (Lib.IsBuilderF 72 5 B b [] w' ∧ Below B w w') := Any.Builder_String_empty_f Tryd.lays169 Tryd.Builder_Extra_169 B b w h hBw
open Go.RowKit in
/-- (*strings.Builder).String: "String returns the accumulated string.": WHATEVER THE BUILDER HOLDS; THE FORM '_f': OF A BUILDER THAT MAY HAVE BEEN READ BEFORE; AND IT IS A BUILDER STILL, holding the same bytes: it can be written on. (LAID: no walk: one application.) -/
theorem Tryd.Builder_String_any_f (B b : Nat) (l : List UInt8) (w : World) (h : Lib.IsBuilderF 72 5 B b (Lib.byteCells l) w) (hBw : B ≤ w.heap.size) :
    Calls Tryd.prog 87 #[.pointer (some ⟨b, 0, none⟩)] w fun e w' => e = .returned (.string ⟨l.toArray⟩) ∧ (Lib.IsBuilderF 72 5 B b (Lib.byteCells l) w' ∧ Below B w w') := Any.Builder_String_any_f Tryd.lays169 Tryd.Builder_Extra_169 B b l w h hBw
open Go.RowKit in
/-- (*strings.Builder).String: "String returns the accumulated string.": OF A BUILDER THAT HOLDS AT LEAST ONE BYTE. ✋ THE MODEL FREEZES THOSE BYTES IN THE BUFFER (unsafe.String): a later write INTO them ends the model's run without an answer; a later append BEHIND them goes on. The statement's order of evaluation is drawn: one draw. THE FORM '_k': OVER 'Lib.IsBuilderF' (a builder that 'String()' may have read), AND WITH THE FRAME THAT REACHES ABOVE THE BUILDER: 'Lib.OthersKept': every block that is not b and is no row of uint8's stands as it stood: the iterator of a range among them. (LAID: no walk: one application.) -/
theorem Tryd.Builder_String_k (B b : Nat) (l : List UInt8) (w : World) (h : Lib.IsBuilderF 72 5 B b (Lib.byteCells l) w) (h0 : l ≠ []) :
    Calls Tryd.prog 87 #[.pointer (some ⟨b, 0, none⟩)] w fun e w' => e = .returned (.string ⟨l.toArray⟩) ∧ (Lib.IsBuilderF 72 5 B b (Lib.byteCells l) w' ∧ Below B w w' ∧ Lib.OthersKept 5 (some b) w w') := Any.Builder_String_k Tryd.lays169 Tryd.Builder_Extra_169 B b l w h h0
open Go.RowKit in
/-- (*strings.Builder).String OF A BUILDER THAT HOLDS NO BYTE: the empty string; THE FORM '_k': OVER 'Lib.IsBuilderF' (a builder that 'String()' may have read), AND WITH THE FRAME THAT REACHES ABOVE THE BUILDER: 'Lib.OthersKept': every block that is not b and is no row of uint8's stands as it stood: the iterator of a range among them. (LAID: no walk: one application.) -/
theorem Tryd.Builder_String_empty_k (B b : Nat) (w : World) (h : Lib.IsBuilderF 72 5 B b [] w) (hBw : B ≤ w.heap.size) :
    Calls Tryd.prog 87 #[.pointer (some ⟨b, 0, none⟩)] w fun e w' => e = .returned (.string ⟨#[]⟩) ∧ (Lib.IsBuilderF 72 5 B b [] w' ∧ Below B w w' ∧ Lib.OthersKept 5 (some b) w w') := Any.Builder_String_empty_k Tryd.lays169 Tryd.Builder_Extra_169 B b w h hBw
open Go.RowKit in
/-- (*strings.Builder).String: "String returns the accumulated string.": WHATEVER THE BUILDER HOLDS; THE FORM '_k': OVER 'Lib.IsBuilderF' (a builder that 'String()' may have read), AND WITH THE FRAME THAT REACHES ABOVE THE BUILDER: 'Lib.OthersKept': every block that is not b and is no row of uint8's stands as it stood: the iterator of a range among them. (LAID: no walk: one application.) -/
theorem Tryd.Builder_String_any_k (B b : Nat) (l : List UInt8) (w : World) (h : Lib.IsBuilderF 72 5 B b (Lib.byteCells l) w) (hBw : B ≤ w.heap.size) :
    Calls Tryd.prog 87 #[.pointer (some ⟨b, 0, none⟩)] w fun e w' => e = .returned (.string ⟨l.toArray⟩) ∧ (Lib.IsBuilderF 72 5 B b (Lib.byteCells l) w' ∧ Below B w w' ∧ Lib.OthersKept 5 (some b) w w') := Any.Builder_String_any_k Tryd.lays169 Tryd.Builder_Extra_169 B b l w h hBw
def Tryd.lays129_ren : Go.Shelf.Ren := ⟨fun | 129 => 132 | n => n, fun | 53 => 115 | 3 => 3 | 4 => 4 | 46 => 98 | 5 => 5 | 9 => 9 | n => n, fun | n => n⟩
theorem Tryd.lays129 : Go.Proofs.Lays.n129 Tryd.prog Tryd.lays129_ren := {
  mixed := by kernel_rfl
  f129 := Tryd.func132.trans (congrArg some (by kernel_rfl))
  t3 := Tryd.underlying3
  a3 := Tryd.isAgg3
  z3 := Tryd.sizeOf3
  v3 := Tryd.zeroValue3
  t4 := Tryd.underlying4
  a4 := Tryd.isAgg4
  z4 := Tryd.sizeOf4
  v4 := Tryd.zeroValue4
  t5 := Tryd.underlying5
  a5 := Tryd.isAgg5
  z5 := Tryd.sizeOf5
  v5 := Tryd.zeroValue5
  t9 := Tryd.underlying9
  a9 := Tryd.isAgg9
  z9 := Tryd.sizeOf9
  v9 := Tryd.zeroValue9
  t46 := Tryd.underlying98
  a46 := Tryd.isAgg98
  z46 := Tryd.sizeOf98
  v46 := Tryd.zeroValue98
  t53 := Tryd.underlying115
  a53 := Tryd.isAgg115
  z53 := Tryd.sizeOf115
  v53 := Tryd.zeroValue115 }
/-- bits.Len64: "Len64 returns the minimum number of bits required to represent x; the result is 0 for x == 0.": IT RETURNS 'Lib.bitLen x'; the world is as it was. ('h0', 'h1': x is a uint64.) (LAID: no walk: one application.) -/
theorem Tryd.bits_Len64 (x : Int) (w : World) (h0 : 0 ≤ x) (h1 : x ≤ 18446744073709551615) :
    Calls Tryd.prog 132 #[.int .u64 x] w fun e w' => e = .returned (.int .i64 (Lib.bitLen x.toNat)) ∧ w' = w := Any.bits_Len64 Tryd.lays129 x w h0 h1
def Tryd.lays317_ren : Go.Shelf.Ren := ⟨fun | 317 => 131 | n => n, fun | 3 => 3 | 46 => 98 | n => n, fun | n => n⟩
theorem Tryd.lays317 : Go.Proofs.Lays.n317 Tryd.prog Tryd.lays317_ren := {
  mixed := by kernel_rfl
  f317 := Tryd.func131.trans (congrArg some (by kernel_rfl))
  t3 := Tryd.underlying3
  a3 := Tryd.isAgg3
  z3 := Tryd.sizeOf3
  v3 := Tryd.zeroValue3
  t46 := Tryd.underlying98
  a46 := Tryd.isAgg98
  z46 := Tryd.sizeOf98
  v46 := Tryd.zeroValue98 }
open Go.Lib in
/-- internal/strconv.log10Pow2: "log10Pow2(x) returns ⌊log₁₀ 2**x⌋ = ⌊x * log₁₀ 2⌋.": '(x * 78913) >> 18', at an x up to 64 (a length in bits). The world is as it was. (LAID: no walk: one application.) -/
theorem Tryd.internal_strconv_log10Pow2 (x : Nat) (h : x ≤ 64) (w : World) :
    Calls Tryd.prog 131 #[.int .i64 x] w fun e w' => e = .returned (.int .i64 (Lib.l10 x)) ∧ w' = w := Any.internal_strconv_log10Pow2 Tryd.lays317 x h w
def Tryd.lays318_ren : Go.Shelf.Ren := ⟨fun | 318 => 133 | n => n, fun | 3 => 3 | 4 => 4 | n => n, fun | n => n⟩
theorem Tryd.lays318 : Go.Proofs.Lays.n318 Tryd.prog Tryd.lays318_ren := {
  mixed := by kernel_rfl
  f318 := Tryd.func133.trans (congrArg some (by kernel_rfl))
  t3 := Tryd.underlying3
  a3 := Tryd.isAgg3
  z3 := Tryd.sizeOf3
  v3 := Tryd.zeroValue3
  t4 := Tryd.underlying4
  a4 := Tryd.isAgg4
  z4 := Tryd.sizeOf4
  v4 := Tryd.zeroValue4 }
open Go.Lib in
/-- internal/strconv.bool2: "bool2 converts b to an integer: 1 for true, 0 for false." The world is as it was. (LAID: no walk: one application.) -/
theorem Tryd.internal_strconv_bool2_int (b : Bool) (w : World) :
    Calls Tryd.prog 133 #[.bool b] w fun e w' => e = .returned (.int .i64 (if b then 1 else 0)) ∧ w' = w := Any.internal_strconv_bool2_int Tryd.lays318 b w
def Tryd.lays283_ren : Go.Shelf.Ren := ⟨fun | 283 => 126 | n => n, fun | 3 => 3 | 9 => 9 | 4 => 4 | n => n, fun | n => n⟩
theorem Tryd.lays283 : Go.Proofs.Lays.n283 Tryd.prog Tryd.lays283_ren := {
  mixed := by kernel_rfl
  f283 := Tryd.func126.trans (congrArg some (by kernel_rfl))
  t3 := Tryd.underlying3
  a3 := Tryd.isAgg3
  z3 := Tryd.sizeOf3
  v3 := Tryd.zeroValue3
  t4 := Tryd.underlying4
  a4 := Tryd.isAgg4
  z4 := Tryd.sizeOf4
  v4 := Tryd.zeroValue4
  t9 := Tryd.underlying9
  a9 := Tryd.isAgg9
  z9 := Tryd.sizeOf9
  v9 := Tryd.zeroValue9 }
open Go.Lib in
/-- internal/strconv.small: "small returns the string for an i with 0 <= i < nSmalls.": i's decimal numeral. The world is as it was. (LAID: no walk: one application.) -/
theorem Tryd.internal_strconv_small (i : Nat) (h : i < 100) (w : World) :
    Calls Tryd.prog 126 #[.int .i64 i] w fun e w' => e = .returned (.string ⟨(Lib.decDigits i).toArray⟩) ∧ w' = w := Any.internal_strconv_small Tryd.lays283 i h w
def Tryd.laysM284_ren : Go.Shelf.Ren := ⟨fun | 284 => 127 | 129 => 132 | 317 => 131 | 318 => 133 | n => n, fun | 53 => 115 | 3 => 3 | 212 => 126 | 0 => 0 | 4 => 4 | 46 => 98 | 5 => 5 | 9 => 9 | n => n, fun | 17 => 0 | n => n⟩
theorem Tryd.laysM284 : Go.Proofs.LaysM.n284 Tryd.prog Tryd.laysM284_ren := {
  mixed := by kernel_rfl
  f129 := Tryd.func132.trans (congrArg some (by kernel_rfl))
  f284 := Tryd.func127.trans (congrArg some (by kernel_rfl))
  f317 := Tryd.func131.trans (congrArg some (by kernel_rfl))
  f318 := Tryd.func133.trans (congrArg some (by kernel_rfl))
  t0 := Tryd.underlying0
  a0 := Tryd.isAgg0
  z0 := Tryd.sizeOf0
  v0 := Tryd.zeroValue0
  t3 := Tryd.underlying3
  a3 := Tryd.isAgg3
  z3 := Tryd.sizeOf3
  v3 := Tryd.zeroValue3
  t4 := Tryd.underlying4
  a4 := Tryd.isAgg4
  z4 := Tryd.sizeOf4
  v4 := Tryd.zeroValue4
  t5 := Tryd.underlying5
  a5 := Tryd.isAgg5
  z5 := Tryd.sizeOf5
  v5 := Tryd.zeroValue5
  t9 := Tryd.underlying9
  a9 := Tryd.isAgg9
  z9 := Tryd.sizeOf9
  v9 := Tryd.zeroValue9
  t46 := Tryd.underlying98
  a46 := Tryd.isAgg98
  z46 := Tryd.sizeOf98
  v46 := Tryd.zeroValue98
  t53 := Tryd.underlying115
  a53 := Tryd.isAgg115
  z53 := Tryd.sizeOf115
  v53 := Tryd.zeroValue115
  t212 := Tryd.underlying126
  a212 := Tryd.isAgg126
  z212 := Tryd.sizeOf126
  v212 := Tryd.zeroValue126
  g17 := by kernel_rfl
  i0 := by kernel_rfl
  i3 := by kernel_rfl
  i4 := by kernel_rfl
  i5 := by kernel_rfl
  i9 := by kernel_rfl
  i46 := by kernel_rfl
  i53 := by kernel_rfl
  i212 := by kernel_rfl
  m17 := by kernel_rfl }
open Go.Lib in
/-- internal/strconv.numDigits, at a d that is not 0: THE NUMBER OF d's DECIMAL DIGITS. The world is as it was. (LAID: no walk: one application.) -/
theorem Tryd.internal_strconv_numDigits (u : Nat) (h1 : 1 ≤ u) (h2 : u < 18446744073709551616) (w : World) (htab : Lib.TabIs Tryd.prog w "internal/strconv.uint64pow10" .u64 Lib.pow10Tab) :
    Calls Tryd.prog 127 #[.int .u64 u] w fun e w' => e = .returned (.int .i64 (Lib.nDigits u)) ∧ w' = w := Any.internal_strconv_numDigits Tryd.laysM284 u h1 h2 w htab
def Tryd.lays285_ren : Go.Shelf.Ren := ⟨fun | 285 => 128 | n => n, fun | 37 => 70 | 53 => 115 | 3 => 3 | 4 => 4 | 51 => 112 | 9 => 9 | 5 => 5 | 0 => 0 | n => n, fun | n => n⟩
theorem Tryd.lays285 : Go.Proofs.Lays.n285 Tryd.prog Tryd.lays285_ren := {
  mixed := by kernel_rfl
  f285 := Tryd.func128.trans (congrArg some (by kernel_rfl))
  t0 := Tryd.underlying0
  a0 := Tryd.isAgg0
  z0 := Tryd.sizeOf0
  v0 := Tryd.zeroValue0
  t3 := Tryd.underlying3
  a3 := Tryd.isAgg3
  z3 := Tryd.sizeOf3
  v3 := Tryd.zeroValue3
  t4 := Tryd.underlying4
  a4 := Tryd.isAgg4
  z4 := Tryd.sizeOf4
  v4 := Tryd.zeroValue4
  t5 := Tryd.underlying5
  a5 := Tryd.isAgg5
  z5 := Tryd.sizeOf5
  v5 := Tryd.zeroValue5
  t9 := Tryd.underlying9
  a9 := Tryd.isAgg9
  z9 := Tryd.sizeOf9
  v9 := Tryd.zeroValue9
  t37 := Tryd.underlying70
  a37 := Tryd.isAgg70
  z37 := Tryd.sizeOf70
  v37 := Tryd.zeroValue70
  t51 := Tryd.underlying112
  a51 := Tryd.isAgg112
  z51 := Tryd.sizeOf112
  v51 := Tryd.zeroValue112
  t53 := Tryd.underlying115
  a53 := Tryd.isAgg115
  z53 := Tryd.sizeOf115
  v53 := Tryd.zeroValue115 }
open Go.RowKit Go.Sort Go.Lib in
/-- internal/strconv.formatBase10: "formatBase10 formats the decimal representation of u into a. The caller is responsible for ensuring that a is big enough to hold u. If a is too big, leading zeros will be filled in as needed.": THE ROW HOLDS u's DIGITS ('FmtInv .. 0 ..': every place t holds 'dg u (len - 1 - t)'); all else is as it was but for the count of draws. (LAID: no walk: one application.) -/
theorem Tryd.internal_strconv_formatBase10 (blk off cap : Nat) (u : Nat) (d : Array UInt8) (w : World) (hH : Holds (fun (b : UInt8) => Value.int .u8 (b.toNat : Int)) w blk off d) (hu : u < 10 ^ d.size) (hu64 : u < 18446744073709551616) (hsz : d.size < 4611686018427387904) :
    Calls Tryd.prog 128 #[.slice (some ⟨blk, off, none⟩) d.size cap, .int .u64 u] w fun e w' =>
      e = .returned (.tuple #[]) ∧ ∃ (n v' : Nat) (dk : Array UInt8), w' = (putRow (fun (b : UInt8) => Value.int .u8 (b.toNat : Int)) w blk off dk).drewN n ∧ FmtInv d.size u 0 v' dk := Any.internal_strconv_formatBase10 Tryd.lays285 blk off cap u d w hH hu hu64 hsz
def Tryd.laysM246_ren : Go.Shelf.Ren := ⟨fun | 246 => 121 | 283 => 126 | 284 => 127 | 285 => 128 | 286 => 129 | 129 => 132 | 317 => 131 | 318 => 133 | 319 => 134 | 320 => 135 | 337 => 136 | 338 => 137 | n => n, fun | 2 => 2 | 3 => 3 | 9 => 9 | 4 => 4 | 171 => 118 | 0 => 0 | 53 => 115 | 37 => 70 | 5 => 5 | 173 => 121 | 212 => 126 | 51 => 112 | 20 => 20 | 213 => 127 | 46 => 98 | 232 => 130 | 233 => 131 | n => n, fun | 17 => 0 | 18 => 2 | 19 => 3 | n => n⟩
theorem Tryd.laysM246 : Go.Proofs.LaysM.n246 Tryd.prog Tryd.laysM246_ren := {
  mixed := by kernel_rfl
  f129 := Tryd.func132.trans (congrArg some (by kernel_rfl))
  f246 := Tryd.func121.trans (congrArg some (by kernel_rfl))
  f283 := Tryd.func126.trans (congrArg some (by kernel_rfl))
  f284 := Tryd.func127.trans (congrArg some (by kernel_rfl))
  f285 := Tryd.func128.trans (congrArg some (by kernel_rfl))
  f286 := Tryd.func129.trans (congrArg some (by kernel_rfl))
  f317 := Tryd.func131.trans (congrArg some (by kernel_rfl))
  f318 := Tryd.func133.trans (congrArg some (by kernel_rfl))
  f319 := Tryd.func134.trans (congrArg some (by kernel_rfl))
  f320 := Tryd.func135.trans (congrArg some (by kernel_rfl))
  f337 := Tryd.func136.trans (congrArg some (by kernel_rfl))
  f338 := Tryd.func137.trans (congrArg some (by kernel_rfl))
  t0 := Tryd.underlying0
  a0 := Tryd.isAgg0
  z0 := Tryd.sizeOf0
  v0 := Tryd.zeroValue0
  t2 := Tryd.underlying2
  a2 := Tryd.isAgg2
  z2 := Tryd.sizeOf2
  v2 := Tryd.zeroValue2
  t3 := Tryd.underlying3
  a3 := Tryd.isAgg3
  z3 := Tryd.sizeOf3
  v3 := Tryd.zeroValue3
  t4 := Tryd.underlying4
  a4 := Tryd.isAgg4
  z4 := Tryd.sizeOf4
  v4 := Tryd.zeroValue4
  t5 := Tryd.underlying5
  a5 := Tryd.isAgg5
  z5 := Tryd.sizeOf5
  v5 := Tryd.zeroValue5
  t9 := Tryd.underlying9
  a9 := Tryd.isAgg9
  z9 := Tryd.sizeOf9
  v9 := Tryd.zeroValue9
  t20 := Tryd.underlying20
  a20 := Tryd.isAgg20
  z20 := Tryd.sizeOf20
  v20 := Tryd.zeroValue20
  t37 := Tryd.underlying70
  a37 := Tryd.isAgg70
  z37 := Tryd.sizeOf70
  v37 := Tryd.zeroValue70
  t46 := Tryd.underlying98
  a46 := Tryd.isAgg98
  z46 := Tryd.sizeOf98
  v46 := Tryd.zeroValue98
  t51 := Tryd.underlying112
  a51 := Tryd.isAgg112
  z51 := Tryd.sizeOf112
  v51 := Tryd.zeroValue112
  t53 := Tryd.underlying115
  a53 := Tryd.isAgg115
  z53 := Tryd.sizeOf115
  v53 := Tryd.zeroValue115
  t171 := Tryd.underlying118
  a171 := Tryd.isAgg118
  z171 := Tryd.sizeOf118
  v171 := Tryd.zeroValue118
  t173 := Tryd.underlying121
  a173 := Tryd.isAgg121
  z173 := Tryd.sizeOf121
  v173 := Tryd.zeroValue121
  t212 := Tryd.underlying126
  a212 := Tryd.isAgg126
  z212 := Tryd.sizeOf126
  v212 := Tryd.zeroValue126
  t213 := Tryd.underlying127
  a213 := Tryd.isAgg127
  z213 := Tryd.sizeOf127
  t232 := Tryd.underlying130
  a232 := Tryd.isAgg130
  z232 := Tryd.sizeOf130
  v232 := Tryd.zeroValue130
  t233 := Tryd.underlying131
  a233 := Tryd.isAgg131
  z233 := Tryd.sizeOf131
  v233 := Tryd.zeroValue131
  g17 := by kernel_rfl
  g18 := by kernel_rfl
  g19 := by kernel_rfl
  i0 := by kernel_rfl
  i2 := by kernel_rfl
  i3 := by kernel_rfl
  i4 := by kernel_rfl
  i5 := by kernel_rfl
  i9 := by kernel_rfl
  i20 := by kernel_rfl
  i37 := by kernel_rfl
  i46 := by kernel_rfl
  i51 := by kernel_rfl
  i53 := by kernel_rfl
  i171 := by kernel_rfl
  i173 := by kernel_rfl
  i212 := by kernel_rfl
  i232 := by kernel_rfl
  i233 := by kernel_rfl
  m17 := by kernel_rfl
  m18 := by kernel_rfl
  m19 := by kernel_rfl }
open Go.RowKit Go.Sort Go.Lib in
/-- internal/strconv.FormatInt: "FormatInt returns the string representation of i in the given base": AT BASE 10: i's decimal numeral, for every int64. The world behind the call: the world before it, new blocks behind the heap, draws. (LAID: no walk: one application.) -/
theorem Tryd.internal_strconv_FormatInt_10 (n : Int) (h0 : -9223372036854775808 ≤ n) (h1 : n ≤ 9223372036854775807) (w : World) (htab : Lib.TabIs Tryd.prog w "internal/strconv.uint64pow10" .u64 Lib.pow10Tab) :
    Calls Tryd.prog 121 #[.int .i64 n, .int .i64 10] w fun e w' => e = .returned (.string ⟨(Lib.itoa n).toArray⟩) ∧ ∃ k os, w' = grow (w.drewN k) os := Any.internal_strconv_FormatInt_10 Tryd.laysM246 n h0 h1 w htab
def Tryd.lays246_ren : Go.Shelf.Ren := ⟨fun | 246 => 121 | 283 => 126 | 284 => 127 | 285 => 128 | 286 => 129 | 129 => 132 | 317 => 131 | 318 => 133 | 319 => 134 | 320 => 135 | 337 => 136 | 338 => 137 | n => n, fun | 2 => 2 | 3 => 3 | 9 => 9 | 4 => 4 | 171 => 118 | 0 => 0 | 53 => 115 | 37 => 70 | 5 => 5 | 173 => 121 | 212 => 126 | 51 => 112 | 20 => 20 | 213 => 127 | 46 => 98 | 232 => 130 | 233 => 131 | n => n, fun | 17 => 0 | 18 => 2 | 19 => 3 | n => n⟩
theorem Tryd.lays246 : Go.Proofs.Lays.n246 Tryd.prog Tryd.lays246_ren := {
  mixed := by kernel_rfl
  f129 := Tryd.func132.trans (congrArg some (by kernel_rfl))
  f246 := Tryd.func121.trans (congrArg some (by kernel_rfl))
  f283 := Tryd.func126.trans (congrArg some (by kernel_rfl))
  f284 := Tryd.func127.trans (congrArg some (by kernel_rfl))
  f285 := Tryd.func128.trans (congrArg some (by kernel_rfl))
  f286 := Tryd.func129.trans (congrArg some (by kernel_rfl))
  f317 := Tryd.func131.trans (congrArg some (by kernel_rfl))
  f318 := Tryd.func133.trans (congrArg some (by kernel_rfl))
  f319 := Tryd.func134.trans (congrArg some (by kernel_rfl))
  f320 := Tryd.func135.trans (congrArg some (by kernel_rfl))
  f337 := Tryd.func136.trans (congrArg some (by kernel_rfl))
  f338 := Tryd.func137.trans (congrArg some (by kernel_rfl))
  t0 := Tryd.underlying0
  a0 := Tryd.isAgg0
  z0 := Tryd.sizeOf0
  v0 := Tryd.zeroValue0
  t2 := Tryd.underlying2
  a2 := Tryd.isAgg2
  z2 := Tryd.sizeOf2
  v2 := Tryd.zeroValue2
  t3 := Tryd.underlying3
  a3 := Tryd.isAgg3
  z3 := Tryd.sizeOf3
  v3 := Tryd.zeroValue3
  t4 := Tryd.underlying4
  a4 := Tryd.isAgg4
  z4 := Tryd.sizeOf4
  v4 := Tryd.zeroValue4
  t5 := Tryd.underlying5
  a5 := Tryd.isAgg5
  z5 := Tryd.sizeOf5
  v5 := Tryd.zeroValue5
  t9 := Tryd.underlying9
  a9 := Tryd.isAgg9
  z9 := Tryd.sizeOf9
  v9 := Tryd.zeroValue9
  t20 := Tryd.underlying20
  a20 := Tryd.isAgg20
  z20 := Tryd.sizeOf20
  v20 := Tryd.zeroValue20
  t37 := Tryd.underlying70
  a37 := Tryd.isAgg70
  z37 := Tryd.sizeOf70
  v37 := Tryd.zeroValue70
  t46 := Tryd.underlying98
  a46 := Tryd.isAgg98
  z46 := Tryd.sizeOf98
  v46 := Tryd.zeroValue98
  t51 := Tryd.underlying112
  a51 := Tryd.isAgg112
  z51 := Tryd.sizeOf112
  v51 := Tryd.zeroValue112
  t53 := Tryd.underlying115
  a53 := Tryd.isAgg115
  z53 := Tryd.sizeOf115
  v53 := Tryd.zeroValue115
  t171 := Tryd.underlying118
  a171 := Tryd.isAgg118
  z171 := Tryd.sizeOf118
  v171 := Tryd.zeroValue118
  t173 := Tryd.underlying121
  a173 := Tryd.isAgg121
  z173 := Tryd.sizeOf121
  v173 := Tryd.zeroValue121
  t212 := Tryd.underlying126
  a212 := Tryd.isAgg126
  z212 := Tryd.sizeOf126
  v212 := Tryd.zeroValue126
  t213 := Tryd.underlying127
  a213 := Tryd.isAgg127
  z213 := Tryd.sizeOf127
  t232 := Tryd.underlying130
  a232 := Tryd.isAgg130
  z232 := Tryd.sizeOf130
  v232 := Tryd.zeroValue130
  t233 := Tryd.underlying131
  a233 := Tryd.isAgg131
  z233 := Tryd.sizeOf131
  v233 := Tryd.zeroValue131
  g17 := by kernel_rfl
  g18 := by kernel_rfl
  g19 := by kernel_rfl }
open Go.RowKit Go.Sort Go.Lib in
/-- THE ROAD WITHOUT THE TABLE: 0 <= i < 100: two constants are read, nothing is laid: no premise on the world, and the world is as it was. (LAID: no walk: one application.) -/
theorem Tryd.internal_strconv_FormatInt_10_small (i : Nat) (hi : i < 100) (w : World) :
    Calls Tryd.prog 121 #[.int .i64 i, .int .i64 10] w fun e w' => e = .returned (.string ⟨(Lib.decDigits i).toArray⟩) ∧ w' = w := Any.internal_strconv_FormatInt_10_small Tryd.lays246 i hi w
def Tryd.laysM243_ren : Go.Shelf.Ren := ⟨fun | 243 => 110 | 246 => 121 | 283 => 126 | 284 => 127 | 285 => 128 | 286 => 129 | 129 => 132 | 317 => 131 | 318 => 133 | 319 => 134 | 320 => 135 | 337 => 136 | 338 => 137 | n => n, fun | 3 => 3 | 9 => 9 | 2 => 2 | 4 => 4 | 171 => 118 | 0 => 0 | 53 => 115 | 37 => 70 | 5 => 5 | 173 => 121 | 212 => 126 | 51 => 112 | 20 => 20 | 213 => 127 | 46 => 98 | 232 => 130 | 233 => 131 | n => n, fun | 17 => 0 | 18 => 2 | 19 => 3 | n => n⟩
theorem Tryd.laysM243 : Go.Proofs.LaysM.n243 Tryd.prog Tryd.laysM243_ren := {
  mixed := by kernel_rfl
  f129 := Tryd.func132.trans (congrArg some (by kernel_rfl))
  f243 := Tryd.func110.trans (congrArg some (by kernel_rfl))
  f246 := Tryd.func121.trans (congrArg some (by kernel_rfl))
  f283 := Tryd.func126.trans (congrArg some (by kernel_rfl))
  f284 := Tryd.func127.trans (congrArg some (by kernel_rfl))
  f285 := Tryd.func128.trans (congrArg some (by kernel_rfl))
  f286 := Tryd.func129.trans (congrArg some (by kernel_rfl))
  f317 := Tryd.func131.trans (congrArg some (by kernel_rfl))
  f318 := Tryd.func133.trans (congrArg some (by kernel_rfl))
  f319 := Tryd.func134.trans (congrArg some (by kernel_rfl))
  f320 := Tryd.func135.trans (congrArg some (by kernel_rfl))
  f337 := Tryd.func136.trans (congrArg some (by kernel_rfl))
  f338 := Tryd.func137.trans (congrArg some (by kernel_rfl))
  t0 := Tryd.underlying0
  a0 := Tryd.isAgg0
  z0 := Tryd.sizeOf0
  v0 := Tryd.zeroValue0
  t2 := Tryd.underlying2
  a2 := Tryd.isAgg2
  z2 := Tryd.sizeOf2
  v2 := Tryd.zeroValue2
  t3 := Tryd.underlying3
  a3 := Tryd.isAgg3
  z3 := Tryd.sizeOf3
  v3 := Tryd.zeroValue3
  t4 := Tryd.underlying4
  a4 := Tryd.isAgg4
  z4 := Tryd.sizeOf4
  v4 := Tryd.zeroValue4
  t5 := Tryd.underlying5
  a5 := Tryd.isAgg5
  z5 := Tryd.sizeOf5
  v5 := Tryd.zeroValue5
  t9 := Tryd.underlying9
  a9 := Tryd.isAgg9
  z9 := Tryd.sizeOf9
  v9 := Tryd.zeroValue9
  t20 := Tryd.underlying20
  a20 := Tryd.isAgg20
  z20 := Tryd.sizeOf20
  v20 := Tryd.zeroValue20
  t37 := Tryd.underlying70
  a37 := Tryd.isAgg70
  z37 := Tryd.sizeOf70
  v37 := Tryd.zeroValue70
  t46 := Tryd.underlying98
  a46 := Tryd.isAgg98
  z46 := Tryd.sizeOf98
  v46 := Tryd.zeroValue98
  t51 := Tryd.underlying112
  a51 := Tryd.isAgg112
  z51 := Tryd.sizeOf112
  v51 := Tryd.zeroValue112
  t53 := Tryd.underlying115
  a53 := Tryd.isAgg115
  z53 := Tryd.sizeOf115
  v53 := Tryd.zeroValue115
  t171 := Tryd.underlying118
  a171 := Tryd.isAgg118
  z171 := Tryd.sizeOf118
  v171 := Tryd.zeroValue118
  t173 := Tryd.underlying121
  a173 := Tryd.isAgg121
  z173 := Tryd.sizeOf121
  v173 := Tryd.zeroValue121
  t212 := Tryd.underlying126
  a212 := Tryd.isAgg126
  z212 := Tryd.sizeOf126
  v212 := Tryd.zeroValue126
  t213 := Tryd.underlying127
  a213 := Tryd.isAgg127
  z213 := Tryd.sizeOf127
  t232 := Tryd.underlying130
  a232 := Tryd.isAgg130
  z232 := Tryd.sizeOf130
  v232 := Tryd.zeroValue130
  t233 := Tryd.underlying131
  a233 := Tryd.isAgg131
  z233 := Tryd.sizeOf131
  v233 := Tryd.zeroValue131
  g17 := by kernel_rfl
  g18 := by kernel_rfl
  g19 := by kernel_rfl
  i0 := by kernel_rfl
  i2 := by kernel_rfl
  i3 := by kernel_rfl
  i4 := by kernel_rfl
  i5 := by kernel_rfl
  i9 := by kernel_rfl
  i20 := by kernel_rfl
  i37 := by kernel_rfl
  i46 := by kernel_rfl
  i51 := by kernel_rfl
  i53 := by kernel_rfl
  i171 := by kernel_rfl
  i173 := by kernel_rfl
  i212 := by kernel_rfl
  i232 := by kernel_rfl
  i233 := by kernel_rfl
  m17 := by kernel_rfl
  m18 := by kernel_rfl
  m19 := by kernel_rfl }
open Go.RowKit Go.Sort Go.Lib in
/-- internal/strconv.Itoa: "Itoa is equivalent to FormatInt(int64(i), 10).": i's decimal numeral, for every int. (LAID: no walk: one application.) -/
theorem Tryd.internal_strconv_Itoa (n : Int) (h0 : -9223372036854775808 ≤ n) (h1 : n ≤ 9223372036854775807) (w : World) (htab : Lib.TabIs Tryd.prog w "internal/strconv.uint64pow10" .u64 Lib.pow10Tab) :
    Calls Tryd.prog 110 #[.int .i64 n] w fun e w' => e = .returned (.string ⟨(Lib.itoa n).toArray⟩) ∧ ∃ k os, w' = grow (w.drewN k) os := Any.internal_strconv_Itoa Tryd.laysM243 n h0 h1 w htab
def Tryd.lays243_ren : Go.Shelf.Ren := ⟨fun | 243 => 110 | 246 => 121 | 283 => 126 | 284 => 127 | 285 => 128 | 286 => 129 | 129 => 132 | 317 => 131 | 318 => 133 | 319 => 134 | 320 => 135 | 337 => 136 | 338 => 137 | n => n, fun | 3 => 3 | 9 => 9 | 2 => 2 | 4 => 4 | 171 => 118 | 0 => 0 | 53 => 115 | 37 => 70 | 5 => 5 | 173 => 121 | 212 => 126 | 51 => 112 | 20 => 20 | 213 => 127 | 46 => 98 | 232 => 130 | 233 => 131 | n => n, fun | 17 => 0 | 18 => 2 | 19 => 3 | n => n⟩
theorem Tryd.lays243 : Go.Proofs.Lays.n243 Tryd.prog Tryd.lays243_ren := {
  mixed := by kernel_rfl
  f129 := Tryd.func132.trans (congrArg some (by kernel_rfl))
  f243 := Tryd.func110.trans (congrArg some (by kernel_rfl))
  f246 := Tryd.func121.trans (congrArg some (by kernel_rfl))
  f283 := Tryd.func126.trans (congrArg some (by kernel_rfl))
  f284 := Tryd.func127.trans (congrArg some (by kernel_rfl))
  f285 := Tryd.func128.trans (congrArg some (by kernel_rfl))
  f286 := Tryd.func129.trans (congrArg some (by kernel_rfl))
  f317 := Tryd.func131.trans (congrArg some (by kernel_rfl))
  f318 := Tryd.func133.trans (congrArg some (by kernel_rfl))
  f319 := Tryd.func134.trans (congrArg some (by kernel_rfl))
  f320 := Tryd.func135.trans (congrArg some (by kernel_rfl))
  f337 := Tryd.func136.trans (congrArg some (by kernel_rfl))
  f338 := Tryd.func137.trans (congrArg some (by kernel_rfl))
  t0 := Tryd.underlying0
  a0 := Tryd.isAgg0
  z0 := Tryd.sizeOf0
  v0 := Tryd.zeroValue0
  t2 := Tryd.underlying2
  a2 := Tryd.isAgg2
  z2 := Tryd.sizeOf2
  v2 := Tryd.zeroValue2
  t3 := Tryd.underlying3
  a3 := Tryd.isAgg3
  z3 := Tryd.sizeOf3
  v3 := Tryd.zeroValue3
  t4 := Tryd.underlying4
  a4 := Tryd.isAgg4
  z4 := Tryd.sizeOf4
  v4 := Tryd.zeroValue4
  t5 := Tryd.underlying5
  a5 := Tryd.isAgg5
  z5 := Tryd.sizeOf5
  v5 := Tryd.zeroValue5
  t9 := Tryd.underlying9
  a9 := Tryd.isAgg9
  z9 := Tryd.sizeOf9
  v9 := Tryd.zeroValue9
  t20 := Tryd.underlying20
  a20 := Tryd.isAgg20
  z20 := Tryd.sizeOf20
  v20 := Tryd.zeroValue20
  t37 := Tryd.underlying70
  a37 := Tryd.isAgg70
  z37 := Tryd.sizeOf70
  v37 := Tryd.zeroValue70
  t46 := Tryd.underlying98
  a46 := Tryd.isAgg98
  z46 := Tryd.sizeOf98
  v46 := Tryd.zeroValue98
  t51 := Tryd.underlying112
  a51 := Tryd.isAgg112
  z51 := Tryd.sizeOf112
  v51 := Tryd.zeroValue112
  t53 := Tryd.underlying115
  a53 := Tryd.isAgg115
  z53 := Tryd.sizeOf115
  v53 := Tryd.zeroValue115
  t171 := Tryd.underlying118
  a171 := Tryd.isAgg118
  z171 := Tryd.sizeOf118
  v171 := Tryd.zeroValue118
  t173 := Tryd.underlying121
  a173 := Tryd.isAgg121
  z173 := Tryd.sizeOf121
  v173 := Tryd.zeroValue121
  t212 := Tryd.underlying126
  a212 := Tryd.isAgg126
  z212 := Tryd.sizeOf126
  v212 := Tryd.zeroValue126
  t213 := Tryd.underlying127
  a213 := Tryd.isAgg127
  z213 := Tryd.sizeOf127
  t232 := Tryd.underlying130
  a232 := Tryd.isAgg130
  z232 := Tryd.sizeOf130
  v232 := Tryd.zeroValue130
  t233 := Tryd.underlying131
  a233 := Tryd.isAgg131
  z233 := Tryd.sizeOf131
  v233 := Tryd.zeroValue131
  g17 := by kernel_rfl
  g18 := by kernel_rfl
  g19 := by kernel_rfl }
open Go.RowKit Go.Sort Go.Lib in
/-- THE ROAD WITHOUT THE TABLE: 0 <= i < 100. (LAID: no walk: one application.) -/
theorem Tryd.internal_strconv_Itoa_small (i : Nat) (hi : i < 100) (w : World) :
    Calls Tryd.prog 110 #[.int .i64 i] w fun e w' => e = .returned (.string ⟨(Lib.decDigits i).toArray⟩) ∧ w' = w := Any.internal_strconv_Itoa_small Tryd.lays243 i hi w
def Tryd.laysM171_ren : Go.Shelf.Ren := ⟨fun | 171 => 85 | 243 => 110 | 246 => 121 | 283 => 126 | 284 => 127 | 285 => 128 | 286 => 129 | 129 => 132 | 317 => 131 | 318 => 133 | 319 => 134 | 320 => 135 | 337 => 136 | 338 => 137 | n => n, fun | 3 => 3 | 9 => 9 | 2 => 2 | 4 => 4 | 171 => 118 | 0 => 0 | 53 => 115 | 37 => 70 | 5 => 5 | 173 => 121 | 212 => 126 | 51 => 112 | 20 => 20 | 213 => 127 | 46 => 98 | 232 => 130 | 233 => 131 | n => n, fun | 17 => 0 | 18 => 2 | 19 => 3 | n => n⟩
theorem Tryd.laysM171 : Go.Proofs.LaysM.n171 Tryd.prog Tryd.laysM171_ren := {
  mixed := by kernel_rfl
  f129 := Tryd.func132.trans (congrArg some (by kernel_rfl))
  f171 := Tryd.func85.trans (congrArg some (by kernel_rfl))
  f243 := Tryd.func110.trans (congrArg some (by kernel_rfl))
  f246 := Tryd.func121.trans (congrArg some (by kernel_rfl))
  f283 := Tryd.func126.trans (congrArg some (by kernel_rfl))
  f284 := Tryd.func127.trans (congrArg some (by kernel_rfl))
  f285 := Tryd.func128.trans (congrArg some (by kernel_rfl))
  f286 := Tryd.func129.trans (congrArg some (by kernel_rfl))
  f317 := Tryd.func131.trans (congrArg some (by kernel_rfl))
  f318 := Tryd.func133.trans (congrArg some (by kernel_rfl))
  f319 := Tryd.func134.trans (congrArg some (by kernel_rfl))
  f320 := Tryd.func135.trans (congrArg some (by kernel_rfl))
  f337 := Tryd.func136.trans (congrArg some (by kernel_rfl))
  f338 := Tryd.func137.trans (congrArg some (by kernel_rfl))
  t0 := Tryd.underlying0
  a0 := Tryd.isAgg0
  z0 := Tryd.sizeOf0
  v0 := Tryd.zeroValue0
  t2 := Tryd.underlying2
  a2 := Tryd.isAgg2
  z2 := Tryd.sizeOf2
  v2 := Tryd.zeroValue2
  t3 := Tryd.underlying3
  a3 := Tryd.isAgg3
  z3 := Tryd.sizeOf3
  v3 := Tryd.zeroValue3
  t4 := Tryd.underlying4
  a4 := Tryd.isAgg4
  z4 := Tryd.sizeOf4
  v4 := Tryd.zeroValue4
  t5 := Tryd.underlying5
  a5 := Tryd.isAgg5
  z5 := Tryd.sizeOf5
  v5 := Tryd.zeroValue5
  t9 := Tryd.underlying9
  a9 := Tryd.isAgg9
  z9 := Tryd.sizeOf9
  v9 := Tryd.zeroValue9
  t20 := Tryd.underlying20
  a20 := Tryd.isAgg20
  z20 := Tryd.sizeOf20
  v20 := Tryd.zeroValue20
  t37 := Tryd.underlying70
  a37 := Tryd.isAgg70
  z37 := Tryd.sizeOf70
  v37 := Tryd.zeroValue70
  t46 := Tryd.underlying98
  a46 := Tryd.isAgg98
  z46 := Tryd.sizeOf98
  v46 := Tryd.zeroValue98
  t51 := Tryd.underlying112
  a51 := Tryd.isAgg112
  z51 := Tryd.sizeOf112
  v51 := Tryd.zeroValue112
  t53 := Tryd.underlying115
  a53 := Tryd.isAgg115
  z53 := Tryd.sizeOf115
  v53 := Tryd.zeroValue115
  t171 := Tryd.underlying118
  a171 := Tryd.isAgg118
  z171 := Tryd.sizeOf118
  v171 := Tryd.zeroValue118
  t173 := Tryd.underlying121
  a173 := Tryd.isAgg121
  z173 := Tryd.sizeOf121
  v173 := Tryd.zeroValue121
  t212 := Tryd.underlying126
  a212 := Tryd.isAgg126
  z212 := Tryd.sizeOf126
  v212 := Tryd.zeroValue126
  t213 := Tryd.underlying127
  a213 := Tryd.isAgg127
  z213 := Tryd.sizeOf127
  t232 := Tryd.underlying130
  a232 := Tryd.isAgg130
  z232 := Tryd.sizeOf130
  v232 := Tryd.zeroValue130
  t233 := Tryd.underlying131
  a233 := Tryd.isAgg131
  z233 := Tryd.sizeOf131
  v233 := Tryd.zeroValue131
  g17 := by kernel_rfl
  g18 := by kernel_rfl
  g19 := by kernel_rfl
  i0 := by kernel_rfl
  i2 := by kernel_rfl
  i3 := by kernel_rfl
  i4 := by kernel_rfl
  i5 := by kernel_rfl
  i9 := by kernel_rfl
  i20 := by kernel_rfl
  i37 := by kernel_rfl
  i46 := by kernel_rfl
  i51 := by kernel_rfl
  i53 := by kernel_rfl
  i171 := by kernel_rfl
  i173 := by kernel_rfl
  i212 := by kernel_rfl
  i232 := by kernel_rfl
  i233 := by kernel_rfl
  m17 := by kernel_rfl
  m18 := by kernel_rfl
  m19 := by kernel_rfl }
open Go.RowKit Go.Sort Go.Lib in
/-- strconv.Itoa: "Itoa is equivalent to FormatInt(int64(i), 10).": i's DECIMAL NUMERAL ('Lib.itoa': a '-' where i is negative, then the digits), FOR EVERY int. The world behind the call: the world before it, new blocks behind the heap (the library's 'var a [24]byte'), draws. (LAID: no walk: one application.) -/
theorem Tryd.strconv_Itoa (n : Int) (h0 : -9223372036854775808 ≤ n) (h1 : n ≤ 9223372036854775807) (w : World) (htab : Lib.TabIs Tryd.prog w "internal/strconv.uint64pow10" .u64 Lib.pow10Tab) :
    Calls Tryd.prog 85 #[.int .i64 n] w fun e w' => e = .returned (.string ⟨(Lib.itoa n).toArray⟩) ∧ ∃ k os, w' = grow (w.drewN k) os := Any.strconv_Itoa Tryd.laysM171 n h0 h1 w htab
def Tryd.lays171_ren : Go.Shelf.Ren := ⟨fun | 171 => 85 | 243 => 110 | 246 => 121 | 283 => 126 | 284 => 127 | 285 => 128 | 286 => 129 | 129 => 132 | 317 => 131 | 318 => 133 | 319 => 134 | 320 => 135 | 337 => 136 | 338 => 137 | n => n, fun | 3 => 3 | 9 => 9 | 2 => 2 | 4 => 4 | 171 => 118 | 0 => 0 | 53 => 115 | 37 => 70 | 5 => 5 | 173 => 121 | 212 => 126 | 51 => 112 | 20 => 20 | 213 => 127 | 46 => 98 | 232 => 130 | 233 => 131 | n => n, fun | 17 => 0 | 18 => 2 | 19 => 3 | n => n⟩
theorem Tryd.lays171 : Go.Proofs.Lays.n171 Tryd.prog Tryd.lays171_ren := {
  mixed := by kernel_rfl
  f129 := Tryd.func132.trans (congrArg some (by kernel_rfl))
  f171 := Tryd.func85.trans (congrArg some (by kernel_rfl))
  f243 := Tryd.func110.trans (congrArg some (by kernel_rfl))
  f246 := Tryd.func121.trans (congrArg some (by kernel_rfl))
  f283 := Tryd.func126.trans (congrArg some (by kernel_rfl))
  f284 := Tryd.func127.trans (congrArg some (by kernel_rfl))
  f285 := Tryd.func128.trans (congrArg some (by kernel_rfl))
  f286 := Tryd.func129.trans (congrArg some (by kernel_rfl))
  f317 := Tryd.func131.trans (congrArg some (by kernel_rfl))
  f318 := Tryd.func133.trans (congrArg some (by kernel_rfl))
  f319 := Tryd.func134.trans (congrArg some (by kernel_rfl))
  f320 := Tryd.func135.trans (congrArg some (by kernel_rfl))
  f337 := Tryd.func136.trans (congrArg some (by kernel_rfl))
  f338 := Tryd.func137.trans (congrArg some (by kernel_rfl))
  t0 := Tryd.underlying0
  a0 := Tryd.isAgg0
  z0 := Tryd.sizeOf0
  v0 := Tryd.zeroValue0
  t2 := Tryd.underlying2
  a2 := Tryd.isAgg2
  z2 := Tryd.sizeOf2
  v2 := Tryd.zeroValue2
  t3 := Tryd.underlying3
  a3 := Tryd.isAgg3
  z3 := Tryd.sizeOf3
  v3 := Tryd.zeroValue3
  t4 := Tryd.underlying4
  a4 := Tryd.isAgg4
  z4 := Tryd.sizeOf4
  v4 := Tryd.zeroValue4
  t5 := Tryd.underlying5
  a5 := Tryd.isAgg5
  z5 := Tryd.sizeOf5
  v5 := Tryd.zeroValue5
  t9 := Tryd.underlying9
  a9 := Tryd.isAgg9
  z9 := Tryd.sizeOf9
  v9 := Tryd.zeroValue9
  t20 := Tryd.underlying20
  a20 := Tryd.isAgg20
  z20 := Tryd.sizeOf20
  v20 := Tryd.zeroValue20
  t37 := Tryd.underlying70
  a37 := Tryd.isAgg70
  z37 := Tryd.sizeOf70
  v37 := Tryd.zeroValue70
  t46 := Tryd.underlying98
  a46 := Tryd.isAgg98
  z46 := Tryd.sizeOf98
  v46 := Tryd.zeroValue98
  t51 := Tryd.underlying112
  a51 := Tryd.isAgg112
  z51 := Tryd.sizeOf112
  v51 := Tryd.zeroValue112
  t53 := Tryd.underlying115
  a53 := Tryd.isAgg115
  z53 := Tryd.sizeOf115
  v53 := Tryd.zeroValue115
  t171 := Tryd.underlying118
  a171 := Tryd.isAgg118
  z171 := Tryd.sizeOf118
  v171 := Tryd.zeroValue118
  t173 := Tryd.underlying121
  a173 := Tryd.isAgg121
  z173 := Tryd.sizeOf121
  v173 := Tryd.zeroValue121
  t212 := Tryd.underlying126
  a212 := Tryd.isAgg126
  z212 := Tryd.sizeOf126
  v212 := Tryd.zeroValue126
  t213 := Tryd.underlying127
  a213 := Tryd.isAgg127
  z213 := Tryd.sizeOf127
  t232 := Tryd.underlying130
  a232 := Tryd.isAgg130
  z232 := Tryd.sizeOf130
  v232 := Tryd.zeroValue130
  t233 := Tryd.underlying131
  a233 := Tryd.isAgg131
  z233 := Tryd.sizeOf131
  v233 := Tryd.zeroValue131
  g17 := by kernel_rfl
  g18 := by kernel_rfl
  g19 := by kernel_rfl }
open Go.RowKit Go.Sort Go.Lib in
/-- THE ROAD WITHOUT THE TABLE: 0 <= i < 100: NO PREMISE ON THE WORLD, AND THE WORLD IS AS IT WAS: a row that keeps its argument in that range need list no table ('laid = []'). (LAID: no walk: one application.) -/
theorem Tryd.strconv_Itoa_small (i : Nat) (hi : i < 100) (w : World) :
    Calls Tryd.prog 85 #[.int .i64 i] w fun e w' => e = .returned (.string ⟨(Lib.decDigits i).toArray⟩) ∧ w' = w := Any.strconv_Itoa_small Tryd.lays171 i hi w
def Tryd.lays206_ren : Go.Shelf.Ren := ⟨fun | 206 => 124 | n => n, fun | 9 => 9 | 4 => 4 | 3 => 3 | n => n, fun | n => n⟩
theorem Tryd.lays206 : Go.Proofs.Lays.n206 Tryd.prog Tryd.lays206_ren := {
  mixed := by kernel_rfl
  f206 := Tryd.func124.trans (congrArg some (by kernel_rfl))
  t3 := Tryd.underlying3
  a3 := Tryd.isAgg3
  z3 := Tryd.sizeOf3
  v3 := Tryd.zeroValue3
  t4 := Tryd.underlying4
  a4 := Tryd.isAgg4
  z4 := Tryd.sizeOf4
  v4 := Tryd.zeroValue4
  t9 := Tryd.underlying9
  a9 := Tryd.isAgg9
  z9 := Tryd.sizeOf9
  v9 := Tryd.zeroValue9 }
open Go.RowKit Go.Lib in
/-- internal/stringslite.HasPrefix (what strings.HasPrefix calls). (LAID: no walk: one application.) -/
theorem Tryd.stringslite_HasPrefix (s p : ByteArray) (w : World) :
    Calls Tryd.prog 124 #[.string s, .string p] w fun e w' => e = .returned (.bool (Lib.hasPrefix s.data.toList p.data.toList)) ∧ w' = w := Any.stringslite_HasPrefix Tryd.lays206 s p w
def Tryd.lays99_ren : Go.Shelf.Ren := ⟨fun | 99 => 112 | 206 => 124 | n => n, fun | 9 => 9 | 4 => 4 | 3 => 3 | n => n, fun | n => n⟩
theorem Tryd.lays99 : Go.Proofs.Lays.n99 Tryd.prog Tryd.lays99_ren := {
  mixed := by kernel_rfl
  f99 := Tryd.func112.trans (congrArg some (by kernel_rfl))
  f206 := Tryd.func124.trans (congrArg some (by kernel_rfl))
  t3 := Tryd.underlying3
  a3 := Tryd.isAgg3
  z3 := Tryd.sizeOf3
  v3 := Tryd.zeroValue3
  t4 := Tryd.underlying4
  a4 := Tryd.isAgg4
  z4 := Tryd.sizeOf4
  v4 := Tryd.zeroValue4
  t9 := Tryd.underlying9
  a9 := Tryd.isAgg9
  z9 := Tryd.sizeOf9
  v9 := Tryd.zeroValue9 }
open Go.RowKit Go.Lib in
/-- strings.HasPrefix: "HasPrefix reports whether the string s begins with prefix.": IT RETURNS 'Lib.hasPrefix s prefix'; the world is as it was. (LAID: no walk: one application.) -/
theorem Tryd.strings_HasPrefix (s p : ByteArray) (w : World) :
    Calls Tryd.prog 112 #[.string s, .string p] w fun e w' => e = .returned (.bool (Lib.hasPrefix s.data.toList p.data.toList)) ∧ w' = w := Any.strings_HasPrefix Tryd.lays99 s p w
def Tryd.lays264_ren : Go.Shelf.Ren := ⟨fun | 264 => 123 | n => n, fun | 53 => 115 | 46 => 98 | n => n, fun | n => n⟩
theorem Tryd.lays264 : Go.Proofs.Lays.n264 Tryd.prog Tryd.lays264_ren := {
  mixed := by kernel_rfl
  f264 := Tryd.func123.trans (congrArg some (by kernel_rfl))
  t46 := Tryd.underlying98
  a46 := Tryd.isAgg98
  z46 := Tryd.sizeOf98
  v46 := Tryd.zeroValue98
  t53 := Tryd.underlying115
  a53 := Tryd.isAgg115
  z53 := Tryd.sizeOf115
  v53 := Tryd.zeroValue115 }
open Go.RowKit Go.Lib in
theorem Tryd.bits_Mul64 (x y : Nat) (hx : x < 18446744073709551616) (hy : y < 18446744073709551616) (w : World) :
    Calls Tryd.prog 123 #[.int .u64 x, .int .u64 y] w fun e w' => e = .returned (.tuple #[.int .u64 ((x * y / 18446744073709551616 : Nat) : Int), .int .u64 ((x * y % 18446744073709551616 : Nat) : Int)]) ∧ w' = w := Any.bits_Mul64 Tryd.lays264 x y hx hy w
def Tryd.lays212_ren : Go.Shelf.Ren := ⟨fun | 212 => 111 | 263 => 122 | 264 => 123 | n => n, fun | 46 => 98 | 51 => 112 | 146 => 113 | 53 => 115 | 148 => 116 | n => n, fun | n => n⟩
theorem Tryd.lays212 : Go.Proofs.Lays.n212 Tryd.prog Tryd.lays212_ren := {
  mixed := by kernel_rfl
  f212 := Tryd.func111.trans (congrArg some (by kernel_rfl))
  f263 := Tryd.func122.trans (congrArg some (by kernel_rfl))
  f264 := Tryd.func123.trans (congrArg some (by kernel_rfl))
  t46 := Tryd.underlying98
  a46 := Tryd.isAgg98
  z46 := Tryd.sizeOf98
  v46 := Tryd.zeroValue98
  t51 := Tryd.underlying112
  a51 := Tryd.isAgg112
  z51 := Tryd.sizeOf112
  v51 := Tryd.zeroValue112
  t53 := Tryd.underlying115
  a53 := Tryd.isAgg115
  z53 := Tryd.sizeOf115
  v53 := Tryd.zeroValue115
  t146 := Tryd.underlying113
  a146 := Tryd.isAgg113
  z146 := Tryd.sizeOf113
  v146 := Tryd.zeroValue113
  t148 := Tryd.underlying116
  a148 := Tryd.isAgg116
  z148 := Tryd.sizeOf116
  v148 := Tryd.zeroValue116 }
open Go.RowKit Go.Lib in
/-- math/bits.Mul: "Mul returns the full-width product of x and y": on a machine of 64 bits: Mul64's. (LAID: no walk: one application.) -/
theorem Tryd.bits_Mul (x y : Nat) (hx : x < 18446744073709551616) (hy : y < 18446744073709551616) (w : World) :
    Calls Tryd.prog 111 #[.int .u64 x, .int .u64 y] w fun e w' => e = .returned (.tuple #[.int .u64 ((x * y / 18446744073709551616 : Nat) : Int), .int .u64 ((x * y % 18446744073709551616 : Nat) : Int)]) ∧ w' = w := Any.bits_Mul Tryd.lays212 x y hx hy w
def Tryd.lays105_ren : Go.Shelf.Ren := ⟨fun | 105 => 86 | 212 => 111 | 99 => 112 | 165 => 113 | 166 => 84 | 170 => 114 | 169 => 87 | 263 => 122 | 264 => 123 | 206 => 124 | 240 => 109 | 241 => 125 | 276 => 120 | 277 => 130 | n => n, fun | 9 => 9 | 3 => 3 | 4 => 4 | 20 => 20 | 0 => 0 | 46 => 98 | 109 => 99 | 5 => 5 | 72 => 72 | 76 => 75 | 51 => 112 | 146 => 113 | 53 => 115 | 148 => 116 | 70 => 69 | 37 => 70 | 75 => 74 | 127 => 104 | 164 => 109 | 80 => 79 | n => n, fun | n => n⟩
theorem Tryd.lays105 : Go.Proofs.Lays.n105 Tryd.prog Tryd.lays105_ren := {
  mixed := by kernel_rfl
  f99 := Tryd.func112.trans (congrArg some (by kernel_rfl))
  f105 := Tryd.func86.trans (congrArg some (by kernel_rfl))
  f165 := Tryd.func113.trans (congrArg some (by kernel_rfl))
  f166 := Tryd.func84.trans (congrArg some (by kernel_rfl))
  f169 := Tryd.func87.trans (congrArg some (by kernel_rfl))
  f170 := Tryd.func114.trans (congrArg some (by kernel_rfl))
  f206 := Tryd.func124.trans (congrArg some (by kernel_rfl))
  f212 := Tryd.func111.trans (congrArg some (by kernel_rfl))
  f240 := Tryd.func109.trans (congrArg some (by kernel_rfl))
  f241 := Tryd.func125.trans (congrArg some (by kernel_rfl))
  f263 := Tryd.func122.trans (congrArg some (by kernel_rfl))
  f264 := Tryd.func123.trans (congrArg some (by kernel_rfl))
  f276 := Tryd.func120.trans (congrArg some (by kernel_rfl))
  f277 := Tryd.func130.trans (congrArg some (by kernel_rfl))
  t0 := Tryd.underlying0
  a0 := Tryd.isAgg0
  z0 := Tryd.sizeOf0
  v0 := Tryd.zeroValue0
  t3 := Tryd.underlying3
  a3 := Tryd.isAgg3
  z3 := Tryd.sizeOf3
  v3 := Tryd.zeroValue3
  t4 := Tryd.underlying4
  a4 := Tryd.isAgg4
  z4 := Tryd.sizeOf4
  v4 := Tryd.zeroValue4
  t5 := Tryd.underlying5
  a5 := Tryd.isAgg5
  z5 := Tryd.sizeOf5
  v5 := Tryd.zeroValue5
  t9 := Tryd.underlying9
  a9 := Tryd.isAgg9
  z9 := Tryd.sizeOf9
  v9 := Tryd.zeroValue9
  t20 := Tryd.underlying20
  a20 := Tryd.isAgg20
  z20 := Tryd.sizeOf20
  v20 := Tryd.zeroValue20
  t37 := Tryd.underlying70
  a37 := Tryd.isAgg70
  z37 := Tryd.sizeOf70
  v37 := Tryd.zeroValue70
  t46 := Tryd.underlying98
  a46 := Tryd.isAgg98
  z46 := Tryd.sizeOf98
  v46 := Tryd.zeroValue98
  t51 := Tryd.underlying112
  a51 := Tryd.isAgg112
  z51 := Tryd.sizeOf112
  v51 := Tryd.zeroValue112
  t53 := Tryd.underlying115
  a53 := Tryd.isAgg115
  z53 := Tryd.sizeOf115
  v53 := Tryd.zeroValue115
  t70 := Tryd.underlying69
  a70 := Tryd.isAgg69
  z70 := Tryd.sizeOf69
  v70 := Tryd.zeroValue69
  t72 := Tryd.underlying72
  a72 := Tryd.isAgg72
  z72 := Tryd.sizeOf72
  v72 := Tryd.zeroValue72
  t75 := Tryd.underlying74
  a75 := Tryd.isAgg74
  z75 := Tryd.sizeOf74
  v75 := Tryd.zeroValue74
  t76 := Tryd.underlying75
  a76 := Tryd.isAgg75
  z76 := Tryd.sizeOf75
  v76 := Tryd.zeroValue75
  t109 := Tryd.underlying99
  a109 := Tryd.isAgg99
  z109 := Tryd.sizeOf99
  v109 := Tryd.zeroValue99
  t127 := Tryd.underlying104
  a127 := Tryd.isAgg104
  z127 := Tryd.sizeOf104
  v127 := Tryd.zeroValue104
  t146 := Tryd.underlying113
  a146 := Tryd.isAgg113
  z146 := Tryd.sizeOf113
  v146 := Tryd.zeroValue113
  t148 := Tryd.underlying116
  a148 := Tryd.isAgg116
  z148 := Tryd.sizeOf116
  v148 := Tryd.zeroValue116
  t164 := Tryd.underlying109
  a164 := Tryd.isAgg109
  z164 := Tryd.sizeOf109
  v164 := Tryd.zeroValue109 }
theorem Tryd.Builder_Extra_105 : Builder.Extra Tryd.prog Tryd.lays105_ren := {
  sizeBuilder := by kernel_rfl
  liesBuilder := by kernel_rfl
  t5 := Tryd.underlying5
  a5 := Tryd.isAgg5
  z5 := Tryd.sizeOf5
  v5 := Tryd.zeroValue5
  infoByte := by kernel_rfl
  cellsByte := by kernel_rfl
  sizeByte := by kernel_rfl
  neB5 := by decide }
open Go.RowKit Go.Lib in
/-- THE MAIN CASE: at least two copies of a string that is not empty. (LAID: no walk: one application.) -/
theorem Tryd.strings_Repeat_main (s : ByteArray) (c : Nat) (w : World) (hc2 : 2 ≤ c) (hc : c ≤ 9223372036854775807) (hlen : s.size * c ≤ 140737488355328) (h0 : 0 < s.size) :
    Calls Tryd.prog 86 #[.string s, .int .i64 c] w fun e w' => e = .returned (.string ⟨(Lib.repeatL s.data.toList c).toArray⟩) ∧ Below w.heap.size w w' := Any.strings_Repeat_main Tryd.lays105 Tryd.Builder_Extra_105 s c w hc2 hc hlen h0
open Go.RowKit Go.Lib in
theorem Tryd.strings_Repeat_zero (s : ByteArray) (w : World) :
    Calls Tryd.prog 86 #[.string s, .int .i64 0] w fun e w' => e = .returned (.string ⟨#[]⟩) ∧ w' = w := Any.strings_Repeat_zero Tryd.lays105 s w
open Go.RowKit Go.Lib in
theorem Tryd.strings_Repeat_one (s : ByteArray) (w : World) :
    Calls Tryd.prog 86 #[.string s, .int .i64 1] w fun e w' => e = .returned (.string s) ∧ w' = w := Any.strings_Repeat_one Tryd.lays105 s w
open Go.RowKit Go.Lib in
/-- Copies of the empty string. (LAID: no walk: one application.) -/
theorem Tryd.strings_Repeat_empty (s : ByteArray) (c : Nat) (w : World) (hc2 : 2 ≤ c) (hc : c ≤ 9223372036854775807) (h0 : s.size = 0) :
    Calls Tryd.prog 86 #[.string s, .int .i64 c] w fun e w' => e = .returned (.string ⟨#[]⟩) ∧ w' = w := Any.strings_Repeat_empty Tryd.lays105 s c w hc2 hc h0
open Go.RowKit Go.Lib in
/-- count < 0: "It panics if count is negative". (LAID: no walk: one application.) -/
theorem Tryd.strings_Repeat_negative (s : ByteArray) (c : Int) (w : World) (hc : c < 0) :
    Calls Tryd.prog 86 #[.string s, .int .i64 c] w fun e w' => e = .panicked [{ v := repeatPanic Tryd.lays105_ren "strings: negative Repeat count", recovered := false }] ∧ w' = w := Any.strings_Repeat_negative Tryd.lays105 s c w hc
open Go.RowKit Go.Lib in
/-- len(s) * count is no int: ".. or if the result of (len(s) * count) overflows". (LAID: no walk: one application.) -/
theorem Tryd.strings_Repeat_overflow (s : ByteArray) (c : Nat) (w : World) (hc : c ≤ 9223372036854775807) (hs : s.size ≤ 9223372036854775807) (hbig : 9223372036854775807 < s.size * c) :
    Calls Tryd.prog 86 #[.string s, .int .i64 c] w fun e w' => e = .panicked [{ v := repeatPanic Tryd.lays105_ren "strings: Repeat output length overflow", recovered := false }] ∧ w' = w := Any.strings_Repeat_overflow Tryd.lays105 s c w hc hs hbig
open Go.RowKit Go.Lib in
/-- **strings.Repeat: count ≥ 0, the result within one allocation: count copies of s.** (LAID: no walk: one application.) -/
theorem Tryd.strings_Repeat (s : ByteArray) (c : Nat) (w : World) (hc : c ≤ 9223372036854775807) (hlen : s.size * c ≤ 140737488355328) :
    Calls Tryd.prog 86 #[.string s, .int .i64 c] w fun e w' => e = .returned (.string ⟨(Lib.repeatL s.data.toList c).toArray⟩) ∧ Below w.heap.size w w' := Any.strings_Repeat Tryd.lays105 Tryd.Builder_Extra_105 s c w hc hlen
end Go.Proofs
namespace Go.Proofs.YtalklhbdpmggjaaDoor.Pw
open Go.RowKit hiding wrap64
open Go Wd Px Mat
set_option linter.unusedVariables false
set_option linter.unusedSimpArgs false
def bytes (l : List UInt8) : PV := .v (.string ⟨l.toArray⟩)
theorem slice_cells {F : Nat → Prop} {W : World} {l : List Int} {v : Value} (h : RepP F W (N l) v) (hl : l ≠ []) : ∃ B o cap, v = .slice (some ⟨B, o, none⟩) l.length cap ∧ B < W.heap.size ∧ ∀ (j : Nat) (hj : j < l.length), W.cell? ⟨B, o + j, none⟩ = some (.int .i64 l[j]) := by
  obtain ⟨a, cap, rfl, hcap, hh⟩ := h.lst_inv
  rcases hh with ⟨h0, _⟩ | ⟨B, o, rfl, hB, hM, g, h1, h2, h3⟩
  · exact absurd (List.eq_nil_of_length_eq_zero (by simpa using h0)) hl
  · refine ⟨B, o, cap, rfl, hB, fun j hj => ?_⟩
    have h4 := h1 j (by simpa using hj)
    have h5 := h3 j (I l[j]) (by simp [hj])
    have h6 : g j = .int .i64 l[j] := by generalize g j = y at h5; cases h5; rfl
    rw [h4, h6]
theorem Lib.BuilderAt.below' {T e : TypeId} {B b : Nat} {p : Value} {bs : List Value} {W W' : World} (h : Lib.BuilderAt T e B b p bs W) (hb : Below W.heap.size W W') : Lib.BuilderAt T e B b p bs W' := by
  have hlt := h.lt
  obtain ⟨hB, v, hv, hown, hne⟩ := h
  exact ⟨hB, v, (hb.block b hlt).trans hv, hown.kept (row := none) ⟨hb.os, hb.tape, hb.output, hb.size, fun k hk _ => hb.block k hk⟩ (Classical.em _), hne⟩
theorem RepP.pair {M : Nat → Prop} {W : World} {a b : PV} {x y : Value} (h : RepP M W a x) (k : RepP M W b y) : RepP M W (.tup [a, b]) (.tuple #[x, y]) :=
  .tup [a, b] [x, y] rfl fun j a' v' ha hv => by
    match j with
    | 0 => cases ha; cases hv; exact h
    | 1 => cases ha; cases hv; exact k
    | j + 2 => simp at ha
theorem dig_len (d : Nat) (h : d < 100) : (Lib.decDigits d).length ≤ 2 := by
  rw [Lib.decDigits]; split
  · simp
  · rw [Lib.decDigits, dif_pos (by omega)]; simp
theorem ok_one : ∀ (d : Nat), 0 < d → d < 100 → okN [(d : Int)] = true := by
  have h : ∀ d < 100, 0 < d → okN [((d : Nat) : Int)] = true := by decide
  exact fun d h0 h1 => h d h1 h0
theorem dig3 : Lib.decDigits 3 = [51] := by rw [Lib.decDigits]; rfl
theorem dig21 : Lib.decDigits 21 = [50, 49] := by rw [Lib.decDigits]; simp; rw [Lib.decDigits]; rfl
theorem rep7 : Lib.repeatL [48] 7 = [48, 48, 48, 48, 48, 48, 48] := by rfl
set_option maxHeartbeats 4000000 in
set_option maxRecDepth 100000 in
theorem text_two : Sound Tryd.prog 30 [N [21, 3]] (.tup [bytes [51, 48, 48, 48, 48, 48, 48, 48, 50, 49], I 0]) := by
  refine ⟨Entered.of Tryd.func30 rfl rfl, fun F W vs hF hG hl hv => ?_⟩
  obtain ⟨v, rfl⟩ : ∃ v, vs = [v] := by
    match vs, hl with
    | [v], _ => exact ⟨v, rfl⟩
  have hr := hv 0 (N [21, 3]) v rfl rfl
  obtain ⟨Bk, o, cap, rfl, hB, hc⟩ := slice_cells hr (by simp)
  have k0 : W.cell? ⟨Bk, o, none⟩ = some (.int .i64 21) := hc 0 (by simp)
  have k1 : W.cell? ⟨Bk, o + 1, none⟩ = some (.int .i64 3) := hc 1 (by simp)
  have cV := (nat_Valid.c [21, 3]).2 F W [.slice (some ⟨Bk, o, none⟩) 2 cap] hF hG rfl hv
  rw [show okN [21, 3] = true by decide] at cV
  go_enter Tryd.func30, Tryd.ntmps30
  go_wp2_with (go_at_call 29; refine cV.mono ?_)
  rintro e w1 ⟨u, rfl, hu, hb1⟩
  obtain rfl : u = .bool true := by cases hu; rfl
  have a0 : w1.cell? ⟨Bk, o, none⟩ = some (.int .i64 21) := (hb1.cell (p := ⟨Bk, o, none⟩) hB).trans k0
  have a1 : w1.cell? ⟨Bk, o + 1, none⟩ = some (.int .i64 3) := (hb1.cell (p := ⟨Bk, o + 1, none⟩) hB).trans k1
  have g1 : (w1.alloc (Obj.cells #[.pointer none, .slice none 0 0] 72)).cell? ⟨Bk, o + 1, none⟩ = some (.int .i64 3) := by
    rw [Below.cell (p := ⟨Bk, o + 1, none⟩) ((hb1.alloc (by have := hb1.size; omega) _)) hB]; exact k1
  go_wp2_with (go_at_call 85; refine (Tryd.strconv_Itoa_small 3 (by decide) _).mono ?_)
  rw [dig3]
  rintro e w2 ⟨rfl, rfl⟩
  have hb2 := hb1.alloc (by have := hb1.size; omega) (Obj.cells #[.pointer none, .slice none 0 0] 72)
  generalize hw2 : w1.alloc (Obj.cells #[.pointer none, .slice none 0 0] 72) = w2 at *
  have hB2 : Lib.IsBuilder 72 5 W.heap.size w1.heap.size [] w2 := by
    refine .inl ⟨hb1.size, .slice none 0 0, ?_, ?_, by simp [Value.ownBlock]⟩
    · rw [← hw2]
      exact Array.getElem?_push_size
    · exact ⟨rfl, .inl ⟨rfl, rfl⟩⟩
  go_wp2_with (go_at_call 84; refine (Sb.writeString W.heap.size w1.heap.size [] _ _ hB2 (by decide) hb2.size).mono ?_)
  rintro e w3 ⟨rfl, hB3, hb3⟩
  have z0 : w3.cell? ⟨Bk, o, none⟩ = some (.int .i64 21) := (hb3.cell (p := ⟨Bk, o, none⟩) hB).trans ((hb2.cell (p := ⟨Bk, o, none⟩) hB).trans k0)
  go_wp2_with (refine LW.wp (LW.unroll ?_))
  go_wp2_with (go_at_call 85; refine (Tryd.strconv_Itoa_small 21 (by decide) _).mono ?_)
  rw [dig21]
  rintro e w3 ⟨rfl, rfl⟩
  go_wp2_with (go_at_call 86; refine (Tryd.strings_Repeat_main ⟨#[48]⟩ 7 _ (by decide) (by decide) (by decide) (by decide)).mono ?_)
  rw [rep7]
  rintro e w4 rfl hb4
  have hB4 := Lib.BuilderAt.below' hB3 hb4
  have hbW3 : Below W.heap.size W w3 := hb2.trans hb3
  have hbW4 : Below W.heap.size W w4 := hbW3.trans (hb4.mono hbW3.size)
  go_wp2_with (go_at_call 84; refine (Sb.writeString W.heap.size w1.heap.size _ _ _ (.inr hB4) (by decide) hbW4.size).mono ?_)
  rintro e w5 ⟨rfl, hB5, hb5⟩
  go_wp2_with (go_at_call 84; refine (Sb.writeString W.heap.size w1.heap.size _ _ _ (.inr hB5) (by decide) (Nat.le_trans hbW4.size hb5.size)).mono ?_)
  rintro e w6 ⟨rfl, hB6, hb6⟩
  have hbW6 : Below W.heap.size W w6 := (hbW4.trans hb5).trans hb6
  go_wp2_with (refine LW.unroll ?_)
  go_wp2_with (go_at_call 87; refine (Tryd.Builder_String_any W.heap.size w1.heap.size [51, 48, 48, 48, 48, 48, 48, 48, 50, 49] _ (.inr hB6) hbW6.size).mono ?_)
  rintro e w7 ⟨rfl, hb7⟩
  go_wp2
  go_ret2
  exact ⟨_, rfl, RepP.pair (RepP.v _ rfl) (RepP.v _ rfl), hbW6.trans (hb7.mono (Nat.le_refl _))⟩
set_option maxHeartbeats 4000000 in
set_option maxRecDepth 100000 in
theorem text_one (d : Nat) (h0 : 0 < d) (hd : d < 100) : Sound Tryd.prog 30 [N [(d : Int)]] (.tup [bytes (Lib.decDigits d), I 0]) := by
  refine ⟨Entered.of Tryd.func30 rfl rfl, fun F W vs hF hG hl hv => ?_⟩
  obtain ⟨v, rfl⟩ : ∃ v, vs = [v] := by
    match vs, hl with
    | [v], _ => exact ⟨v, rfl⟩
  have hr := hv 0 (N [(d : Int)]) v rfl rfl
  obtain ⟨Bk, o, cap, rfl, hB, hc⟩ := slice_cells hr (by simp)
  have k0 : W.cell? ⟨Bk, o, none⟩ = some (.int .i64 (d : Int)) := hc 0 (by simp)
  have cV := (nat_Valid.c [(d : Int)]).2 F W [.slice (some ⟨Bk, o, none⟩) 1 cap] hF hG rfl hv
  rw [show okN [(d : Int)] = true from ok_one d h0 hd] at cV
  go_enter Tryd.func30, Tryd.ntmps30
  go_wp2_with (go_at_call 29; refine cV.mono ?_)
  rintro e w1 ⟨u, rfl, hu, hb1⟩
  obtain rfl : u = .bool true := by cases hu; rfl
  have g1 : (w1.alloc (Obj.cells #[.pointer none, .slice none 0 0] 72)).cell? ⟨Bk, o, none⟩ = some (.int .i64 (d : Int)) := by
    rw [Below.cell (p := ⟨Bk, o, none⟩) ((hb1.alloc (by have := hb1.size; omega) _)) hB]; exact k0
  go_wp2_with (go_at_call 85; refine (Tryd.strconv_Itoa_small d hd _).mono ?_)
  rintro e w2 ⟨rfl, rfl⟩
  have hb2 := hb1.alloc (by have := hb1.size; omega) (Obj.cells #[.pointer none, .slice none 0 0] 72)
  generalize hw2 : w1.alloc (Obj.cells #[.pointer none, .slice none 0 0] 72) = w2 at *
  have hB2 : Lib.IsBuilder 72 5 W.heap.size w1.heap.size [] w2 := by
    refine .inl ⟨hb1.size, .slice none 0 0, ?_, ?_, by simp [Value.ownBlock]⟩
    · rw [← hw2]
      exact Array.getElem?_push_size
    · exact ⟨rfl, .inl ⟨rfl, rfl⟩⟩
  have hlen : ([] : List Value).length + (ByteArray.mk (Lib.decDigits d).toArray).size ≤ 140737488355328 := by
    have := dig_len d hd
    simp only [List.length_nil, ByteArray.size, List.size_toArray]
    omega
  go_wp2_with (go_at_call 84; refine (Sb.writeString W.heap.size w1.heap.size [] _ _ hB2 hlen hb2.size).mono ?_)
  rintro e w3 ⟨rfl, hB3, hb3⟩
  have hB3' : Lib.BuilderAt 72 5 W.heap.size w1.heap.size (.pointer (some ⟨w1.heap.size, 0, none⟩)) (Lib.byteCells (Lib.decDigits d)) w3 := by
    simpa [Lib.strCells, Lib.byteCells] using hB3
  go_wp2_with (refine LW.wp (LW.unroll ?_))
  go_wp2_with (go_at_call 87; refine (Tryd.Builder_String_any W.heap.size w1.heap.size (Lib.decDigits d) _ (.inr hB3') (hb2.trans hb3).size).mono ?_)
  rintro e w7 ⟨rfl, hb7⟩
  go_wp2
  go_ret2
  exact ⟨_, rfl, RepP.pair (RepP.v _ rfl) (RepP.v _ rfl), (hb2.trans hb3).trans hb7⟩
end Go.Proofs.YtalklhbdpmggjaaDoor.Pw
namespace Go.Proofs.YtalklhbdpmggjaaDoor.Pw
open Go Go.RowKit
set_option maxHeartbeats 4000000
/-- Less than, so that the kernel sees it at lengths that are not told. -/
def ltI : Int → Int → Bool
  | .ofNat a, .ofNat b => Nat.ble (a + 1) b
  | .negSucc _, .ofNat _ => true
  | .ofNat _, .negSucc _ => false
  | .negSucc a, .negSucc b => Nat.ble (b + 1) a
theorem ltI_eq (a b : Int) : ltI a b = decide (a < b) := by
  rw [Bool.eq_iff_iff, decide_eq_true_eq]
  cases a <;> cases b <;> simp only [ltI, Nat.ble_eq, Int.ofNat_eq_natCast, Int.negSucc_eq, Bool.false_eq_true, true_iff, false_iff] <;> omega
theorem leI_eq (a b : Int) : (!ltI b a) = decide (a ≤ b) := by rw [ltI_eq, Bool.eq_iff_iff]; simp
def binB (op : BinOp) (k : IntKind) (a b : Int) : Option (Value × Bool) :=
  match op with
  | .add => some (.int k (k.wrap (a + b)), true)
  | .sub => some (.int k (k.wrap (a - b)), true)
  | .mul => some (.int k (k.wrap (a * b)), true)
  | .quo => some (.int k (k.wrap (a.tdiv b)), decide (b ≠ 0))
  | .rem => some (.int k (a.tmod b), decide (b ≠ 0))
  | .eql => some (.bool (decide (a = b)), true)
  | .neq => some (.bool (!decide (a = b)), true)
  | .lss => some (.bool (ltI a b), true)
  | .leq => some (.bool (!ltI b a), true)
  | .gtr => some (.bool (ltI b a), true)
  | .geq => some (.bool (!ltI a b), true)
  | _ => none
theorem ba_loop (a : ByteArray) : ∀ (k i : Nat) (r : List UInt8), a.size - i = k → ByteArray.toList.loop a i r = r.reverse ++ a.data.toList.drop i
  | 0, i, r, h => by
    rw [ByteArray.toList.loop, if_neg (by omega)]
    have : a.data.toList.length ≤ i := by
      have : a.data.toList.length = a.size := rfl
      omega
    rw [List.drop_eq_nil_of_le this, List.append_nil]
  | k + 1, i, r, h => by
    have hi : i < a.data.toList.length := by
      have : a.data.toList.length = a.size := rfl
      omega
    rw [ByteArray.toList.loop, if_pos (by omega), ba_loop a k (i + 1) _ (by omega), List.drop_eq_getElem_cons hi]
    have hg : a.get! i = a.data.toList[i] := by
      cases a with | mk d =>
      simp [ByteArray.get!]
      exact getElem!_pos d i (by simpa using hi)
    rw [hg, List.reverse_cons, List.append_assoc]
    rfl
theorem ba_toList (a : ByteArray) : a.toList = a.data.toList := by
  rw [ByteArray.toList, ba_loop a _ 0 [] rfl]; rfl
def strB (op : BinOp) (a b : ByteArray) : Option (Value × Bool) :=
  match op with
  | .add => some (.string (a ++ b), decide (((a.size + b.size : Nat) : Int) ≤ 9223372036854775807))
  | .eql => some (.bool (a.data.toList == b.data.toList), true)
  | .neq => some (.bool (!(a.data.toList == b.data.toList)), true)
  | _ => none
def pure1B (x : AV) : Option (Eff × Bool) := some (⟨x, [], []⟩, true)
def sliceB (zs : Nat) (x : AV) (lo hi : Option AV) : Option (Eff × Bool) :=
  match (match hi with | none => (lenA x) | some h => (ints h).map (fun q => q.2) : Option Int) with
  | none => none
  | some h =>
    match lo, x with
    | none, .sl b o n k => if k == zs then some (⟨.sl b o h.toNat k, [], []⟩, decide (0 ≤ h ∧ h ≤ n)) else none
    | some l, .sl b o n k => if k == zs then (ints l).bind fun l => some (⟨.sl b (o + l.2.toNat * k) (h - l.2).toNat k, [], []⟩, decide (0 ≤ l.2 ∧ l.2 < h ∧ h ≤ n)) else none
    | none, .p (.lst n cs) => some (⟨.p (.lst h.toNat (cs.take (h.toNat * zs))), [], []⟩, decide (0 ≤ h ∧ h ≤ n))
    | some l, .p (.lst n cs) => (ints l).bind fun l => some (⟨.p (.lst (h - l.2).toNat ((cs.drop (l.2.toNat * zs)).take ((h - l.2).toNat * zs))), [], []⟩, decide (0 ≤ l.2 ∧ l.2 ≤ h ∧ h ≤ n))
    | _, _ => none
def sliceSB (x : AV) (lo hi : Option AV) : Option (Eff × Bool) :=
  match x, lo, hi with
  | .p (.v (.string s)), some l, some h => (ints l).bind fun l => (ints h).bind fun h => some (⟨.p (.v (.string (s.extract l.2.toNat h.2.toNat))), [], []⟩, decide (0 ≤ l.2 ∧ l.2 ≤ h.2 ∧ h.2 ≤ s.size))
  | _, _, _ => none
def popB (T : Tab) (op : Op) (ρ : Operand → AV) (σ : Store) (new : Nat) : Option (Eff × Bool) :=
  match op with
  | .move x | .assign x => pure1B (ρ x)
  | .pick c a b =>
    match ρ c with
    | .p (.v (.bool t)) =>
      match ρ a, ρ b with
      | .p (.v (.bool x)), .p (.v (.bool y)) => pure1B (.p (.v (.bool (bif t then x else y))))
      | x, y => pure1B (bif t then x else y)
    | _ => none
  | .alloc e => (T e).bind fun y => some (⟨.own new 0, [(new, some (.pc e (y.zero.map .v)))], []⟩, true)
  | .box e x => if (ρ x).solid then some (⟨.own new 0, [(new, some (.mk e (ρ x).cells))], []⟩, true) else none
  | .build t parts => (T t).bind fun y => if y.agg && y.elem.isNone && !y.fields.isEmpty then
      (fillA (fun i => y.fields[i]?) (y.zero.map fun z => .p (.v z)) (parts.toList.map fun x => (x.1, ρ x.2))).bind fun cs => pure1B (cells1 cs) else none
  | .buildSlice t n parts => (T t).bind fun y => y.elem.bind fun e => (T e).bind fun z => if Nat.ble (n * z.size) 16777216 && Nat.ble n 16777216 && !(z.size == 0) then
      (fillA (fun i => some (i * z.size, z.size)) ((rep n (z.zero.map .v)).map .p) (parts.toList.map fun x => (x.1, ρ x.2))).bind fun cs => some (⟨.sl new 0 n z.size, [(new, some (.mk e cs))], []⟩, true) else none
  | .load t a => (T t).bind fun y => if y.size == 0 then none else
    match ρ a with
    | .own b o => (σ b).bind fun k => some (⟨cellsTo y.agg y.size o k, [], [b]⟩, decide (o + y.size ≤ k.cells.length ∧ (y.agg = false → y.size = 1)))
    | .p (.pt cs o) => some (⟨cellsTo y.agg y.size o (.pc 0 cs), [], []⟩, decide (o + y.size ≤ cs.length ∧ (y.agg = false → y.size = 1)))
    | _ => none
  | .store t a x => (T t).bind fun y => if (ρ x).solid && (ρ x).cells.length == y.size then
    match ρ a with
    | .own b o => (σ b).bind fun k => some (⟨.any, [(b, some (putIn o (ρ x).cells k))], [b]⟩, decide (o + y.size ≤ k.cells.length))
    | _ => none else none
  | .nilCheck x => match ρ x with | .own b o => pure1B (.own b o) | .p (.pt cs o) => pure1B (.p (.pt cs o)) | .fn f c => pure1B (.fn f c) | _ => none
  | .binOp op t x y _ =>
    match ρ x, ρ y with
    | .p (.v (.int k a)), .p (.v (.int k' b)) => if k = k' then (binB op k a b).bind fun r => some (⟨.p (.v r.1), [], []⟩, r.2) else none
    | .p (.v (.bool a)), .p (.v (.bool b)) => (T t).bind fun z => if z.bool then match op with | .eql => pure1B (.p (.v (.bool (a == b)))) | .neq => pure1B (.p (.v (.bool (!(a == b))))) | _ => none else none
    | .p (.v (.string a)), .p (.v (.string b)) => (strB op a b).bind fun r => some (⟨.p (.v r.1), [], []⟩, r.2)
    | _, _ => none
  | .unOp op _ x =>
    match op, ρ x with
    | .neg, .p (.v (.int k n)) => pure1B (.p (.v (.int k (k.wrap (0 - n)))))
    | .not, .p (.v (.bool b)) => pure1B (.p (.v (.bool !b)))
    | _, _ => none
  | .convert src dst x => (T src).bind fun y => (T dst).bind fun z =>
    match z.int, ρ x with
    | some k, .p (.v (.int _ n)) => pure1B (.p (.v (.int k (k.wrap n))))
    | _, _ => none
  | .makeFunc (.func f) first caps => if first.size == 0 then pure1B (.fn f (caps.toList.map ρ)) else none
  | .makeSlice t l c => (T t).bind fun y => y.elem.bind fun e => (T e).bind fun z => if z.size == 0 then none else
    match ρ l, ρ c with
    | .p (.v (.int _ n)), .p (.v (.int _ m)) => some (⟨.sl new 0 n.toNat z.size, [(new, some (.pc e (rep n.toNat (z.zero.map .v))))], []⟩, decide (n = m ∧ 0 ≤ n ∧ (z.bytes : Int) * n ≤ 281474976710656 ∧ n ≤ 9223372036854775807))
    | _, _ => none
  | .slice t x lo hi none => (T t).bind fun y => if y.str then sliceSB (ρ x) (lo.map ρ) (hi.map ρ) else y.elem.bind fun e => (T e).bind fun z => sliceB z.size (ρ x) (lo.map ρ) (hi.map ρ)
  | .fieldAddr s x f => (T s).bind fun y => (y.fields[f]?).bind fun f => if f.2 == 0 then none else
    match ρ x with
    | .own b o => pure1B (.own b (o + f.1))
    | .p (.pt cs o) => pure1B (.p (.pt cs (o + f.1)))
    | _ => none
  | .field s x f => (T s).bind fun y => (y.fields[f]?).bind fun q => (y.fagg[f]?).bind fun ag => if q.2 == 0 then none else
    match ρ x with
    | .p (.agg cs) => some (⟨cellsTo ag q.2 q.1 (.pc 0 cs), [], []⟩, decide (q.1 + q.2 ≤ cs.length ∧ (ag = false → q.2 = 1)))
    | .agg cs => some (⟨cellsTo ag q.2 q.1 (.mc 0 cs), [], []⟩, decide (q.1 + q.2 ≤ cs.length ∧ (ag = false → q.2 = 1)))
    | _ => none
  | .indexAddr t x i => (T t).bind fun y => y.elem.bind fun e => (T e).bind fun z => (ints (ρ i)).bind fun i =>
    match ρ x with
    | .p (.lst n cs) => some (⟨.p (.pt cs (i.2.toNat * z.size)), [], []⟩, decide (0 ≤ i.2 ∧ i.2 < n ∧ i.2.toNat * z.size < cs.length))
    | .sl b o n k => if k == z.size then some (⟨.own b (o + i.2.toNat * k), [], []⟩, decide (0 ≤ i.2 ∧ i.2 < n)) else none
    | _ => none
  | .index t x i => (T t).bind fun y => if y.str then (ints (ρ i)).bind fun i =>
    match ρ x with
    | .p (.v (.string s)) => some (⟨.p (.v (.int .u8 ((s.data.toList.getD i.2.toNat 0).toNat : Int))), [], []⟩, decide (0 ≤ i.2 ∧ i.2 < s.size))
    | _ => none else none
  | .extract t i =>
    match ρ t with
    | .p (.tup cs) => some (⟨.p (cs.getD i default), [], []⟩, decide (i < cs.length))
    | .tup cs => some (⟨cs.getD i .any, [], []⟩, decide (i < cs.length))
    | _ => none
  | .call { callee := .builtin .len, args, argTypes } => match args.toList, argTypes.toList with
    | [x], [t] => (T t).bind fun y => match y.elem, ρ x with
      | some _, .p (.lst n _) | some _, .sl _ _ n _ => pure1B (.p (.v (.int .i64 n)))
      | some _, .p (.v (.slice none 0 0)) => pure1B (.p (.v (.int .i64 0)))
      | none, .p (.v (.string s)) => if y.str then pure1B (.p (.v (.int .i64 s.size))) else none
      | _, _ => none
    | _, _ => none
  | .call { callee := .builtin .max, args, .. } => match args.toList with
    | [x, y] => (ints (ρ x)).bind fun a => (ints (ρ y)).bind fun b => pure1B (.p (.v (.int a.1 (if b.2 > a.2 then b.2 else a.2))))
    | _ => none
  | .call { callee := .builtin .min, args, .. } => match args.toList with
    | [x, y] => (ints (ρ x)).bind fun a => (ints (ρ y)).bind fun b => pure1B (.p (.v (.int a.1 (if b.2 < a.2 then b.2 else a.2))))
    | _ => none
  | .call { callee := .builtin .append, args, argTypes } => match args.toList, argTypes.toList with
    | [x, y], [t, t'] => if t == t' then (T t).bind fun u => u.elem.bind fun e => (T e).bind fun z => if z.size == 0 then none else
      (viewA σ (ρ y)).bind fun src =>
      match ρ x with
      | .p (.v (.slice none 0 0)) => some (⟨.sl new 0 src.1 z.size, [(new, some (joinB e (.pc e []) (sub src.2.1 (src.1 * z.size) src.2.2.1)))], src.2.2.2⟩, decide (src.2.1 + src.1 * z.size ≤ src.2.2.1.cells.length ∧ src.1 * z.bytes ≤ 140737488355328 ∧ src.1 ≤ 140737488351232))
      | .sl b 0 n k => if k == z.size && !(src.2.2.2.contains b) then (σ b).bind fun d => if d.el == e then some (⟨.sl new 0 (n + src.1) k, [(b, none), (new, some (joinB e d (sub src.2.1 (src.1 * z.size) src.2.2.1)))], b :: src.2.2.2⟩, decide (d.cells.length = n * k ∧ src.2.1 + src.1 * z.size ≤ src.2.2.1.cells.length ∧ (n + src.1) * z.bytes ≤ 140737488355328 ∧ n + src.1 ≤ 140737488351232)) else none else none
      | _ => none else none
    | _, _ => none
  | .call { callee := .builtin .copy, args, argTypes } => match args.toList, argTypes.toList with
    | [x, y], [t, _] => (T t).bind fun u => u.elem.bind fun e => (T e).bind fun z => if z.size == 0 then none else
      (viewA σ (ρ y)).bind fun src =>
      match ρ x with
      | .sl b o n k => if k == z.size && !(src.2.2.2.contains b) then (σ b).bind fun d => some (⟨.p (.v (.int .i64 (min src.1 n : Nat))), [(b, some (overB o (sub src.2.1 ((min src.1 n) * z.size) src.2.2.1) d))], b :: src.2.2.2⟩, decide (src.2.1 + src.1 * z.size ≤ src.2.2.1.cells.length ∧ o + n * k ≤ d.cells.length)) else none
      | _ => none
    | _, _ => none
  | _ => none

def okd (x : Option (Eff × Bool)) : Option (Eff × Prop) := x.map fun q => (q.1, q.2 = true)
theorem okd_bind {α : Type} (x : Option α) (f : α → Option (Eff × Bool)) : okd (x.bind f) = x.bind fun a => okd (f a) := by cases x <;> rfl
theorem okd_some (e : Eff) (b : Bool) : okd (some (e, b)) = some (e, b = true) := rfl
theorem okd_none : okd none = none := rfl
theorem okd_dec (e : Eff) (c : Prop) [d : Decidable c] : okd (some (e, decide c)) = some (e, c) := by simp [okd]
theorem okd_ite (c : Prop) [Decidable c] (a b : Option (Eff × Bool)) : okd (if c then a else b) = if c then okd a else okd b := by split <;> rfl
theorem okd_pure (x : AV) : okd (pure1B x) = pure1 x := by simp [pure1, pure1B, okd]
theorem binA_eq (op : BinOp) (k : IntKind) (a b : Int) : (binA op k a b) = (binB op k a b).map fun q => (q.1, q.2 = true) := by
  cases op <;> simp [binA, binB, leI_eq] <;> simp [ltI_eq]
theorem strA_eq (op : BinOp) (a b : ByteArray) : (strA op a b) = (strB op a b).map fun q => (q.1, q.2 = true) := by
  cases op <;> simp [strA, strB, ba_toList]
theorem okd_bin (op : BinOp) (k : IntKind) (a b : Int) : okd ((binB op k a b).bind fun r => some (⟨.p (.v r.1), [], []⟩, r.2)) = (binA op k a b).bind fun r => some (⟨.p (.v r.1), [], []⟩, r.2) := by
  rw [binA_eq, okd_bind]; cases binB op k a b <;> rfl
theorem okd_str (op : BinOp) (a b : ByteArray) : okd ((strB op a b).bind fun r => some (⟨.p (.v r.1), [], []⟩, r.2)) = (strA op a b).bind fun r => some (⟨.p (.v r.1), [], []⟩, r.2) := by
  rw [strA_eq, okd_bind]; cases strB op a b <;> rfl
theorem bind_congr' {α β : Type} {x : Option α} {f g : α → Option β} (h : ∀ a, f a = g a) : x.bind f = x.bind g := by rw [funext h]
theorem ite_congr' {α : Type} {c : Prop} [Decidable c] {a b a' b' : α} (h1 : a = a') (h2 : b = b') : (if c then a else b) = if c then a' else b' := by rw [h1, h2]
theorem sliceS_eq (x : AV) (lo hi : Option AV) : sliceS x lo hi = okd (sliceSB x lo hi) := by
  unfold sliceS sliceSB
  split
  · rw [okd_bind]; refine bind_congr' fun _ => ?_
    rw [okd_bind]; refine bind_congr' fun _ => ?_
    exact (okd_dec _ _).symm
  · rename_i hx
    split
    · exact (hx _ _ _ rfl rfl rfl).elim
    · rfl
theorem sliceA_eq (zs : Nat) (x : AV) (lo hi : Option AV) : sliceA zs x lo hi = okd (sliceB zs x lo hi) := by
  have key : ∀ (h : Option Int), (match h with
    | none => none
    | some h =>
    match lo, x with
    | none, .sl b o n k => if k == zs then some ((⟨.sl b o h.toNat k, [], []⟩ : Eff), 0 ≤ h ∧ h ≤ n) else none
    | some l, .sl b o n k => if k == zs then (ints l).bind fun l => some (⟨.sl b (o + l.2.toNat * k) (h - l.2).toNat k, [], []⟩, 0 ≤ l.2 ∧ l.2 < h ∧ h ≤ n) else none
    | none, .p (.lst n cs) => some (⟨.p (.lst h.toNat (cs.take (h.toNat * zs))), [], []⟩, 0 ≤ h ∧ h ≤ n)
    | some l, .p (.lst n cs) => (ints l).bind fun l => some (⟨.p (.lst (h - l.2).toNat ((cs.drop (l.2.toNat * zs)).take ((h - l.2).toNat * zs))), [], []⟩, 0 ≤ l.2 ∧ l.2 ≤ h ∧ h ≤ n)
    | _, _ => none) = okd (match h with
    | none => none
    | some h =>
    match lo, x with
    | none, .sl b o n k => if k == zs then some (⟨.sl b o h.toNat k, [], []⟩, decide (0 ≤ h ∧ h ≤ n)) else none
    | some l, .sl b o n k => if k == zs then (ints l).bind fun l => some (⟨.sl b (o + l.2.toNat * k) (h - l.2).toNat k, [], []⟩, decide (0 ≤ l.2 ∧ l.2 < h ∧ h ≤ n)) else none
    | none, .p (.lst n cs) => some (⟨.p (.lst h.toNat (cs.take (h.toNat * zs))), [], []⟩, decide (0 ≤ h ∧ h ≤ n))
    | some l, .p (.lst n cs) => (ints l).bind fun l => some (⟨.p (.lst (h - l.2).toNat ((cs.drop (l.2.toNat * zs)).take ((h - l.2).toNat * zs))), [], []⟩, decide (0 ≤ l.2 ∧ l.2 ≤ h ∧ h ≤ n))
    | _, _ => none) := by
    intro h
    rcases h with _ | h
    · rfl
    · rcases lo with _ | l <;> rcases x with _ | x | _ | _ | _ | _ | _ <;> (try rfl) <;> (try (rcases x with _ | _ | _ | _ | _)) <;> (try rfl) <;> simp only [okd_ite, okd_bind, okd_dec, okd_none]
  exact key _
theorem pop_eq (T : Tab) (op : Op) (ρ : Operand → AV) (σ : Store) (new : Nat) : pop T op ρ σ new = okd (popB T op ρ σ new) := by
  cases op
  case move x => simp only [pop, popB, okd_pure]
  case assign x => simp only [pop, popB, okd_pure]
  case pick c a b => simp only [pop, popB]; generalize ρ c = x; generalize ρ a = y; generalize ρ b = z; (repeat' (first | rfl | (exfalso; rename_i hx; first | exact hx _ _ _ _ rfl rfl | exact hx _ _ rfl rfl | exact hx _ _ _ rfl | exact hx _ _ rfl | exact hx _ _ _ rfl rfl | exact hx _ rfl | exact hx _ _ _ _ _ rfl rfl | exact hx _ _ _ _ _ _ rfl rfl) | exact (okd_dec _ _).symm | exact (okd_pure _).symm | exact (okd_bin _ _ _ _).symm | exact (okd_str _ _ _).symm | exact okd_none.symm | (with_reducible refine Eq.trans ?_ (okd_ite _ _ _).symm) | (with_reducible refine Eq.trans ?_ (okd_bind _ _).symm) | (refine bind_congr' fun _ => ?_) | (refine ite_congr' ?_ ?_) | split)) <;> (try (exfalso; solve_by_elim [rfl])) <;> (try simp_all [okd_pure, okd_none])
  case alloc e => simp only [pop, popB]; (repeat' (first | rfl | (exfalso; rename_i hx; first | exact hx _ _ _ _ rfl rfl | exact hx _ _ rfl rfl | exact hx _ _ _ rfl | exact hx _ _ rfl | exact hx _ _ _ rfl rfl | exact hx _ rfl | exact hx _ _ _ _ _ rfl rfl | exact hx _ _ _ _ _ _ rfl rfl) | exact (okd_dec _ _).symm | exact (okd_pure _).symm | exact (okd_bin _ _ _ _).symm | exact (okd_str _ _ _).symm | exact okd_none.symm | (with_reducible refine Eq.trans ?_ (okd_ite _ _ _).symm) | (with_reducible refine Eq.trans ?_ (okd_bind _ _).symm) | (refine bind_congr' fun _ => ?_) | (refine ite_congr' ?_ ?_) | split)) <;> (try (exfalso; solve_by_elim [rfl])) <;> (try simp_all [okd_pure, okd_none])
  case box e x => simp only [pop, popB]; (repeat' (first | rfl | (exfalso; rename_i hx; first | exact hx _ _ _ _ rfl rfl | exact hx _ _ rfl rfl | exact hx _ _ _ rfl | exact hx _ _ rfl | exact hx _ _ _ rfl rfl | exact hx _ rfl | exact hx _ _ _ _ _ rfl rfl | exact hx _ _ _ _ _ _ rfl rfl) | exact (okd_dec _ _).symm | exact (okd_pure _).symm | exact (okd_bin _ _ _ _).symm | exact (okd_str _ _ _).symm | exact okd_none.symm | (with_reducible refine Eq.trans ?_ (okd_ite _ _ _).symm) | (with_reducible refine Eq.trans ?_ (okd_bind _ _).symm) | (refine bind_congr' fun _ => ?_) | (refine ite_congr' ?_ ?_) | split)) <;> (try (exfalso; solve_by_elim [rfl])) <;> (try simp_all [okd_pure, okd_none])
  case build t ps => simp only [pop, popB]; (repeat' (first | rfl | (exfalso; rename_i hx; first | exact hx _ _ _ _ rfl rfl | exact hx _ _ rfl rfl | exact hx _ _ _ rfl | exact hx _ _ rfl | exact hx _ _ _ rfl rfl | exact hx _ rfl | exact hx _ _ _ _ _ rfl rfl | exact hx _ _ _ _ _ _ rfl rfl) | exact (okd_dec _ _).symm | exact (okd_pure _).symm | exact (okd_bin _ _ _ _).symm | exact (okd_str _ _ _).symm | exact okd_none.symm | (with_reducible refine Eq.trans ?_ (okd_ite _ _ _).symm) | (with_reducible refine Eq.trans ?_ (okd_bind _ _).symm) | (refine bind_congr' fun _ => ?_) | (refine ite_congr' ?_ ?_) | split)) <;> (try (exfalso; solve_by_elim [rfl])) <;> (try simp_all [okd_pure, okd_none])
  case buildSlice t n ps => simp only [pop, popB]; (repeat' (first | rfl | (exfalso; rename_i hx; first | exact hx _ _ _ _ rfl rfl | exact hx _ _ rfl rfl | exact hx _ _ _ rfl | exact hx _ _ rfl | exact hx _ _ _ rfl rfl | exact hx _ rfl | exact hx _ _ _ _ _ rfl rfl | exact hx _ _ _ _ _ _ rfl rfl) | exact (okd_dec _ _).symm | exact (okd_pure _).symm | exact (okd_bin _ _ _ _).symm | exact (okd_str _ _ _).symm | exact okd_none.symm | (with_reducible refine Eq.trans ?_ (okd_ite _ _ _).symm) | (with_reducible refine Eq.trans ?_ (okd_bind _ _).symm) | (refine bind_congr' fun _ => ?_) | (refine ite_congr' ?_ ?_) | split)) <;> (try (exfalso; solve_by_elim [rfl])) <;> (try simp_all [okd_pure, okd_none])
  case load t a => simp only [pop, popB]; generalize ρ a = x; (repeat' (first | rfl | (exfalso; rename_i hx; first | exact hx _ _ _ _ rfl rfl | exact hx _ _ rfl rfl | exact hx _ _ _ rfl | exact hx _ _ rfl | exact hx _ _ _ rfl rfl | exact hx _ rfl | exact hx _ _ _ _ _ rfl rfl | exact hx _ _ _ _ _ _ rfl rfl) | exact (okd_dec _ _).symm | exact (okd_pure _).symm | exact (okd_bin _ _ _ _).symm | exact (okd_str _ _ _).symm | exact okd_none.symm | (with_reducible refine Eq.trans ?_ (okd_ite _ _ _).symm) | (with_reducible refine Eq.trans ?_ (okd_bind _ _).symm) | (refine bind_congr' fun _ => ?_) | (refine ite_congr' ?_ ?_) | split)) <;> (try (exfalso; solve_by_elim [rfl])) <;> (try simp_all [okd_pure, okd_none])
  case store t a v => simp only [pop, popB]; generalize ρ a = x; generalize ρ v = y; (repeat' (first | rfl | (exfalso; rename_i hx; first | exact hx _ _ _ _ rfl rfl | exact hx _ _ rfl rfl | exact hx _ _ _ rfl | exact hx _ _ rfl | exact hx _ _ _ rfl rfl | exact hx _ rfl | exact hx _ _ _ _ _ rfl rfl | exact hx _ _ _ _ _ _ rfl rfl) | exact (okd_dec _ _).symm | exact (okd_pure _).symm | exact (okd_bin _ _ _ _).symm | exact (okd_str _ _ _).symm | exact okd_none.symm | (with_reducible refine Eq.trans ?_ (okd_ite _ _ _).symm) | (with_reducible refine Eq.trans ?_ (okd_bind _ _).symm) | (refine bind_congr' fun _ => ?_) | (refine ite_congr' ?_ ?_) | split)) <;> (try (exfalso; solve_by_elim [rfl])) <;> (try simp_all [okd_pure, okd_none])
  case nilCheck x => simp only [pop, popB]; generalize ρ x = y; (repeat' (first | rfl | (exfalso; rename_i hx; first | exact hx _ _ _ _ rfl rfl | exact hx _ _ rfl rfl | exact hx _ _ _ rfl | exact hx _ _ rfl | exact hx _ _ _ rfl rfl | exact hx _ rfl | exact hx _ _ _ _ _ rfl rfl | exact hx _ _ _ _ _ _ rfl rfl) | exact (okd_dec _ _).symm | exact (okd_pure _).symm | exact (okd_bin _ _ _ _).symm | exact (okd_str _ _ _).symm | exact okd_none.symm | (with_reducible refine Eq.trans ?_ (okd_ite _ _ _).symm) | (with_reducible refine Eq.trans ?_ (okd_bind _ _).symm) | (refine bind_congr' fun _ => ?_) | (refine ite_congr' ?_ ?_) | split)) <;> (try (exfalso; solve_by_elim [rfl])) <;> (try simp_all [okd_pure, okd_none])
  case binOp op t x y t2 => simp only [pop, popB]; generalize ρ x = u; generalize ρ y = v; (repeat' (first | rfl | (exfalso; rename_i hx; first | exact hx _ _ _ _ rfl rfl | exact hx _ _ rfl rfl | exact hx _ _ _ rfl | exact hx _ _ rfl | exact hx _ _ _ rfl rfl | exact hx _ rfl | exact hx _ _ _ _ _ rfl rfl | exact hx _ _ _ _ _ _ rfl rfl) | exact (okd_dec _ _).symm | exact (okd_pure _).symm | exact (okd_bin _ _ _ _).symm | exact (okd_str _ _ _).symm | exact okd_none.symm | (with_reducible refine Eq.trans ?_ (okd_ite _ _ _).symm) | (with_reducible refine Eq.trans ?_ (okd_bind _ _).symm) | (refine bind_congr' fun _ => ?_) | (refine ite_congr' ?_ ?_) | split)) <;> (try (exfalso; solve_by_elim [rfl])) <;> (try simp_all [okd_pure, okd_none])
  case unOp op t x => simp only [pop, popB]; generalize ρ x = u; (repeat' (first | rfl | (exfalso; rename_i hx; first | exact hx _ _ _ _ rfl rfl | exact hx _ _ rfl rfl | exact hx _ _ _ rfl | exact hx _ _ rfl | exact hx _ _ _ rfl rfl | exact hx _ rfl | exact hx _ _ _ _ _ rfl rfl | exact hx _ _ _ _ _ _ rfl rfl) | exact (okd_dec _ _).symm | exact (okd_pure _).symm | exact (okd_bin _ _ _ _).symm | exact (okd_str _ _ _).symm | exact okd_none.symm | (with_reducible refine Eq.trans ?_ (okd_ite _ _ _).symm) | (with_reducible refine Eq.trans ?_ (okd_bind _ _).symm) | (refine bind_congr' fun _ => ?_) | (refine ite_congr' ?_ ?_) | split)) <;> (try (exfalso; solve_by_elim [rfl])) <;> (try simp_all [okd_pure, okd_none])
  case convert s d x => simp only [pop, popB]; generalize ρ x = u; (repeat' (first | rfl | (exfalso; rename_i hx; first | exact hx _ _ _ _ rfl rfl | exact hx _ _ rfl rfl | exact hx _ _ _ rfl | exact hx _ _ rfl | exact hx _ _ _ rfl rfl | exact hx _ rfl | exact hx _ _ _ _ _ rfl rfl | exact hx _ _ _ _ _ _ rfl rfl) | exact (okd_dec _ _).symm | exact (okd_pure _).symm | exact (okd_bin _ _ _ _).symm | exact (okd_str _ _ _).symm | exact okd_none.symm | (with_reducible refine Eq.trans ?_ (okd_ite _ _ _).symm) | (with_reducible refine Eq.trans ?_ (okd_bind _ _).symm) | (refine bind_congr' fun _ => ?_) | (refine ite_congr' ?_ ?_) | split)) <;> (try (exfalso; solve_by_elim [rfl])) <;> (try simp_all [okd_pure, okd_none])
  case makeFunc f a b => cases f <;> simp only [pop, popB] <;> (repeat' (first | rfl | (exfalso; rename_i hx; first | exact hx _ _ _ _ rfl rfl | exact hx _ _ rfl rfl | exact hx _ _ _ rfl | exact hx _ _ rfl | exact hx _ _ _ rfl rfl | exact hx _ rfl | exact hx _ _ _ _ _ rfl rfl | exact hx _ _ _ _ _ _ rfl rfl) | exact (okd_dec _ _).symm | exact (okd_pure _).symm | exact (okd_bin _ _ _ _).symm | exact (okd_str _ _ _).symm | exact okd_none.symm | (with_reducible refine Eq.trans ?_ (okd_ite _ _ _).symm) | (with_reducible refine Eq.trans ?_ (okd_bind _ _).symm) | (refine bind_congr' fun _ => ?_) | (refine ite_congr' ?_ ?_) | split)) <;> (try (exfalso; solve_by_elim [rfl])) <;> (try simp_all [okd_pure, okd_none])
  case makeSlice t l c => simp only [pop, popB]; generalize ρ l = u; generalize ρ c = v; (repeat' (first | rfl | (exfalso; rename_i hx; first | exact hx _ _ _ _ rfl rfl | exact hx _ _ rfl rfl | exact hx _ _ _ rfl | exact hx _ _ rfl | exact hx _ _ _ rfl rfl | exact hx _ rfl | exact hx _ _ _ _ _ rfl rfl | exact hx _ _ _ _ _ _ rfl rfl) | exact (okd_dec _ _).symm | exact (okd_pure _).symm | exact (okd_bin _ _ _ _).symm | exact (okd_str _ _ _).symm | exact okd_none.symm | (with_reducible refine Eq.trans ?_ (okd_ite _ _ _).symm) | (with_reducible refine Eq.trans ?_ (okd_bind _ _).symm) | (refine bind_congr' fun _ => ?_) | (refine ite_congr' ?_ ?_) | split)) <;> (try (exfalso; solve_by_elim [rfl])) <;> (try simp_all [okd_pure, okd_none])
  case slice t x lo hi mx => cases mx <;> simp only [pop, popB, sliceA_eq, sliceS_eq] <;> (repeat' (first | rfl | (exfalso; rename_i hx; first | exact hx _ _ _ _ rfl rfl | exact hx _ _ rfl rfl | exact hx _ _ _ rfl | exact hx _ _ rfl | exact hx _ _ _ rfl rfl | exact hx _ rfl | exact hx _ _ _ _ _ rfl rfl | exact hx _ _ _ _ _ _ rfl rfl) | exact (okd_dec _ _).symm | exact (okd_pure _).symm | exact (okd_bin _ _ _ _).symm | exact (okd_str _ _ _).symm | exact okd_none.symm | (with_reducible refine Eq.trans ?_ (okd_ite _ _ _).symm) | (with_reducible refine Eq.trans ?_ (okd_bind _ _).symm) | (refine bind_congr' fun _ => ?_) | (refine ite_congr' ?_ ?_) | split)) <;> (try (exfalso; solve_by_elim [rfl])) <;> (try simp_all [okd_pure, okd_none])
  case fieldAddr s x f => simp only [pop, popB]; generalize ρ x = u; (repeat' (first | rfl | (exfalso; rename_i hx; first | exact hx _ _ _ _ rfl rfl | exact hx _ _ rfl rfl | exact hx _ _ _ rfl | exact hx _ _ rfl | exact hx _ _ _ rfl rfl | exact hx _ rfl | exact hx _ _ _ _ _ rfl rfl | exact hx _ _ _ _ _ _ rfl rfl) | exact (okd_dec _ _).symm | exact (okd_pure _).symm | exact (okd_bin _ _ _ _).symm | exact (okd_str _ _ _).symm | exact okd_none.symm | (with_reducible refine Eq.trans ?_ (okd_ite _ _ _).symm) | (with_reducible refine Eq.trans ?_ (okd_bind _ _).symm) | (refine bind_congr' fun _ => ?_) | (refine ite_congr' ?_ ?_) | split)) <;> (try (exfalso; solve_by_elim [rfl])) <;> (try simp_all [okd_pure, okd_none])
  case field s x f => simp only [pop, popB]; generalize ρ x = u; (repeat' (first | rfl | (exfalso; rename_i hx; first | exact hx _ _ _ _ rfl rfl | exact hx _ _ rfl rfl | exact hx _ _ _ rfl | exact hx _ _ rfl | exact hx _ _ _ rfl rfl | exact hx _ rfl | exact hx _ _ _ _ _ rfl rfl | exact hx _ _ _ _ _ _ rfl rfl) | exact (okd_dec _ _).symm | exact (okd_pure _).symm | exact (okd_bin _ _ _ _).symm | exact (okd_str _ _ _).symm | exact okd_none.symm | (with_reducible refine Eq.trans ?_ (okd_ite _ _ _).symm) | (with_reducible refine Eq.trans ?_ (okd_bind _ _).symm) | (refine bind_congr' fun _ => ?_) | (refine ite_congr' ?_ ?_) | split)) <;> (try (exfalso; solve_by_elim [rfl])) <;> (try simp_all [okd_pure, okd_none])
  case indexAddr t x i => simp only [pop, popB]; generalize ρ x = u; generalize ρ i = v; (repeat' (first | rfl | (exfalso; rename_i hx; first | exact hx _ _ _ _ rfl rfl | exact hx _ _ rfl rfl | exact hx _ _ _ rfl | exact hx _ _ rfl | exact hx _ _ _ rfl rfl | exact hx _ rfl | exact hx _ _ _ _ _ rfl rfl | exact hx _ _ _ _ _ _ rfl rfl) | exact (okd_dec _ _).symm | exact (okd_pure _).symm | exact (okd_bin _ _ _ _).symm | exact (okd_str _ _ _).symm | exact okd_none.symm | (with_reducible refine Eq.trans ?_ (okd_ite _ _ _).symm) | (with_reducible refine Eq.trans ?_ (okd_bind _ _).symm) | (refine bind_congr' fun _ => ?_) | (refine ite_congr' ?_ ?_) | split)) <;> (try (exfalso; solve_by_elim [rfl])) <;> (try simp_all [okd_pure, okd_none])
  case index t x i => simp only [pop, popB]; generalize ρ x = u; generalize ρ i = v; (repeat' (first | rfl | (exfalso; rename_i hx; first | exact hx _ _ _ _ rfl rfl | exact hx _ _ rfl rfl | exact hx _ _ _ rfl | exact hx _ _ rfl | exact hx _ _ _ rfl rfl | exact hx _ rfl | exact hx _ _ _ _ _ rfl rfl | exact hx _ _ _ _ _ _ rfl rfl) | exact (okd_dec _ _).symm | exact (okd_pure _).symm | exact (okd_bin _ _ _ _).symm | exact (okd_str _ _ _).symm | exact okd_none.symm | (with_reducible refine Eq.trans ?_ (okd_ite _ _ _).symm) | (with_reducible refine Eq.trans ?_ (okd_bind _ _).symm) | (refine bind_congr' fun _ => ?_) | (refine ite_congr' ?_ ?_) | split)) <;> (try (exfalso; solve_by_elim [rfl])) <;> (try simp_all [okd_pure, okd_none])
  case extract t i => simp only [pop, popB]; generalize ρ t = u; (repeat' (first | rfl | (exfalso; rename_i hx; first | exact hx _ _ _ _ rfl rfl | exact hx _ _ rfl rfl | exact hx _ _ _ rfl | exact hx _ _ rfl | exact hx _ _ _ rfl rfl | exact hx _ rfl | exact hx _ _ _ _ _ rfl rfl | exact hx _ _ _ _ _ _ rfl rfl) | exact (okd_dec _ _).symm | exact (okd_pure _).symm | exact (okd_bin _ _ _ _).symm | exact (okd_str _ _ _).symm | exact okd_none.symm | (with_reducible refine Eq.trans ?_ (okd_ite _ _ _).symm) | (with_reducible refine Eq.trans ?_ (okd_bind _ _).symm) | (refine bind_congr' fun _ => ?_) | (refine ite_congr' ?_ ?_) | split)) <;> (try (exfalso; solve_by_elim [rfl])) <;> (try simp_all [okd_pure, okd_none])
  case call c =>
    obtain ⟨callee, args, ts⟩ := c
    cases callee with
    | value f => rfl
    | invoke r m => rfl
    | builtin b =>
      generalize hargs : args.toList = avs
      generalize hts : ts.toList = tl
      cases b <;> (try rfl) <;> simp only [pop, popB, hargs, hts]
      all_goals (rcases avs with _ | ⟨x, _ | ⟨y, _ | ⟨z, avs⟩⟩⟩ <;> (try rfl) <;> (try dsimp only))
      all_goals (try (rcases tl with _ | ⟨t, _ | ⟨t', _ | ⟨t'', tl⟩⟩⟩ <;> (try rfl) <;> (try dsimp only)))
      all_goals (try generalize ρ x = u)
      all_goals (try generalize viewA σ (ρ y) = vw)
      all_goals (try generalize ρ y = v)
      all_goals (repeat' (first | rfl | (exfalso; rename_i hx; first | exact hx _ _ _ _ rfl rfl | exact hx _ _ rfl rfl | exact hx _ _ _ rfl | exact hx _ _ rfl | exact hx _ _ _ rfl rfl | exact hx _ rfl | exact hx _ _ _ _ _ rfl rfl | exact hx _ _ _ _ _ _ rfl rfl) | exact (okd_dec _ _).symm | exact (okd_pure _).symm | exact okd_none.symm | (with_reducible refine Eq.trans ?_ (okd_ite _ _ _).symm) | (with_reducible refine Eq.trans ?_ (okd_bind _ _).symm) | (refine bind_congr' fun _ => ?_) | (refine ite_congr' ?_ ?_) | split)) <;> (try (exfalso; solve_by_elim [rfl])) <;> (try simp_all [okd_pure, okd_none])
  all_goals rfl
end Go.Proofs.YtalklhbdpmggjaaDoor.Pw
namespace Go.Proofs.YtalklhbdpmggjaaDoor.Pw
open Go Go.RowKit
abbrev Told := Nat × List PV × PV
def Good (P : Program) (c : Told) : Prop := Sound P c.1 c.2.1 c.2.2
abbrev CallX := Nat → List AV → Stores → Nat → List PV → Option (Eff × List PV × List Told)
def CallOK (P : Program) (D : Nat) (cx : CallX) : Prop := ∀ g args st new tp r, cx g args st new tp = some r → (∀ c ∈ r.2.2, Good P c) → SoundE P D g args (get st) new r.1
def stepX (cx : CallX) (T : Tab) (ops : List Oper) (o : Oper) (new : Nat) (env : List AV) (st : Stores) (tp : List PV) : Option (Eff × List PV × List Told) :=
  match wantA ops env o with
  | some true => match o.op with
    | .call { callee := .value f, args, argTypes := _ } => match ev env f with
      | .fn g caps => cx g (args.toList.map (ev env) ++ caps) st new tp
      | _ => none
    | op => match popB T op (ev env) (get st) new with
      | some (e, true) => some (e, tp, [])
      | _ => none
  | some false => some (⟨.p (.tup []), [], []⟩, tp, [])
  | none => none
def opsX (cx : CallX) (T : Tab) (D : Nat) (ops : List Oper) (nx : Nat) : List Oper → Nat → List AV → Stores → List Eff → List PV → List Told → Option (List AV × Stores × List Eff × List PV × List Told)
  | [], _, env, st, acc, tp, lg => some (env, st, acc, tp, lg)
  | o :: r, i, env, st, acc, tp, lg => match stepX cx T ops o (nx + D * i) env st tp with
    | some (e, tp, l1) => if e.upd.all (fun x => Nat.blt x.1 (nx + D * (i + 1))) then opsX cx T D ops nx r (i + 1) (setD env o.dst e.val) (puts st e.upd) (e :: acc) tp (lg ++ l1) else none
    | none => none
theorem stepX_sound {P : Program} {T : Tab} {D : Nat} {cx : CallX} (hcx : CallOK P D cx) {ops : List Oper} {o : Oper} {new : Nat} {env : List AV} {st : Stores} {tp : List PV} {r : Eff × List PV × List Told}
    (h : stepX cx T ops o new env st tp = some r) (hg : ∀ c ∈ r.2.2, Good P c) {K : Eff → Prop} (hK : K r.1) : stepW P T D ops o new env (get st) K := by
  unfold stepX at h
  unfold stepW
  split at h
  · rename_i hw
    rw [hw]
    dsimp only
    split at h
    · rename_i f args ts ho
      split at h
      · rename_i g caps hf
        rw [ho]
        simp only [hf]
        exact ⟨r.1, hcx _ _ _ _ _ _ h hg, hK⟩
      · cases h
    · rename_i hno
      split at h
      · rename_i e' hp
        injection h with h; subst h
        split
        · rename_i f args ts ho; exact absurd ho (hno _ _ _)
        · rw [pop_eq, hp]
          exact ⟨rfl, hK⟩
      · cases h
  · rename_i hw
    rw [hw]
    injection h with h; subst h; exact hK
  · cases h
theorem opsX_log {T : Tab} {D : Nat} {cx : CallX} {ops : List Oper} {nx : Nat} : ∀ (l : List Oper) (i : Nat) (env : List AV) (st : Stores) (acc : List Eff) (tp : List PV) (lg : List Told) (r : List AV × Stores × List Eff × List PV × List Told),
    opsX cx T D ops nx l i env st acc tp lg = some r → ∀ c ∈ lg, c ∈ r.2.2.2.2
  | [], i, env, st, acc, tp, lg, r, h => by
    simp only [opsX, Option.some.injEq] at h; subst h; exact fun _ h => h
  | o :: l, i, env, st, acc, tp, lg, r, h => by
    simp only [opsX] at h
    split at h
    · split at h
      · exact fun c hc => opsX_log l _ _ _ _ _ _ r h c (List.mem_append_left _ hc)
      · cases h
    · cases h
theorem opsX_sound {P : Program} {T : Tab} {D : Nat} {cx : CallX} (hcx : CallOK P D cx) {ops : List Oper} {nx : Nat} {K : List AV → Stores → List Eff → Prop} :
    ∀ (l : List Oper) (i : Nat) (env : List AV) (st : Stores) (acc : List Eff) (tp : List PV) (lg : List Told) (r : List AV × Stores × List Eff × List PV × List Told), opsX cx T D ops nx l i env st acc tp lg = some r → (∀ c ∈ r.2.2.2.2, Good P c) → K r.1 r.2.1 r.2.2.1 → opsW P T D ops nx l i env st acc K
  | [], i, env, st, acc, tp, lg, r, h, hg, hK => by
    simp only [opsX, Option.some.injEq] at h; subst h; exact hK
  | o :: l, i, env, st, acc, tp, lg, r, h, hg, hK => by
    simp only [opsX] at h
    split at h
    · rename_i e tp' l1 he
      split at h
      · rename_i hb
        exact stepX_sound hcx he (fun c hc => hg c (opsX_log l _ _ _ _ _ _ r h c (List.mem_append_right _ hc))) ⟨hb, opsX_sound hcx l _ _ _ _ _ _ r h hg hK⟩
      · cases h
    · cases h
structure Out where
  x : X
  env : List AV
  st : Stores
  nx : Nat
  wr : List Nat
  tp : List PV
  lg : List Told
def addW (base : Nat) (wr : List Nat) : List Eff → List Nat
  | [] => wr
  | e :: r => addW base (e.upd.foldl (fun w x => if Nat.blt x.1 base && !w.contains x.1 then x.1 :: w else w) wr) r
def exec (T : Tab) (D base : Nat) (cx : CallX) : Nat → Code → List AV → Stores → Nat → List Nat → List PV → List Told → Option Out
  | 0, _, _, _, _, _, _, _ => none
  | n + 1, c, env, st, nx, wr, tp, lg => match c with
    | .skip => some ⟨.normal, env, st, nx, wr, tp, lg⟩
    | .exit id => some ⟨.exit id, env, st, nx, wr, tp, lg⟩
    | .ret => some ⟨.ret, env, st, nx, wr, tp, lg⟩
    | .seq a b => match exec T D base cx n a env st nx wr tp lg with
      | some ⟨.normal, env, st, nx, wr, tp, lg⟩ => exec T D base cx n b env st nx wr tp lg
      | r => r
    | .cond c a b => match ev env c with
      | .p (.v (.bool t)) => match t with
        | true => exec T D base cx n a env st nx wr tp lg
        | false => exec T D base cx n b env st nx wr tp lg
      | _ => none
    | .block id c => match exec T D base cx n c env st nx wr tp lg with
      | some ⟨.exit i, env, st, nx, wr, tp, lg⟩ => if i = id then some ⟨.normal, env, st, nx, wr, tp, lg⟩ else some ⟨.exit i, env, st, nx, wr, tp, lg⟩
      | r => r
    | .loop c => match exec T D base cx n c env st nx wr tp lg with
      | some ⟨.normal, env, st, nx, wr, tp, lg⟩ => exec T D base cx n (.loop c) env st nx wr tp lg
      | r => r
    | .region _ ops draw => match opsX cx T D ops.toList nx ops.toList 0 env st [] tp lg with
      | some (env, st, acc, tp, lg) => if !draw || (lexOK ops (befs ops.toList []) && effsOK D nx (befs ops.toList []) (acc.reverse.map fun e => (e.upd.map (·.1), e.rd))) then some ⟨.normal, env, st, nx + D * ops.size, addW base wr acc, tp, lg⟩ else none
      | none => none
    | _ => none
theorem exec_log {T : Tab} {D : Nat} {cx : CallX} {B : Nat} : ∀ (n : Nat) (c : Code) (env : List AV) (st : Stores) (nx : Nat) (wr : List Nat) (tp : List PV) (lg : List Told) (o : Out), exec T D B cx n c env st nx wr tp lg = some o → ∀ c ∈ lg, c ∈ o.lg := by
  intro n
  induction n with
  | zero => intro c env st nx wr tp lg o h; simp [exec] at h
  | succ n ih =>
    intro c env st nx wr tp lg o h
    cases c with
    | skip => simp only [exec, Option.some.injEq] at h; subst h; exact fun _ h => h
    | exit id => simp only [exec, Option.some.injEq] at h; subst h; exact fun _ h => h
    | ret => simp only [exec, Option.some.injEq] at h; subst h; exact fun _ h => h
    | seq a b =>
      simp only [exec] at h
      split at h
      · rename_i h1; exact fun c hc => ih _ _ _ _ _ _ _ _ h c (ih _ _ _ _ _ _ _ _ h1 c hc)
      · exact ih _ _ _ _ _ _ _ _ h
    | cond c a b =>
      simp only [exec] at h
      split at h
      · rename_i t hc
        cases t <;> exact ih _ _ _ _ _ _ _ _ h
      · cases h
    | block id c =>
      simp only [exec] at h
      split at h
      · rename_i h1
        have := ih _ _ _ _ _ _ _ _ h1
        split at h <;> (injection h with h; subst h; exact this)
      · exact ih _ _ _ _ _ _ _ _ h
    | loop c =>
      simp only [exec] at h
      split at h
      · rename_i h1; exact fun c hc => ih _ _ _ _ _ _ _ _ h c (ih _ _ _ _ _ _ _ _ h1 c hc)
      · exact ih _ _ _ _ _ _ _ _ h
    | region id ops draw =>
      simp only [exec] at h
      split at h
      · rename_i h1
        split at h
        · injection h with h; subst h
          exact opsX_log _ _ _ _ _ _ _ _ h1
        · cases h
      · cases h
    | _ => simp [exec] at h
section
variable {P : Program} {T : Tab} {D base : Nat} {cx : CallX}
theorem exec_sound (hT : TOK P T) (hm : P.follows .mixedOrders = true) (hD : 0 < D) (hcx : CallOK P D cx) {B : Nat} :
    ∀ (n : Nat), (∀ (c : Code) (env : List AV) (st : Stores) (nx : Nat) (wr : List Nat) (tp : List PV) (lg : List Told) (o : Out) (Q : PostA), exec T D B cx n c env st nx wr tp lg = some o → (∀ c ∈ o.lg, Good P c) → Q o.x o.env o.st o.nx → WP P base c Q env st nx) ∧
      ∀ (c : Code) (env : List AV) (st : Stores) (nx : Nat) (wr : List Nat) (tp : List PV) (lg : List Told) (o : Out) (Q : PostA), exec T D B cx n (.loop c) env st nx wr tp lg = some o → (∀ c ∈ o.lg, Good P c) → Q o.x o.env o.st o.nx → WPL P base c Q env st nx := by
  intro n
  induction n with
  | zero => exact ⟨fun c env st nx wr tp lg o Q h => by simp [exec] at h, fun c env st nx wr tp lg o Q h => by simp [exec] at h⟩
  | succ n ihh =>
    obtain ⟨ih, ihL⟩ := ihh
    have loop : ∀ (c : Code) (env : List AV) (st : Stores) (nx : Nat) (wr : List Nat) (tp : List PV) (lg : List Told) (o : Out) (Q : PostA), exec T D B cx (n + 1) (.loop c) env st nx wr tp lg = some o → (∀ c ∈ o.lg, Good P c) → Q o.x o.env o.st o.nx → WPL P base c Q env st nx := by
      intro c env st nx wr tp lg o Q h hg hQ
      simp only [exec] at h
      split at h
      · rename_i env1 st1 nx1 wr1 tp1 lg1 h1
        exact WPL_unroll (ih _ _ _ _ _ _ _ _ _ h1 (fun c hc => hg c (exec_log _ _ _ _ _ _ _ _ _ h c hc)) (ihL _ _ _ _ _ _ _ _ _ h hg hQ))
      · rename_i hno
        refine WPL_unroll (ih _ _ _ _ _ _ _ _ _ h hg ?_)
        unfold loopK
        split
        · rename_i hx
          obtain ⟨x, e1, s1, n1, w1, t1, g1⟩ := o
          simp only at hx; subst hx
          exact absurd h (hno _ _ _ _ _ _)
        · exact hQ
    refine ⟨?_, loop⟩
    intro c env st nx wr tp lg o Q h hg hQ
    cases c with
    | skip => simp only [exec, Option.some.injEq] at h; subst h; exact WP_skip hQ
    | exit id => simp only [exec, Option.some.injEq] at h; subst h; exact WP_exit hQ
    | ret => simp only [exec, Option.some.injEq] at h; subst h; exact WP_ret hQ
    | seq a b =>
      simp only [exec] at h
      split at h
      · rename_i env1 st1 nx1 wr1 tp1 lg1 h1
        exact WP_seq (ih _ _ _ _ _ _ _ _ _ h1 (fun c hc => hg c (exec_log _ _ _ _ _ _ _ _ _ h c hc)) (ih _ _ _ _ _ _ _ _ _ h hg hQ))
      · rename_i hno
        refine WP_seq (ih _ _ _ _ _ _ _ _ _ h hg ?_)
        unfold seqK
        split
        · rename_i hx
          obtain ⟨x, e1, s1, n1, w1, t1, g1⟩ := o
          simp only at hx; subst hx
          exact absurd h (hno _ _ _ _ _ _)
        · exact hQ
    | cond c a b =>
      simp only [exec] at h
      split at h
      · rename_i t hc
        cases t
        · exact WP_cond hc (by simpa using ih _ _ _ _ _ _ _ _ _ h hg hQ)
        · exact WP_cond hc (by simpa using ih _ _ _ _ _ _ _ _ _ h hg hQ)
      · cases h
    | block id c =>
      simp only [exec] at h
      split at h
      · rename_i i env1 st1 nx1 wr1 tp1 lg1 h1
        refine WP_block (ih _ _ _ _ _ _ _ _ _ h1 ?_ ?_)
        · split at h <;> (injection h with h; subst h; exact hg)
        simp only [blockK]
        split at h
        · rename_i e; rw [if_pos e]; injection h with h; subst h; exact hQ
        · rename_i e; rw [if_neg e]; injection h with h; subst h; exact hQ
      · rename_i hno
        refine WP_block (ih _ _ _ _ _ _ _ _ _ h hg ?_)
        unfold blockK
        split
        · rename_i i hx
          obtain ⟨x, e1, s1, n1, w1, t1, g1⟩ := o
          simp only at hx; subst hx
          exact absurd h (hno _ _ _ _ _ _ _)
        · exact hQ
    | loop c => exact WP_loop (loop _ _ _ _ _ _ _ _ _ h hg hQ)
    | region id ops draw =>
      simp only [exec] at h
      split at h
      · rename_i env1 st1 acc tp1 lg1 h1
        split at h
        · rename_i hb
          injection h with h; subst h
          simp only [Bool.or_eq_true, Bool.not_eq_true', Bool.and_eq_true] at hb
          refine WP_region hT hm hD (fun hd => ?_) (opsX_sound hcx _ _ _ _ _ _ _ _ h1 hg ⟨fun hd => ?_, hQ⟩)
          · rcases hb with hb | hb
            · rw [hd] at hb; cases hb
            · exact hb.1
          · rcases hb with hb | hb
            · rw [hd] at hb; cases hb
            · exact hb.2
        · cases h
      · cases h
    | _ => simp [exec] at h
end
end Go.Proofs.YtalklhbdpmggjaaDoor.Pw
