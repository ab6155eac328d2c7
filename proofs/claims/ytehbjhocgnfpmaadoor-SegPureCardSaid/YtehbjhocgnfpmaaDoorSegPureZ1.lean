/- The law SegPure: what its proof needs, part 1. -/
import Derived.Shelf.Small.Bits
import Derived.Shelf.Strconv.Itoa0
import Derived.Shelf.Strings.Search1
import Derived.Shelf.Bytes.SlIndexSmall
import Derived.Ground.SlbNamesProg
import Derived.Shelf.Bytes.SlCountOne
import Derived.Shelf.Bytes.SlIndexAt
import Derived.Shelf.Bytes.SlSearch0
import Derived.Shelf.Bytes.SlSearch1
import Derived.Shelf.Bytes.SlSearch2
import Derived.Shelf.Bytes.SlIndexWhole
import Derived.Shelf.LaysM
import Derived.Shelf.Bytes.SlCountWhole
import Derived.Shelf.Bytes.SlSplit
import Derived.Shelf.Bytes.SlEqualAll
import Derived.Shelf.Bytes.Small
import Derived.Shelf.Bytes.IndexByte
import Derived.Test.YtehbjhocgnfpmaaDoorProg
import Derived.WalkKit
import Derived.WalkLawsBesides
import Derived.WalkSpells
import Derived.BigQuiet
import Derived.Deep.QuietTactic
import Derived.Deep.LoopGhost
import Derived.Deep.DeepFit
import Derived.Laws.Tables
import Derived.Laws.Rows
import Derived.Deep.WholeRow
import Derived.Deep.MidRow
import Derived.Deep.RegionHeld3
import Derived.Laws.Bits64b
import Derived.Orders
import Derived.Maps.AppendAt
import Derived.Deep.AppendLies
import Derived.Laws.OwnMore
import Derived.OwnWalk
import Derived.Great.BuildSlice
import Derived.Lib.ItoaNum
/-
  DERIVED: THE SHELF's CONTRACTS AT THIS DUMP, IN PLAIN WORDS (tools/lay-plain.mjs out of 'TrydShelf.lean', which tools/lay-shelf.mjs wrote): THE SAME DECLARATIONS UNDER THE SAME NAMES: 'import', 'namespace', 'open', 'def', 'theorem' AND NOTHING ELSE: no command of the shelf's: FOR A HAND-IN. Each laying: the table of numbers ('.._ren') and one theorem, a field a fact of the dump's own or the kernel's comparison; each contract: ONE APPLICATION.
-/
namespace Go.Proofs
open Go.Shelf
def Tryd.lays125_ren : Go.Shelf.Ren := ⟨fun | 125 => 110 | 128 => 113 | 129 => 114 | n => n, fun | 46 => 147 | 3 => 3 | 51 => 171 | 53 => 76 | 4 => 4 | 5 => 5 | 9 => 9 | n => n, fun | n => n⟩
theorem Tryd.lays125 : Go.Proofs.Lays.n125 Tryd.prog Tryd.lays125_ren := {
  mixed := by kernel_rfl
  f125 := Tryd.func110.trans (congrArg some (by kernel_rfl))
  f128 := Tryd.func113.trans (congrArg some (by kernel_rfl))
  f129 := Tryd.func114.trans (congrArg some (by kernel_rfl))
  t3 := Tryd.underlying3
  a3 := Tryd.isAgg3
  z3 := Tryd.sizeOf3
  v3 := Tryd.zeroValue3
  t4 := Tryd.underlying4
  a4 := Tryd.isAgg4
  z4 := Tryd.sizeOf4
  v4 := Tryd.zeroValue4
  t5 := Tryd.underlying5
  a5 := Tryd.isAgg5
  z5 := Tryd.sizeOf5
  v5 := Tryd.zeroValue5
  t9 := Tryd.underlying9
  a9 := Tryd.isAgg9
  z9 := Tryd.sizeOf9
  v9 := Tryd.zeroValue9
  t46 := Tryd.underlying147
  a46 := Tryd.isAgg147
  z46 := Tryd.sizeOf147
  v46 := Tryd.zeroValue147
  t51 := Tryd.underlying171
  a51 := Tryd.isAgg171
  z51 := Tryd.sizeOf171
  v51 := Tryd.zeroValue171
  t53 := Tryd.underlying76
  a53 := Tryd.isAgg76
  z53 := Tryd.sizeOf76
  v53 := Tryd.zeroValue76 }
/-- bits.Len: "Len returns the minimum number of bits required to represent x; the result is 0 for x == 0.": IT RETURNS 'Lib.bitLen x'; the world is as it was. (A uint has 64 bits in the model.) ITS CALLEE bits.Len64 IS MET BY ITS OWN CONTRACT OFF THE SHELF (lay that first). (LAID: no walk: one application.) -/
theorem Tryd.bits_Len (x : Int) (w : World) (h0 : 0 ≤ x) (h1 : x ≤ 18446744073709551615) :
    Calls Tryd.prog 110 #[.int .u64 x] w fun e w' => e = .returned (.int .i64 (Lib.bitLen x.toNat)) ∧ w' = w := Any.bits_Len Tryd.lays125 x w h0 h1
def Tryd.lays185_ren : Go.Shelf.Ren := ⟨fun | 185 => 80 | 187 => 92 | 115 => 93 | 253 => 94 | 224 => 95 | 254 => 96 | 255 => 105 | 291 => 106 | n => n, fun | 37 => 34 | 3 => 3 | 4 => 4 | 0 => 0 | 5 => 5 | 46 => 147 | 9 => 9 | 146 => 172 | 51 => 171 | n => n, fun | 1 => 0 | n => n⟩
theorem Tryd.lays185 : Go.Proofs.Lays.n185 Tryd.prog Tryd.lays185_ren := {
  mixed := by kernel_rfl
  f115 := Tryd.func93.trans (congrArg some (by kernel_rfl))
  f185 := Tryd.func80.trans (congrArg some (by kernel_rfl))
  f187 := Tryd.func92.trans (congrArg some (by kernel_rfl))
  f224 := Tryd.func95.trans (congrArg some (by kernel_rfl))
  f253 := Tryd.func94.trans (congrArg some (by kernel_rfl))
  f254 := Tryd.func96.trans (congrArg some (by kernel_rfl))
  f255 := Tryd.func105.trans (congrArg some (by kernel_rfl))
  f291 := Tryd.func106.trans (congrArg some (by kernel_rfl))
  t0 := Tryd.underlying0
  a0 := Tryd.isAgg0
  z0 := Tryd.sizeOf0
  v0 := Tryd.zeroValue0
  t3 := Tryd.underlying3
  a3 := Tryd.isAgg3
  z3 := Tryd.sizeOf3
  v3 := Tryd.zeroValue3
  t4 := Tryd.underlying4
  a4 := Tryd.isAgg4
  z4 := Tryd.sizeOf4
  v4 := Tryd.zeroValue4
  t5 := Tryd.underlying5
  a5 := Tryd.isAgg5
  z5 := Tryd.sizeOf5
  v5 := Tryd.zeroValue5
  t9 := Tryd.underlying9
  a9 := Tryd.isAgg9
  z9 := Tryd.sizeOf9
  v9 := Tryd.zeroValue9
  t37 := Tryd.underlying34
  a37 := Tryd.isAgg34
  z37 := Tryd.sizeOf34
  v37 := Tryd.zeroValue34
  t46 := Tryd.underlying147
  a46 := Tryd.isAgg147
  z46 := Tryd.sizeOf147
  v46 := Tryd.zeroValue147
  t51 := Tryd.underlying171
  a51 := Tryd.isAgg171
  z51 := Tryd.sizeOf171
  v51 := Tryd.zeroValue171
  t146 := Tryd.underlying172
  a146 := Tryd.isAgg172
  z146 := Tryd.sizeOf172
  v146 := Tryd.zeroValue172
  g1 := by kernel_rfl }
def Tryd.laysSlB13_ren : Go.Shelf.Ren := ⟨fun | 13 => 79 | 24 => 90 | 25 => 91 | 12 => 80 | 31 => 104 | 19 => 92 | 20 => 93 | 21 => 94 | 22 => 95 | 23 => 96 | 29 => 105 | 30 => 106 | n => n, fun | 22 => 34 | 3 => 3 | 4 => 4 | 0 => 0 | 5 => 5 | 9 => 9 | 33 => 147 | 40 => 172 | 39 => 171 | n => n, fun | 0 => 0 | n => n⟩
theorem Tryd.laysSlB13 : Go.Proofs.SlLaysB.n13 Tryd.prog Tryd.laysSlB13_ren := {
  mixed := by kernel_rfl
  f13 := Tryd.func79.trans (congrArg some (by kernel_rfl))
  f25 := Tryd.func91.trans (congrArg some (by kernel_rfl))
  t0 := Tryd.underlying0
  a0 := Tryd.isAgg0
  z0 := Tryd.sizeOf0
  v0 := Tryd.zeroValue0
  t3 := Tryd.underlying3
  a3 := Tryd.isAgg3
  z3 := Tryd.sizeOf3
  v3 := Tryd.zeroValue3
  t4 := Tryd.underlying4
  a4 := Tryd.isAgg4
  z4 := Tryd.sizeOf4
  v4 := Tryd.zeroValue4
  t5 := Tryd.underlying5
  a5 := Tryd.isAgg5
  z5 := Tryd.sizeOf5
  v5 := Tryd.zeroValue5
  t22 := Tryd.underlying34
  a22 := Tryd.isAgg34
  z22 := Tryd.sizeOf34
  v22 := Tryd.zeroValue34 }
open Go.RowKit Go.Lib in
/-- The same, s AT WHATEVER ADDRESS, its cells as 'open_ints' hands them ('a.add i'). (LAID: no walk: one application.) -/
theorem Tryd.bytes_Count_one_at (a : Addr) (n c b2 o2 d : Nat) (xs : List Int) (cv : Int) (w : World) (hx : xs.length = n) (hc : ∀ i, i < n → w.cell? (a.add i) = some (.int .u8 (xs.getD i 0))) (hc2 : w.cell? ⟨b2, o2, none⟩ = some (.int .u8 cv)) :
    Calls Tryd.prog 79 #[.slice (some a) n c, .slice (some ⟨b2, o2, none⟩) 1 d] w fun e w' => e = .returned (.int .i64 (Lib.countByte (Lib.bytesOf xs) cv.toNat.toUInt8)) ∧ w' = w := Any.bytes_Count_one_at Tryd.laysSlB13 a n c b2 o2 d xs cv w hx hc hc2
open Go.RowKit Go.Lib in
/-- The same where s is nil: 0. (LAID: no walk: one application.) -/
theorem Tryd.bytes_Count_one_nil (b2 o2 d : Nat) (cv : Int) (w : World) (hc2 : w.cell? ⟨b2, o2, none⟩ = some (.int .u8 cv)) :
    Calls Tryd.prog 79 #[.slice none 0 0, .slice (some ⟨b2, o2, none⟩) 1 d] w fun e w' => e = .returned (.int .i64 0) ∧ w' = w := Any.bytes_Count_one_nil Tryd.laysSlB13 b2 o2 d cv w hc2
open Go.RowKit Go.Lib in
/-- bytes.Index at a separator of one byte, s at whatever address. (LAID: no walk: one application.) -/
theorem Tryd.bytes_Index_one_at (a : Addr) (n c b2 o2 d : Nat) (xs : List Int) (cv : Int) (w : World) (hx : xs.length = n) (hc : ∀ i, i < n → w.cell? (a.add i) = some (.int .u8 (xs.getD i 0))) (hc2 : w.cell? ⟨b2, o2, none⟩ = some (.int .u8 cv)) :
    Calls Tryd.prog 80 #[.slice (some a) n c, .slice (some ⟨b2, o2, none⟩) 1 d] w fun e w' => e = .returned (.int .i64 (Lib.indexByte (Lib.bytesOf xs) cv.toNat.toUInt8)) ∧ w' = w := Any.bytes_Index_one_at Tryd.lays185 a n c b2 o2 d xs cv w hx hc hc2
open Go.Proofs Go.RowKit Go.Lib in
/-- bytes.Index, WHOLE: "Index returns the index of the first instance of sep in s, or -1 if sep is not present in s.": 'Lib.index' of the two lists of bytes. (LAID: no walk: one application.) -/
theorem Tryd.bytes_Index_at (a1 a2 : Addr) (n c1 k c2 : Nat) (xs ys : List Int) (m : Int) (w : World) (hx : xs.length = n) (hy : ys.length = k) (hr1 : ∀ x ∈ xs, 0 ≤ x ∧ x < 256) (hr2 : ∀ y ∈ ys, 0 ≤ y ∧ y < 256) (hc1 : ∀ i, i < n → w.cell? (a1.add i) = some (.int .u8 (xs.getD i 0))) (hc2 : ∀ i, i < k → w.cell? (a2.add i) = some (.int .u8 (ys.getD i 0))) (hcap : n ≤ c1) (hs : n < 4294967281) (hk : k ≤ 9223372036854775807) (hm : w.cell? ⟨0, 0, none⟩ = some (.int .i64 m)) :
    Calls Tryd.prog 80 #[.slice (some a1) n c1, .slice (some a2) k c2] w fun e w' => e = .returned (.int .i64 (Lib.index (Lib.bytesOf xs) (Lib.bytesOf ys))) ∧ ∃ q, w' = w.drewN q := Any.bytes_Index_at Tryd.lays185 a1 a2 n c1 k c2 xs ys m w hx hy hr1 hr2 hc1 hc2 hcap hs hk hm
def Tryd.laysM185_ren : Go.Shelf.Ren := ⟨fun | 185 => 80 | 187 => 92 | 115 => 93 | 253 => 94 | 224 => 95 | 254 => 96 | 255 => 105 | 291 => 106 | n => n, fun | 37 => 34 | 3 => 3 | 4 => 4 | 0 => 0 | 5 => 5 | 46 => 147 | 9 => 9 | 146 => 172 | 51 => 171 | n => n, fun | 1 => 0 | n => n⟩
theorem Tryd.laysM185 : Go.Proofs.LaysM.n185 Tryd.prog Tryd.laysM185_ren := {
  mixed := by kernel_rfl
  f115 := Tryd.func93.trans (congrArg some (by kernel_rfl))
  f185 := Tryd.func80.trans (congrArg some (by kernel_rfl))
  f187 := Tryd.func92.trans (congrArg some (by kernel_rfl))
  f224 := Tryd.func95.trans (congrArg some (by kernel_rfl))
  f253 := Tryd.func94.trans (congrArg some (by kernel_rfl))
  f254 := Tryd.func96.trans (congrArg some (by kernel_rfl))
  f255 := Tryd.func105.trans (congrArg some (by kernel_rfl))
  f291 := Tryd.func106.trans (congrArg some (by kernel_rfl))
  t0 := Tryd.underlying0
  a0 := Tryd.isAgg0
  z0 := Tryd.sizeOf0
  v0 := Tryd.zeroValue0
  t3 := Tryd.underlying3
  a3 := Tryd.isAgg3
  z3 := Tryd.sizeOf3
  v3 := Tryd.zeroValue3
  t4 := Tryd.underlying4
  a4 := Tryd.isAgg4
  z4 := Tryd.sizeOf4
  v4 := Tryd.zeroValue4
  t5 := Tryd.underlying5
  a5 := Tryd.isAgg5
  z5 := Tryd.sizeOf5
  v5 := Tryd.zeroValue5
  t9 := Tryd.underlying9
  a9 := Tryd.isAgg9
  z9 := Tryd.sizeOf9
  v9 := Tryd.zeroValue9
  t37 := Tryd.underlying34
  a37 := Tryd.isAgg34
  z37 := Tryd.sizeOf34
  v37 := Tryd.zeroValue34
  t46 := Tryd.underlying147
  a46 := Tryd.isAgg147
  z46 := Tryd.sizeOf147
  v46 := Tryd.zeroValue147
  t51 := Tryd.underlying171
  a51 := Tryd.isAgg171
  z51 := Tryd.sizeOf171
  v51 := Tryd.zeroValue171
  t146 := Tryd.underlying172
  a146 := Tryd.isAgg172
  z146 := Tryd.sizeOf172
  v146 := Tryd.zeroValue172
  g1 := by kernel_rfl
  i0 := by kernel_rfl
  i3 := by kernel_rfl
  i4 := by kernel_rfl
  i5 := by kernel_rfl
  i9 := by kernel_rfl
  i37 := by kernel_rfl
  i46 := by kernel_rfl
  i51 := by kernel_rfl
  i146 := by kernel_rfl
  m1 := by kernel_rfl
  s1_3 := fun w h => Go.Proofs.cell_of_shapedOpen_int (zero := #[.int .i64 0]) (t := 3) h (of_decide_eq_true (by kernel_rfl)) (by kernel_rfl) rfl (by kernel_rfl) (by kernel_rfl) Tryd.underlying3 }
def Tryd.laysSlC13_ren : Go.Shelf.Ren := ⟨fun | 13 => 79 | 24 => 90 | 25 => 91 | 12 => 80 | 31 => 104 | 19 => 92 | 20 => 93 | 21 => 94 | 22 => 95 | 23 => 96 | 29 => 105 | 30 => 106 | n => n, fun | 22 => 34 | 3 => 3 | 4 => 4 | 0 => 0 | 5 => 5 | 9 => 9 | 33 => 147 | 40 => 172 | 39 => 171 | n => n, fun | 0 => 0 | n => n⟩
theorem Tryd.laysSlC13 : Go.Proofs.SlLaysC.n13 Tryd.prog Tryd.laysSlC13_ren := {
  mixed := by kernel_rfl
  f12 := Tryd.func80.trans (congrArg some (by kernel_rfl))
  f13 := Tryd.func79.trans (congrArg some (by kernel_rfl))
  f19 := Tryd.func92.trans (congrArg some (by kernel_rfl))
  f20 := Tryd.func93.trans (congrArg some (by kernel_rfl))
  f21 := Tryd.func94.trans (congrArg some (by kernel_rfl))
  f22 := Tryd.func95.trans (congrArg some (by kernel_rfl))
  f23 := Tryd.func96.trans (congrArg some (by kernel_rfl))
  f25 := Tryd.func91.trans (congrArg some (by kernel_rfl))
  f29 := Tryd.func105.trans (congrArg some (by kernel_rfl))
  f30 := Tryd.func106.trans (congrArg some (by kernel_rfl))
  t0 := Tryd.underlying0
  a0 := Tryd.isAgg0
  z0 := Tryd.sizeOf0
  v0 := Tryd.zeroValue0
  t3 := Tryd.underlying3
  a3 := Tryd.isAgg3
  z3 := Tryd.sizeOf3
  v3 := Tryd.zeroValue3
  t4 := Tryd.underlying4
  a4 := Tryd.isAgg4
  z4 := Tryd.sizeOf4
  v4 := Tryd.zeroValue4
  t5 := Tryd.underlying5
  a5 := Tryd.isAgg5
  z5 := Tryd.sizeOf5
  v5 := Tryd.zeroValue5
  t9 := Tryd.underlying9
  a9 := Tryd.isAgg9
  z9 := Tryd.sizeOf9
  v9 := Tryd.zeroValue9
  t22 := Tryd.underlying34
  a22 := Tryd.isAgg34
  z22 := Tryd.sizeOf34
  v22 := Tryd.zeroValue34
  t33 := Tryd.underlying147
  a33 := Tryd.isAgg147
  z33 := Tryd.sizeOf147
  v33 := Tryd.zeroValue147
  t39 := Tryd.underlying171
  a39 := Tryd.isAgg171
  z39 := Tryd.sizeOf171
  v39 := Tryd.zeroValue171
  t40 := Tryd.underlying172
  a40 := Tryd.isAgg172
  z40 := Tryd.sizeOf172
  v40 := Tryd.zeroValue172
  g0 := by kernel_rfl }
open Go.RowKit Go.Lib in
/-- bytes.Count at a separator of two bytes or more: "Count counts the number of non-overlapping instances of sep in s.": 'Lib.count' of the two lists of bytes. (LAID: no walk: one application.) -/
theorem Tryd.bytes_Count_at (a1 a2 : Addr) (n c1 k c2 : Nat) (xs ys : List Int) (m : Int) (w : World) (hx : xs.length = n) (hy : ys.length = k) (hr1 : ∀ x ∈ xs, 0 ≤ x ∧ x < 256) (hr2 : ∀ y ∈ ys, 0 ≤ y ∧ y < 256) (hc1 : ∀ i, i < n → w.cell? (a1.add i) = some (.int .u8 (xs.getD i 0))) (hc2 : ∀ i, i < k → w.cell? (a2.add i) = some (.int .u8 (ys.getD i 0))) (hcap : n ≤ c1) (hs : n < 4294967281) (hk : k ≤ 9223372036854775807) (h2 : 2 ≤ k) (hm : w.cell? ⟨0, 0, none⟩ = some (.int .i64 m)) :
    Calls Tryd.prog 79 #[.slice (some a1) n c1, .slice (some a2) k c2] w fun e w' => e = .returned (.int .i64 (Lib.count (Lib.bytesOf xs) (Lib.bytesOf ys))) ∧ ∃ q, w' = w.drewN q := Any.bytes_Count_at Tryd.laysSlC13 a1 a2 n c1 k c2 xs ys m w hx hy hr1 hr2 hc1 hc2 hcap hs hk h2 hm
open Go.RowKit Go.Lib in
/-- bytes.Count at a separator of two bytes or more where s is nil: 0. (LAID: no walk: one application.) -/
theorem Tryd.bytes_Count_nil (p2 : Option Addr) (k c2 : Nat) (w : World) (h2 : 2 ≤ k) (hk : k ≤ 9223372036854775807) :
    Calls Tryd.prog 79 #[.slice none 0 0, .slice p2 k c2] w fun e w' => e = .returned (.int .i64 0) ∧ w' = w := Any.bytes_Count_nil Tryd.laysSlC13 p2 k c2 w h2 hk
end Go.Proofs

/- General lemmas over the model, for any program: array indexing, min and max, results of four values, small arithmetic. -/
namespace Go
@[go_sem] theorem run_index_arr {P : Program} (w : World) (t : TypeId) (cs : Array Value) (k : IntKind) (i : Int) (h : P.underlying t = some (.array (P.arrayLen t) (P.elem t))) :
    (Instr.index t (.agg cs) (.int k i)).run P w =
      if 0 ≤ i ∧ i < P.arrayLen t then ((sizeOf (P.elem t)).run P w).andThen fun s w => (part (P.elem t) cs (i.toNat * s)).run P w
      else (boundsPanic k i (P.arrayLen t) .index).run P w := by
  simp [Instr.index, run_underlying h, asIntOf]
@[go_sem] theorem run_part {P : Program} (w : World) (t : TypeId) (cs : Array Value) (off : Nat) :
    (part t cs off).run P w = ((isAgg t).run P w).andThen fun b w => if b then ((sizeOf t).run P w).andThen fun s w => .ok (.agg (cs.extract off (off + s))) w else
      match cs[off]? with | some v => .ok v w | none => .halt (.stuck "part: no such cell") w := by
  simp only [part, Sem.run_bind]
  congr 1
  funext b w
  cases b
  · simp only [Bool.false_eq_true, if_false]
    cases cs[off]? <;> rfl
  · simp
@[go_sem high] theorem run_max_int2' {P : Program} (w : World) (ts : Array TypeId) (t : TypeId) (k k' : IntKind) (x y : Int) : (Builtin.max_ ts t #[.int k x, .int k' y]).run P w = .ok (.int k (max x y)) w := by
  rw [run_max_int2]
  congr 2
  omega
@[go_sem high] theorem run_min_int2' {P : Program} (w : World) (ts : Array TypeId) (t : TypeId) (k k' : IntKind) (x y : Int) : (Builtin.min_ ts t #[.int k x, .int k' y]).run P w = .ok (.int k (min x y)) w := by
  rw [run_min_int2]
  congr 2
  omega
@[go_sem high] theorem run_max_int3' {P : Program} (w : World) (ts : Array TypeId) (t : TypeId) (k k' k'' : IntKind) (x y z : Int) : (Builtin.max_ ts t #[.int k x, .int k' y, .int k'' z]).run P w = .ok (.int k (max (max x y) z)) w := by
  rw [run_max_int3]
  congr 2
  omega
@[go_sem high] theorem run_min_int3' {P : Program} (w : World) (ts : Array TypeId) (t : TypeId) (k k' k'' : IntKind) (x y z : Int) : (Builtin.min_ ts t #[.int k x, .int k' y, .int k'' z]).run P w = .ok (.int k (min (min x y) z)) w := by
  rw [run_min_int3]
  congr 2
  omega
end Go
namespace Go.Proofs.YtehbjhocgnfpmaaDoor
open Go.RowKit
/-- A fact kept from the walk. -/
theorem hid {p : Prop} (h : p) : Hid p := h
/-- The world w' is W with new blocks behind it, and draws made: of what was there nothing has turned. -/
def Ext (W w' : World) : Prop := Below W.heap.size W w'
theorem Ext.refl (W : World) : Ext W W := Below.refl _ _
theorem Ext.trans {a b c : World} (h : Ext a b) (k : Ext b c) : Ext a c := Below.trans h (Below.mono k h.size)
theorem Ext.drew {W w : World} (h : Ext W w) : Ext W w.drew := Below.drew h
theorem Ext.drewN {W w : World} {n : Nat} (h : Ext W w) : Ext W (w.drewN n) := ⟨h.os, h.tape, h.output, h.size, h.block⟩
theorem Ext.alloc {W w : World} (h : Ext W w) (o : Obj) : Ext W (w.alloc o) := Below.alloc h h.size o
theorem Ext.setCell {W w : World} (h : Ext W w) {a : Addr} (ha : W.heap.size ≤ a.block) (v : Value) : Ext W (w.setCell a v) := Below.setCell h ha v
theorem Ext.sz {W w : World} (h : Ext W w) : W.heap.size ≤ w.heap.size := h.size
theorem Ext.at {W w : World} (h : Ext W w) {k : Nat} (hk : k < W.heap.size) : w.heap[k]? = W.heap[k]? := h.block k hk
theorem Ext.cell {W w : World} (h : Ext W w) {p : Addr} {v : Value} (hp : W.cell? p = some v) : w.cell? p = some v :=
  (Below.cell h (World.block_lt_of_cell? W p hp)).trans hp
theorem ret_int {k : IntKind} {a b : Int} (h : a = b) : Ending.returned (.int k a) = .returned (.int k b) := by rw [h]
theorem ret_bool {a b : Bool} (h : a = b) : Ending.returned (.bool a) = .returned (.bool b) := by rw [h]

end Go.Proofs.YtehbjhocgnfpmaaDoor

/- And, or, exclusive or of ints that are not negative. -/
namespace Go
open Go.RowKit
theorem toNat_i64 (a : Nat) (ha : a < 9223372036854775808) : (BitVec.ofInt 64 (a : Int)).toNat = a := by
  rw [BitVec.ofInt_natCast, BitVec.toNat_ofNat]; exact Nat.mod_eq_of_lt (by omega)
theorem wrap_i64_nat (x : Nat) (h : x < 9223372036854775808) : IntKind.i64.wrap (x : Int) = (x : Int) := by
  simp [IntKind.wrap, IntKind.signed, IntKind.bits]; omega
theorem bits_or_i64_nat (a b : Nat) (ha : a < 9223372036854775808) (hb : b < 9223372036854775808) : bits .or .i64 (a : Int) (b : Int) = ((a ||| b : Nat) : Int) := by
  show IntKind.i64.wrap ((BitVec.ofInt 64 (a : Int) ||| BitVec.ofInt 64 (b : Int)).toNat : Int) = _
  rw [BitVec.toNat_or, toNat_i64 a ha, toNat_i64 b hb]
  exact wrap_i64_nat _ (Nat.lt_of_lt_of_le (Nat.or_lt_two_pow (n := 63) (by omega) (by omega)) (by decide))
/-- Two to a small power, reckoned as ints are. -/
theorem pow_i64 (k : Nat) (h : k < 63) : wrap64 ((2 : Int) ^ k) = ((2 ^ k : Nat) : Int) := by
  have h1 : 2 ^ k ≤ 2 ^ 62 := Nat.pow_le_pow_right (by omega) (by omega)
  rw [show (2 : Int) ^ k = ((2 ^ k : Nat) : Int) by push_cast; rfl]
  generalize 2 ^ k = x at h1
  unfold wrap64
  omega
theorem mask_i64 (k : Nat) (h : k < 63) : wrap64 (wrap64 ((2 : Int) ^ k) - 1) = ((2 ^ k - 1 : Nat) : Int) := by
  have h1 : 2 ^ k ≤ 2 ^ 62 := Nat.pow_le_pow_right (by omega) (by omega)
  have h0 := Nat.two_pow_pos k
  rw [pow_i64 k h]
  generalize 2 ^ k = x at h1 h0
  unfold wrap64
  omega
end Go

/- The walks of quant.Round, of tint.three, tint.To, tint.From (all samples in their bounds), and of mezzotintref.Rest. -/
namespace Go.Proofs.YtehbjhocgnfpmaaDoor
open Go.RowKit

end Go.Proofs.YtehbjhocgnfpmaaDoor

/- Rows of ints as values: the cells of an array or of a block of ints, read, written and handed on whole. -/
namespace Go.Proofs.YtehbjhocgnfpmaaDoor
open Go.RowKit
/-- The number at a place. (Its own word: the walk's simp turns getD into other forms.) -/
def nth (l : List Int) (i : Nat) : Int := l.getD i 0
/-- A row of ints, as cells. -/
def iv (l : List Int) : Array Value := (l.map (Value.int .i64)).toArray
theorem iv_size (l : List Int) : (iv l).size = l.length := by simp [iv]
theorem iv_get (l : List Int) (i : Nat) (h : i < l.length) : (iv l)[i]? = some (.int .i64 (nth l i)) := by
  simp [iv, nth, List.getElem?_eq_getElem h]
theorem iv_set (l : List Int) (i : Nat) (x : Int) : (iv l).setIfInBounds i (.int .i64 x) = iv (l.set i x) := by
  simp [iv, List.map_set]
theorem iv_one (l : List Int) : (iv l).all (·.oneCell') = true := by
  rw [Array.all_eq_true_iff_forall_mem]
  intro v hv
  simp only [iv, List.mem_toArray, List.mem_map] at hv
  obtain ⟨n, _, rfl⟩ := hv
  rfl
theorem all_nth (l m : List Int) (h : l.length = m.length) : ((List.range l.length).all fun i => nth l i == nth m i) = (l == m) := by
  rw [Bool.eq_iff_iff, List.all_eq_true]
  simp only [List.mem_range, beq_iff_eq]
  constructor
  · intro hall
    apply List.ext_getElem h
    intro i h1 h2
    have := hall i h1
    simpa [nth, List.getD, List.getElem?_eq_getElem h1, List.getElem?_eq_getElem h2] using this
  · intro e i _; rw [e]
/-- '==' of two arrays of ints. -/
theorem run_equalIn_iv {P : Program} (w : World) (d : Nat) (t e : TypeId) (n : Nat) (ht : P.underlying t = some (.array n e)) (he : P.underlying e = some (.int .i64)) (hsz : ∀ w, (sizeOf e).run P w = .ok 1 w)
    (xs ys : List Int) (hx : xs.length = n) (hy : ys.length = n) :
    (Op.equalIn (d + 2) t (.agg (iv xs)) (.agg (iv ys))).run P w = .ok (xs == ys) w := by
  rw [← all_nth xs ys (hx.trans hy.symm), hx, List.range_eq_range', Op.equalIn]
  simp only [Sem.run_bind, run_underlying ht, Result.andThen_ok, hsz, Std.Legacy.Range.forIn_eq_forIn_range', Std.Legacy.Range.size, Nat.sub_zero, Nat.add_sub_cancel, Nat.div_one]
  have hl : ∀ i ∈ List.range' 0 n 1, i < n := fun i hi => by simpa using (List.mem_range'_1.1 hi).2
  generalize List.range' 0 n 1 = l at hl ⊢
  induction l with
  | nil => simp
  | cons i l ih =>
    have hi : i < n := hl i (by simp)
    have px : (part e (iv xs) (i * 1)).run P w = .ok (.int .i64 (nth xs i)) w := by
      rw [run_part, Nat.mul_one, iv_get xs i (by omega)]
      simp [isAgg, run_underlying he]
    have py : (part e (iv ys) (i * 1)).run P w = .ok (.int .i64 (nth ys i)) w := by
      rw [run_part, Nat.mul_one, iv_get ys i (by omega)]
      simp [isAgg, run_underlying he]
    have pe : (Op.equalIn (d + 1) e (.int .i64 (nth xs i)) (.int .i64 (nth ys i))).run P w = .ok (nth xs i == nth ys i) w :=
      run_equalIn_int w d e .i64 .i64 _ _ he
    simp only [List.forIn_cons, Sem.run_bind, px, py, pe, Result.andThen_ok, List.all_cons]
    cases hb : (nth xs i == nth ys i)
    · simp
    · simp only [Bool.not_true, Bool.false_eq_true, if_false, Sem.run_pure, Result.andThen_ok, Bool.true_and]
      exact ih fun j hj => hl j (by simp [hj])
/-- Block g of the world holds the row of ints l; it may be written. -/
def Row (w : World) (g : Nat) (l : List Int) : Prop := ∃ t, w.heap[g]? = some (.cells (iv l) t (0, 0))
theorem Row.cell {w : World} {g : Nat} {l : List Int} (h : Row w g l) (i : Nat) (hi : i < l.length) : w.cell? ⟨g, i, none⟩ = some (.int .i64 (nth l i)) := by
  obtain ⟨t, h⟩ := h
  rw [cell_of_row w g i _ t _ h, iv_get l i hi]
theorem Row.free {w : World} {g : Nat} {l : List Int} (h : Row w g l) (i : Nat) : w.frozen? ⟨g, i, none⟩ = false := by
  obtain ⟨t, h⟩ := h
  exact frozen_of_row w g i _ t h
theorem Row.set {w : World} {g : Nat} {l : List Int} (h : Row w g l) (i : Nat) (x : Int) : Row (w.setCell ⟨g, i, none⟩ (.int .i64 x)) g (l.set i x) := by
  obtain ⟨t, h⟩ := h
  exact ⟨t, by rw [heap_setCell_same w g i _ t _ h, iv_set]⟩
theorem Row.setOther {w : World} {g : Nat} {l : List Int} (h : Row w g l) (a : Addr) (v : Value) (hne : g ≠ a.block) : Row (w.setCell a v) g l := by
  obtain ⟨t, h⟩ := h
  exact ⟨t, by rw [heap_setCell_other w a g v hne]; exact h⟩
theorem Row.lt {w : World} {g : Nat} {l : List Int} (h : Row w g l) : g < w.heap.size := by
  obtain ⟨t, h⟩ := h
  exact (Array.getElem?_eq_some_iff.1 h).1
theorem Row.ext {w w' : World} {g : Nat} {l : List Int} (h : Row w g l) (hE : Ext w w') : Row w' g l := by
  have hl := h.lt
  obtain ⟨t, h⟩ := h
  exact ⟨t, by rw [hE.at hl]; exact h⟩
theorem Row.of_heap {w w' : World} {g : Nat} {l : List Int} (h : Row w g l) (hh : w'.heap[g]? = w.heap[g]?) : Row w' g l := by
  obtain ⟨t, h⟩ := h
  exact ⟨t, by rw [hh]; exact h⟩
theorem Row.alloc {w : World} {g : Nat} {l : List Int} (h : Row w g l) (o : Obj) : Row (w.alloc o) g l := h.ext ((Ext.refl w).alloc o)
theorem Row.new (w : World) (l : List Int) (t : TypeId) : Row (w.alloc (.cells (iv l) t)) w.heap.size l := ⟨t, heap_alloc_new w _⟩
/-- A row that is being filled, place by place. -/
def filling (L : List Int) (k : Nat) : List Int := L.take k ++ List.replicate (L.length - k) 0
theorem filling_zero (L : List Int) : filling L 0 = List.replicate L.length 0 := by simp [filling]
theorem filling_len (L : List Int) (k : Nat) (h : k ≤ L.length) : (filling L k).length = L.length := by simp [filling]; omega
theorem filling_all (L : List Int) : filling L L.length = L := by simp [filling]
theorem filling_set (L : List Int) (k : Nat) (h : k < L.length) : (filling L k).set k (nth L k) = filling L (k + 1) := by
  unfold filling
  rw [List.set_append_right _ _ (by simp; omega)]
  have e1 : (List.take k L).length = k := by simp; omega
  rw [e1, Nat.sub_self, List.take_add_one, List.getElem?_eq_getElem h]
  have e2 : L.length - k = (L.length - (k + 1)) + 1 := by omega
  rw [e2, List.replicate_succ, List.set_cons_zero, List.append_assoc]
  simp [nth, List.getD, List.getElem?_eq_getElem h]
/-- The slice value v has n elements of s cells each, which read as the cells cs. -/
def Sl (w : World) (s : Nat) (v : Value) (n : Nat) (cs : List Value) : Prop :=
  cs.length = n * s ∧ ∃ a c, v = .slice a n c ∧ n ≤ c ∧ c ≤ maxLen ∧ (n = 0 ∨ ∃ b off, a = some ⟨b, off, none⟩ ∧ ∀ k, k < n * s → w.cell? ⟨b, off + k, none⟩ = cs[k]?)
theorem Sl.ext {w w' : World} {s : Nat} {v : Value} {n : Nat} {cs : List Value} (h : Sl w s v n cs) (hE : Ext w w') : Sl w' s v n cs := by
  obtain ⟨hl, a, c, hv, h1, h2, h3⟩ := h
  refine ⟨hl, a, c, hv, h1, h2, ?_⟩
  rcases h3 with h3 | ⟨b, off, ha, hc⟩
  · exact .inl h3
  · refine .inr ⟨b, off, ha, fun k hk => ?_⟩
    have h := hc k hk
    rw [List.getElem?_eq_getElem (by omega)] at h ⊢
    exact hE.cell h
theorem Sl.nil (w : World) (s : Nat) : Sl w s (.slice none 0 0) 0 [] := ⟨by simp, none, 0, rfl, Nat.le_refl _, by unfold maxLen; omega, .inl rfl⟩
/-- A row that the call owns, read as a slice. -/
theorem Sl.ofOwn {w : World} {base : Nat} {e : TypeId} {s : Nat} {v : Value} {n : Nat} {xs : List Value} (h : w.ownsRow base e s v n xs) : Sl w s v n xs := by
  obtain ⟨hl, h⟩ := h
  refine ⟨hl, ?_⟩
  rcases h with ⟨rfl, rfl⟩ | ⟨g, cap, cur, rfl, hb, hg, hn, hc, hsz, htake⟩
  · exact ⟨none, 0, rfl, Nat.le_refl _, by unfold maxLen; omega, .inl rfl⟩
  · refine ⟨_, _, rfl, hn, hc, .inr ⟨g, 0, rfl, fun k hk => ?_⟩⟩
    rw [Nat.zero_add, cell_of_row w g k cur e _ hg, ← htake, List.getElem?_take, if_pos hk]
    simp
theorem Sl.of_row {w : World} {g : Nat} {l : List Int} (h : Row w g l) (hn : l.length ≤ maxLen) : Sl w 1 (.slice (some ⟨g, 0, none⟩) l.length l.length) l.length (l.map (Value.int .i64)) := by
  refine ⟨by simp, _, _, rfl, Nat.le_refl _, hn, .inr ⟨g, 0, rfl, fun k hk => ?_⟩⟩
  rw [Nat.zero_add, h.cell k (by omega), List.getElem?_map, List.getElem?_eq_getElem (by omega)]
  simp [nth, List.getElem?_eq_getElem (show k < l.length by omega)]
/-- A slice of ints. -/
def ISl (w : World) (v : Value) (xs : List Int) : Prop := Sl w 1 v xs.length (xs.map (Value.int .i64))
theorem ISl.open {w : World} {v : Value} {xs : List Int} (h : ISl w v xs) : ∃ a c, v = .slice a xs.length c ∧ xs.length ≤ c ∧ c ≤ 9223372036854775807 ∧
    (∀ i, i < xs.length → ∃ b off, a = some ⟨b, off, none⟩ ∧ ∀ k, k < xs.length → w.cell? ⟨b, off + k, none⟩ = some (.int .i64 (nth xs k))) := by
  obtain ⟨_, a, c, hv, h1, h2, h3⟩ := h
  refine ⟨a, c, hv, h1, by unfold maxLen at h2; exact h2, fun i hi => ?_⟩
  rcases h3 with h3 | ⟨b, off, ha, hc⟩
  · omega
  · refine ⟨b, off, ha, fun k hk => ?_⟩
    rw [hc k (by omega), List.getElem?_map, List.getElem?_eq_getElem hk]
    simp [nth, List.getD, List.getElem?_eq_getElem hk]
theorem ISl.of_row {w : World} {g : Nat} {l : List Int} {n : Nat} (h : Row w g l) (hl : l.length = n) (hn : n ≤ maxLen) : ISl w (.slice (some ⟨g, 0, none⟩) n n) l := by
  subst hl; exact Sl.of_row h hn
theorem rangeAt_ext {w w' : World} {b o : Nat} {cs : List Value} (h : w.rangeAt b o cs) (hE : Ext w w') : w'.rangeAt b o cs := fun j v hv => hE.cell (h j v hv)
theorem Row.range {w : World} {g : Nat} {l : List Int} (h : Row w g l) : w.rangeAt g 0 (l.map (Value.int .i64)) := fun j v hv => by
  obtain ⟨t, h⟩ := h
  rw [cell_of_row w g _ _ t _ h, Nat.zero_add]
  simpa [iv] using hv
end Go.Proofs.YtehbjhocgnfpmaaDoor

/- A region that draws its order, walked once, in the order of the text: each operation gives one and the same value in every world that meets an invariant, keeps the invariant, and looks only at slots that its own edges fix. -/
namespace Go
section
variable {P : Program} {Q : Exit → Act → World → Prop}
/-- What one operation comes to: the act a1, in a world that meets I. -/
def FreeOne (I : World → Prop) (a1 : Act) : Exit → Act → World → Prop
  | .normal, a', w' => a' = a1 ∧ I w'
  | _, _, _ => False
theorem freeOne_out (I : World → Prop) (a1 : Act) : ¬ LetsOut (FreeOne I a1) := fun ⟨_, _, h⟩ => h
theorem put_inj {a : Act} {dst : Option Tmp} {v u : Value} (h : a.put dst v = a.put dst u) (b : Act) (hb : b.tmps.size = a.tmps.size) : b.put dst v = b.put dst u := by
  cases dst with
  | none => rfl
  | some d =>
    by_cases hd : d < a.tmps.size
    · have h1 : (a.put (some d) v).tmps[d]? = (a.put (some d) u).tmps[d]? := by rw [h]
      simp [Act.put, hd] at h1
      rw [h1]
    · simp only [Act.put]
      have hd2 : b.tmps.size ≤ d := by rw [hb]; exact Nat.le_of_not_lt hd
      rw [Array.setIfInBounds_eq_of_size_le hd2, Array.setIfInBounds_eq_of_size_le hd2]
theorem put_defers_ne {a : Act} {dst : Option Tmp} {v u : Value} {d : Deferred} (h : ({ a with defers := d :: a.defers } : Act).put dst v = a.put dst u) : False := by
  have h1 : (({ a with defers := d :: a.defers } : Act).put dst v).defers = (a.put dst u).defers := by rw [h]
  cases dst <;> simp [Act.put] at h1
/-- One operation at an act that looks the same to it. -/
theorem free_op {ops : Array Oper} {o : Oper} {I : World → Prop} {a b : Act} {v : Value} {w : World} {i : Nat} (ho : ops[i]? = some o)
    (h : wpList P ops (FreeOne I (a.put o.dst v)) [o] a w) (he : execOp b.eval o = execOp a.eval o)
    (hw : Region.wanted o (yielded ops b.tmps) = Region.wanted o (yielded ops a.tmps)) (hb : b.tmps.size = a.tmps.size)
    {K : Act → World → Prop} (hK : ∀ w', I w' → K (b.put o.dst v) w') : wpOp P ops Q i K b w := by
  unfold wpOp
  rw [ho]
  dsimp only
  rw [hw]
  simp only [wpList] at h
  split
  · rename_i hwt
    rw [if_pos hwt] at h
    rcases h with h | ⟨_, h⟩
    · left
      unfold Oper.wp at h ⊢
      rw [he]
      generalize (execOp a.eval o).run P w = r at h ⊢
      cases r with
      | ok n w' =>
        cases n <;> simp only [Oper.upon] at h ⊢
        case value u => rw [put_inj h.1 b hb]; exact hK _ h.2
        case skip => rw [put_inj h.1 b hb]; exact hK _ h.2
        case defer d => exact (put_defers_ne h.1).elim
        case enter f args =>
          refine Calls.mono h fun e w'' q => ?_
          cases e with
          | returned u => dsimp only at q ⊢; rw [put_inj q.1 b hb]; exact hK _ q.2
          | panicked chain => exact q.elim
          | outgrown => exact (freeOne_out _ _ q).elim
        case row row args => exact Rows.mono h fun u w'' q => by rw [put_inj q.1 b hb]; exact hK _ q.2
      | halt x w' => cases x <;> simp only [Oper.upon] at h ⊢ <;> exact h.elim
    · exact (freeOne_out _ _ h).elim
  · rename_i hwt
    rw [if_neg hwt] at h
    rw [put_inj h.1 b hb]
    exact hK _ h.2
/-- What an operation comes to is a put. -/
theorem free_put {ops : Array Oper} {o : Oper} {I : World → Prop} {a a1 : Act} {w : World} (h : wpList P ops (FreeOne I a1) [o] a w) : (∃ v, a1 = a.put o.dst v) ∨ (∃ d, a1 = ({ a with defers := d :: a.defers } : Act).put o.dst undef) := by
  simp only [wpList] at h
  split at h
  · rcases h with h | ⟨_, h⟩
    · unfold Oper.wp at h
      generalize (execOp a.eval o).run P w = r at h
      cases r with
      | ok n w' =>
        cases n <;> simp only [Oper.upon] at h
        case value u => exact .inl ⟨u, h.1.symm⟩
        case skip => exact .inl ⟨_, h.1.symm⟩
        case defer d => exact .inr ⟨d, h.1.symm⟩
        case enter f args =>
          obtain ⟨e, w'', fr, q, _⟩ := h []
          cases e with
          | returned u => exact .inl ⟨u, q.1.symm⟩
          | panicked chain => exact q.elim
          | outgrown => exact (freeOne_out _ _ q).elim
        case row row args =>
          obtain ⟨u, w'', q, _⟩ := h default []
          exact .inl ⟨u, q.1.symm⟩
      | halt x w' => cases x <;> simp only [Oper.upon] at h <;> exact h.elim
    · exact (freeOne_out _ _ h).elim
  · exact .inl ⟨_, h.1.symm⟩
end
section
variable {P : Program} {Q : Exit → Act → World → Prop}
end
section
variable {P : Program} {ops : Array Oper} {rest : List Oper} {o : Oper} {a : Act} {w : World} {Q : Exit → Act → World → Prop}
end
end Go

/- Blocks known whole, of whatever cells; a byte's and a struct's row that the call owns. -/
namespace Go.Proofs.YtehbjhocgnfpmaaDoor
open Go.RowKit
/-- Block g of the world holds the cells cs; it may be written. -/
def Blk (w : World) (g : Nat) (cs : Array Value) : Prop := ∃ t, w.heap[g]? = some (.cells cs t (0, 0))
theorem Blk.cell {w : World} {g : Nat} {cs : Array Value} (h : Blk w g cs) (i : Nat) : w.cell? ⟨g, i, none⟩ = cs[i]? := by
  obtain ⟨t, h⟩ := h
  rw [cell_of_row w g i _ t _ h]
theorem Blk.free {w : World} {g : Nat} {cs : Array Value} (h : Blk w g cs) (i : Nat) : w.frozen? ⟨g, i, none⟩ = false := by
  obtain ⟨t, h⟩ := h
  exact frozen_of_row w g i _ t h
theorem Blk.set {w : World} {g : Nat} {cs : Array Value} (h : Blk w g cs) (i : Nat) (x : Value) : Blk (w.setCell ⟨g, i, none⟩ x) g (cs.setIfInBounds i x) := by
  obtain ⟨t, h⟩ := h
  exact ⟨t, by rw [heap_setCell_same w g i _ t _ h]⟩
theorem Blk.lt {w : World} {g : Nat} {cs : Array Value} (h : Blk w g cs) : g < w.heap.size := by
  obtain ⟨t, h⟩ := h
  exact (Array.getElem?_eq_some_iff.1 h).1
theorem Blk.of_heap {w w' : World} {g : Nat} {cs : Array Value} (h : Blk w g cs) (hh : w'.heap[g]? = w.heap[g]?) : Blk w' g cs := by
  obtain ⟨t, h⟩ := h
  exact ⟨t, by rw [hh]; exact h⟩
theorem Blk.new (w : World) (cs : Array Value) (t : TypeId) : Blk (w.alloc (.cells cs t)) w.heap.size cs := ⟨t, heap_alloc_new w _⟩
/-- Bytes as cells. -/
def bv (l : List Nat) : List Value := l.map fun (x : Nat) => .int .u8 (x : Int)
theorem bv_append (a b : List Nat) : bv (a ++ b) = bv a ++ bv b := by simp [bv]
end Go.Proofs.YtehbjhocgnfpmaaDoor

/- What the call owns: blocks known whole and rows that grow, under one word, with a frame rule. -/
namespace Go.Proofs.YtehbjhocgnfpmaaDoor
open Go.RowKit
/-- Of what was there, only the blocks f may have turned. -/
structure Only (f : List Nat) (w w' : World) : Prop where
  os : w'.os = w.os
  tape : w'.tape = w.tape
  output : w'.output = w.output
  size : w.heap.size ≤ w'.heap.size
  block : ∀ k, k < w.heap.size → k ∉ f → w'.heap[k]? = w.heap[k]?
theorem Only.ext {f : List Nat} {W w w' : World} (h : Only f w w') (hE : Ext W w) (hf : ∀ b ∈ f, W.heap.size ≤ b) : Ext W w' :=
  ⟨h.os.trans hE.os, h.tape.trans hE.tape, h.output.trans hE.output, Nat.le_trans hE.size h.size, fun k hk => by
    rw [h.block k (Nat.lt_of_lt_of_le hk hE.size) (fun hm => by have := hf k hm; omega)]; exact hE.block k hk⟩
theorem Only.setCell (w : World) (a : Addr) (v : Value) : Only [a.block] w (w.setCell a v) :=
  ⟨rfl, rfl, rfl, by simp, fun k _ hm => heap_setCell_other w a k v (by simpa using hm)⟩
theorem Only.setRow (w : World) (g : Nat) (cs : Array Value) : Only [g] w (w.setRow g cs) :=
  ⟨rfl, rfl, rfl, by simp, fun k _ hm => setRow_other w g k cs (by simpa using hm)⟩
theorem Only.grown {w w' : World} {row : Option Nat} (h : w.grownBy w' row) : Only row.toList w w' :=
  ⟨h.os, h.tape, h.output, h.size, fun k hk hm => h.block k hk (fun e => hm (by simp [← e]))⟩
/-- A thing that is owned: what holds of the world at the blocks of a footprint, and of nothing else. -/
structure Res where
  holds : World → List Nat → Prop
  lt : ∀ {w f}, holds w f → ∀ b ∈ f, b < w.heap.size
  loc : ∀ {w w' f}, holds w f → (∀ b ∈ f, w'.heap[b]? = w.heap[b]?) → holds w' f
def Hold (w : World) : List Res → List Nat → Prop
  | [], f => f = []
  | r :: rs, f => ∃ f1 f2, f = f1 ++ f2 ∧ r.holds w f1 ∧ Hold w rs f2
theorem Hold.lt {w : World} : ∀ {rs : List Res} {f : List Nat}, Hold w rs f → ∀ b ∈ f, b < w.heap.size
  | [], f, h, b, hb => by rw [show f = [] from h] at hb; cases hb
  | r :: rs, f, ⟨f1, f2, e, h1, h2⟩, b, hb => by
    rw [e, List.mem_append] at hb
    rcases hb with hb | hb
    · exact r.lt h1 b hb
    · exact Hold.lt h2 b hb
theorem Hold.loc {w w' : World} : ∀ {rs : List Res} {f : List Nat}, Hold w rs f → (∀ b ∈ f, w'.heap[b]? = w.heap[b]?) → Hold w' rs f
  | [], f, h, _ => h
  | r :: rs, f, ⟨f1, f2, e, h1, h2⟩, hs => ⟨f1, f2, e, r.loc h1 fun b hb => hs b (by rw [e]; exact List.mem_append_left _ hb), Hold.loc h2 fun b hb => hs b (by rw [e]; exact List.mem_append_right _ hb)⟩
theorem Hold.append {w : World} : ∀ {rs : List Res} {ss : List Res} {f g : List Nat}, Hold w rs f → Hold w ss g → Hold w (rs ++ ss) (f ++ g)
  | [], ss, f, g, h, k => by rw [show f = [] from h]; exact k
  | r :: rs, ss, f, g, ⟨f1, f2, e, h1, h2⟩, k => ⟨f1, f2 ++ g, by rw [e, List.append_assoc], h1, Hold.append h2 k⟩
theorem Hold.split {w : World} : ∀ {rs : List Res} {ss : List Res} {f : List Nat}, Hold w (rs ++ ss) f → ∃ f1 f2, f = f1 ++ f2 ∧ Hold w rs f1 ∧ Hold w ss f2
  | [], ss, f, h => ⟨[], f, rfl, rfl, h⟩
  | r :: rs, ss, f, ⟨f1, f2, e, h1, h2⟩ => by
    obtain ⟨g1, g2, e2, k1, k2⟩ := Hold.split h2
    exact ⟨f1 ++ g1, g2, by rw [e, e2, List.append_assoc], ⟨f1, g1, rfl, h1, k1⟩, k2⟩
/-- r is among them; without it these are left. -/
inductive Pull (r : Res) : List Res → List Res → Prop
  | head {rs : List Res} : Pull r (r :: rs) rs
  | tail {x : Res} {rs rs' : List Res} (h : Pull r rs rs') : Pull r (x :: rs) (x :: rs')
theorem Hold.pull {w : World} {r : Res} {rs rs' : List Res} (p : Pull r rs rs') : ∀ {f : List Nat}, Hold w rs f → ∃ f', f'.Perm f ∧ Hold w (r :: rs') f' := by
  induction p with
  | head => intro f h; exact ⟨f, List.Perm.refl f, h⟩
  | @tail x rs rs' p ih =>
    intro f h
    obtain ⟨f1, f2, e, h1, h2⟩ := h
    obtain ⟨f', hp, g1, g2, e2, k1, k2⟩ := ih h2
    refine ⟨g1 ++ (f1 ++ g2), ?_, g1, f1 ++ g2, rfl, k1, f1, g2, rfl, h1, k2⟩
    rw [e]
    have p1 : (g1 ++ (f1 ++ g2)).Perm (f1 ++ (g1 ++ g2)) := by
      rw [← List.append_assoc, ← List.append_assoc]
      exact List.Perm.append_right g2 List.perm_append_comm
    exact p1.trans (List.Perm.append_left f1 (by rw [← e2]; exact hp))
/-- The world w is W with new blocks, among them all these, each apart from the others. -/
def St (W w : World) (rs : List Res) : Prop := Ext W w ∧ ∃ f, f.Nodup ∧ (∀ b ∈ f, W.heap.size ≤ b) ∧ Hold w rs f
theorem St.start (W : World) : St W W [] := ⟨Ext.refl W, [], List.nodup_nil, fun b hb => (by cases hb), rfl⟩
theorem St.of_ext {W w : World} (h : Ext W w) : St W w [] := ⟨h, [], List.nodup_nil, fun b hb => (by cases hb), rfl⟩
theorem St.ext {W w w' : World} {rs : List Res} (h : St W w rs) (hE : Ext w w') : St W w' rs := by
  obtain ⟨h1, f, h2, h3, h4⟩ := h
  exact ⟨h1.trans hE, f, h2, h3, h4.loc fun b hb => hE.at (h4.lt b hb)⟩
theorem St.drew {W w : World} {rs : List Res} (h : St W w rs) : St W w.drew rs := h.ext (Ext.refl w).drew
theorem St.pull {W w : World} {r : Res} {rs rs' : List Res} (h : St W w rs) (p : Pull r rs rs') : St W w (r :: rs') := by
  obtain ⟨h1, f, h2, h3, h4⟩ := h
  obtain ⟨f', hp, h5⟩ := h4.pull p
  exact ⟨h1, f', hp.nodup_iff.2 h2, fun b hb => h3 b (hp.mem_iff.1 hb), h5⟩
/-- What is in front has turned, and nothing else. -/
theorem St.change {W w w' : World} {r : Res} {rs rs1 : List Res} (h : St W w (r :: rs))
    (hw : ∀ f1, r.holds w f1 → (∀ b ∈ f1, W.heap.size ≤ b) → f1.Nodup → ∃ f', Hold w' rs1 f' ∧ f'.Nodup ∧ (∀ b ∈ f', b ∈ f1 ∨ w.heap.size ≤ b) ∧ Only f1 w w') : St W w' (rs1 ++ rs) := by
  obtain ⟨h1, f, h2, h3, f1, f2, e, h4, h5⟩ := h
  subst e
  obtain ⟨hn1, hn2, hdis⟩ := List.nodup_append.1 h2
  obtain ⟨f', k1, k2, k3, k4⟩ := hw f1 h4 (fun b hb => h3 b (List.mem_append_left _ hb)) hn1
  have hE := k4.ext h1 (fun b hb => h3 b (List.mem_append_left _ hb))
  refine ⟨hE, f' ++ f2, List.nodup_append.2 ⟨k2, hn2, fun a ha b hb hab => ?_⟩, fun b hb => ?_, Hold.append k1 (h5.loc fun b hb => k4.block b (h5.lt b hb) fun hm => hdis b hm b hb rfl)⟩
  · subst hab
    rcases k3 a ha with h | h
    · exact hdis a h a hb rfl
    · have := h5.lt a hb; omega
  · rcases List.mem_append.1 hb with h | h
    · rcases k3 b h with h' | h'
      · exact h3 b (List.mem_append_left _ h')
      · have := h1.sz; omega
    · exact h3 b (List.mem_append_right _ h)
/-- All of xs are among them. -/
inductive Sub : List Res → List Res → Prop
  | nil {rs : List Res} : Sub [] rs
  | refl {rs : List Res} : Sub rs rs
  | skip {x : Res} {xs rs : List Res} (h : Sub xs rs) : Sub xs (x :: rs)
  | cons {r : Res} {xs rs rs' : List Res} (p : Pull r rs rs') (h : Sub xs rs') : Sub (r :: xs) rs
theorem Hold.sub {w : World} {xs rs : List Res} (s : Sub xs rs) : ∀ {f : List Nat}, f.Nodup → Hold w rs f → ∃ f', f'.Nodup ∧ (∀ b ∈ f', b ∈ f) ∧ Hold w xs f' := by
  induction s with
  | nil => intro f _ _; exact ⟨[], List.nodup_nil, fun b hb => (by cases hb), rfl⟩
  | refl => intro f hn h; exact ⟨f, hn, fun b hb => hb, h⟩
  | skip s ih =>
    intro f hn h
    obtain ⟨f1, f2, e, h1, h2⟩ := h
    subst e
    obtain ⟨f3, k1, k2, k3⟩ := ih (List.nodup_append.1 hn).2.1 h2
    exact ⟨f3, k1, fun b hb => List.mem_append_right _ (k2 b hb), k3⟩
  | cons p s ih =>
    intro f hn h
    obtain ⟨f', hp, f1, f2, e, h1, h2⟩ := h.pull p
    have hn' := hp.nodup_iff.2 hn
    subst e
    obtain ⟨n1, n2, hdis⟩ := List.nodup_append.1 hn'
    obtain ⟨f3, k1, k2, k3⟩ := ih n2 h2
    refine ⟨f1 ++ f3, List.nodup_append.2 ⟨n1, k1, fun a ha b hb => hdis a ha b (k2 b hb)⟩, fun b hb => hp.mem_iff.1 ?_, f1, f3, rfl, h1, k3⟩
    rcases List.mem_append.1 hb with h | h
    · exact List.mem_append_left _ h
    · exact List.mem_append_right _ (k2 b h)
theorem St.sub {W w : World} {xs rs : List Res} (h : St W w rs) (s : Sub xs rs) : St W w xs := by
  obtain ⟨h1, f, h2, h3, h4⟩ := h
  obtain ⟨f', k1, k2, k3⟩ := h4.sub s h2
  exact ⟨h1, f', k1, fun b hb => h3 b (k2 b hb), k3⟩
/-- Behind a call that hands on what it has made. -/
theorem St.call {W w w' : World} {rs rs' : List Res} (h : St W w rs) (h' : St w w' rs') : St W w' (rs' ++ rs) := by
  obtain ⟨h1, f, h2, h3, h4⟩ := h
  obtain ⟨k1, g, k2, k3, k4⟩ := h'
  refine ⟨h1.trans k1, g ++ f, List.nodup_append.2 ⟨k2, h2, fun a ha b hb hab => ?_⟩, fun b hb => ?_, Hold.append k4 (h4.loc fun b hb => k1.at (h4.lt b hb))⟩
  · subst hab; have := k3 a ha; have := h4.lt a hb; omega
  · rcases List.mem_append.1 hb with h | h
    · have := k3 b h; have := h1.sz; omega
    · exact h3 b h
theorem St.call1 {W w w' : World} {rs : List Res} {r : Res} (h : St W w rs) (h' : St w w' [r]) : St W w' (r :: rs) := h.call h'
/-- Some things under one word. -/
def bag {ι : Type} (F : ι → List Res) : Res where
  holds w f := ∃ i, Hold w (F i) f
  lt := fun ⟨_, h⟩ => h.lt
  loc := fun ⟨i, h⟩ hs => ⟨i, h.loc hs⟩
theorem St.open {W w : World} {ι : Type} {F : ι → List Res} {rs : List Res} (h : St W w (bag F :: rs)) : ∃ i, St W w (F i ++ rs) := by
  obtain ⟨h1, f, h2, h3, f1, f2, e, ⟨i, h4⟩, h5⟩ := h
  exact ⟨i, h1, f, h2, h3, e ▸ Hold.append h4 h5⟩
theorem St.close {W w : World} {ι : Type} {F : ι → List Res} {rs : List Res} (i : ι) (h : St W w (F i ++ rs)) : St W w (bag F :: rs) := by
  obtain ⟨h1, f, h2, h3, h4⟩ := h
  obtain ⟨f1, f2, e, k1, k2⟩ := h4.split
  exact ⟨h1, f, h2, h3, f1, f2, e, ⟨i, k1⟩, k2⟩
/-- Block g holds these cells. -/
def blk (g : Nat) (cs : List Value) : Res where
  holds w f := f = [g] ∧ Blk w g cs.toArray
  lt := fun ⟨e, h⟩ b hb => by rw [e, List.mem_singleton] at hb; rw [hb]; exact h.lt
  loc := fun ⟨e, h⟩ hs => ⟨e, h.of_heap (hs _ (by rw [e]; simp))⟩
/-- Block g holds n integers. -/
def arr (g n : Nat) (l : List Int) : Res where
  holds w f := f = [g] ∧ Row w g l ∧ l.length = n
  lt := fun ⟨e, h, _⟩ b hb => by rw [e, List.mem_singleton] at hb; rw [hb]; exact h.lt
  loc := fun ⟨e, h, hn⟩ hs => ⟨e, h.of_heap (hs _ (by rw [e]; simp)), hn⟩
/-- The slice at a, of n elements of type e, is the call's own, and its cells are xs. -/
def own (e : TypeId) (s : Nat) (a : Option Addr) (n c : Nat) (xs : List Value) : Res where
  holds w f := f = (Value.slice a n c).ownBlock.toList ∧ w.ownsRow 0 e s (.slice a n c) n xs
  lt := fun ⟨e, h⟩ b hb => (h.lt b (by rw [e] at hb; simpa using hb)).2
  loc := fun {w w' f} ⟨e', h⟩ hs => ⟨e', h.1, h.2.elim .inl fun ⟨g, cap, cur, k1, k2, k3, k4⟩ => .inr ⟨g, cap, cur, k1, k2, (hs g (by rw [e', k1]; simp [Value.ownBlock])).trans k3, k4⟩⟩
theorem St.blk {W w : World} {g : Nat} {cs : List Value} {rs rs' : List Res} (h : St W w rs) (p : Pull (blk g cs) rs rs') : Blk w g cs.toArray ∧ W.heap.size ≤ g := by
  obtain ⟨_, f, _, h3, f1, f2, e, ⟨e1, h4⟩, _⟩ := h.pull p
  exact ⟨h4, h3 g (by rw [e, e1]; simp)⟩
theorem St.arr {W w : World} {g n : Nat} {l : List Int} {rs rs' : List Res} (h : St W w rs) (p : Pull (arr g n l) rs rs') : Row w g l ∧ l.length = n := by
  obtain ⟨_, f, _, h3, f1, f2, e, ⟨e1, h4⟩, _⟩ := h.pull p
  exact h4
theorem St.own {W w : World} {e : TypeId} {s n c : Nat} {a : Option Addr} {xs : List Value} {rs rs' : List Res} (h : St W w rs) (p : Pull (own e s a n c xs) rs rs') : w.ownsRow 0 e s (.slice a n c) n xs := by
  obtain ⟨_, f, _, h3, f1, f2, e, ⟨e1, h4⟩, _⟩ := h.pull p
  exact h4
theorem St.sl {W w : World} {e : TypeId} {s n c : Nat} {a : Option Addr} {xs : List Value} {rs rs' : List Res} (h : St W w rs) (p : Pull (Go.Proofs.YtehbjhocgnfpmaaDoor.own e s a n c xs) rs rs') : Sl w s (.slice a n c) n xs := Sl.ofOwn (h.own p)
theorem St.alloc {W w : World} {rs : List Res} (h : St W w rs) (cs : List Value) (t : TypeId) : St W (w.alloc (.cells cs.toArray t)) (Go.Proofs.YtehbjhocgnfpmaaDoor.blk w.heap.size cs :: rs) := by
  obtain ⟨h1, f, h2, h3, h4⟩ := h
  refine ⟨h1.alloc _, w.heap.size :: f, List.nodup_cons.2 ⟨fun hm => by have := h4.lt _ hm; omega, h2⟩, fun b hb => ?_, [w.heap.size], f, rfl, ⟨rfl, Blk.new w _ t⟩, h4.loc fun b hb => ?_⟩
  · rcases List.mem_cons.1 hb with h | h
    · rw [h]; exact h1.sz
    · exact h3 b h
  · exact heap_alloc_old w _ (h4.lt b hb)
theorem blk_arr {W w : World} {g n : Nat} {l : List Int} {rs : List Res} (hn : l.length = n) (h : St W w (blk g (l.map (Value.int .i64)) :: rs)) : St W w (arr g n l :: rs) := by
  obtain ⟨h1, f, h2, h3, f1, f2, e, ⟨e1, h4⟩, h5⟩ := h
  exact ⟨h1, f, h2, h3, f1, f2, e, ⟨e1, h4, hn⟩, h5⟩
theorem St.allocArr {W w : World} {rs : List Res} (h : St W w rs) (l : List Int) (n : Nat) (hn : l.length = n) (t : TypeId) : St W (w.alloc (.cells (iv l) t)) (Go.Proofs.YtehbjhocgnfpmaaDoor.arr w.heap.size n l :: rs) :=
  blk_arr hn (h.alloc (l.map (Value.int .i64)) t)
/-- A nil slice is everybody's own. -/
theorem St.nil {W w : World} {rs : List Res} (h : St W w rs) (e : TypeId) (s : Nat) : St W w (Go.Proofs.YtehbjhocgnfpmaaDoor.own e s none 0 0 [] :: rs) := by
  obtain ⟨h1, f, h2, h3, h4⟩ := h
  exact ⟨h1, f, h2, h3, [], f, rfl, ⟨rfl, by simp, .inl ⟨rfl, rfl⟩⟩, h4⟩
/-- What a place of a list is turned to. -/
inductive SetAt (v : Value) : Nat → List Value → List Value → Prop
  | head {x : Value} {l : List Value} : SetAt v 0 (x :: l) (v :: l)
  | tail {x : Value} {i : Nat} {l l' : List Value} (h : SetAt v i l l') : SetAt v (i + 1) (x :: l) (x :: l')
theorem SetAt.eq {v : Value} {i : Nat} {l l' : List Value} (h : SetAt v i l l') : i < l.length ∧ l' = l.set i v := by
  induction h with
  | head => exact ⟨by simp, rfl⟩
  | tail h ih => exact ⟨by simp; exact ih.1, by rw [List.set_cons_succ, ih.2]⟩
end Go.Proofs.YtehbjhocgnfpmaaDoor

/- The operations that reach memory, under the word St: an allocation, a load, a store, a slice that is built, an append. -/
namespace Go.Proofs.YtehbjhocgnfpmaaDoor
open Go.RowKit
section
variable {P : Program} {ops : Array Oper} {Q : Exit → Act → World → Prop} {rest : List Oper} {o : Oper} {a : Act} {w : World}
theorem wpl (hw : Region.wanted o (yielded ops a.tmps) = true) (h : o.wp P a w (wpList P ops Q rest) Q) : wpList P ops Q (o :: rest) a w := by
  unfold wpList
  rw [if_pos hw]
  exact .inl h
/-- Where no arm fits the walk stands still. -/
def Stopped (p : Prop) : Prop := p
theorem stop_load {d : Option Tmp} {t : TypeId} {x : Operand} {ty : TypeId} {pos : String} {af : Array Edge} {g : Option (Nat × Bool)} (h : Stopped (wpList P ops Q (⟨d, .load t x, ty, pos, af, g⟩ :: rest) a w)) : wpList P ops Q (⟨d, .load t x, ty, pos, af, g⟩ :: rest) a w := h
theorem stop_store {d : Option Tmp} {t : TypeId} {x y : Operand} {ty : TypeId} {pos : String} {af : Array Edge} {g : Option (Nat × Bool)} (h : Stopped (wpList P ops Q (⟨d, .store t x y, ty, pos, af, g⟩ :: rest) a w)) : wpList P ops Q (⟨d, .store t x y, ty, pos, af, g⟩ :: rest) a w := h
theorem stop_alloc {d : Option Tmp} {t : TypeId} {ty : TypeId} {pos : String} {af : Array Edge} {g : Option (Nat × Bool)} (h : Stopped (wpList P ops Q (⟨d, .alloc t, ty, pos, af, g⟩ :: rest) a w)) : wpList P ops Q (⟨d, .alloc t, ty, pos, af, g⟩ :: rest) a w := h
theorem stop_box {d : Option Tmp} {t : TypeId} {x : Operand} {ty : TypeId} {pos : String} {af : Array Edge} {g : Option (Nat × Bool)} (h : Stopped (wpList P ops Q (⟨d, .box t x, ty, pos, af, g⟩ :: rest) a w)) : wpList P ops Q (⟨d, .box t x, ty, pos, af, g⟩ :: rest) a w := h
/-- The frame behind an operation, written out. -/
theorem wpl_put {l : List Oper} {a1 : Act} (h : a = a1) (k : wpList P ops Q l a1 w) : wpList P ops Q l a w := h ▸ k
end
/-- A type of one cell. -/
def One (P : Program) (ty : TypeId) : Prop := (P.underlying ty).map TypeDesc.isRow = some false ∧ (P.info? ty).map (·.size) = some 1
/-- A type of n cells, an array's or a struct's. -/
def RowN (P : Program) (ty : TypeId) (n : Nat) : Prop := (P.underlying ty).map TypeDesc.isRow = some true ∧ (P.info? ty).map (·.size) = some n
/-- A slice's type, its elements of s cells and b bytes. -/
structure ElemT (P : Program) (t e : TypeId) (s b : Nat) : Prop where
  ht : P.underlying t = some (.slice e)
  ex : ∃ i z, P.info? e = some i ∧ i.zero = some z ∧ i.size = s ∧ i.bytes = b ∧ z.cells.size = s
  pos : 0 < s
theorem ElemT.mk' {P : Program} {t e : TypeId} {s b : Nat} (z : Value) (ht : P.underlying t = some (.slice e)) (hi : (P.info? e).map (fun i => (i.zero, i.size, i.bytes)) = some (some z, s, b)) (hz : z.cells.size = s) (hp : 0 < s) : ElemT P t e s b := by
  obtain ⟨i, h1, h2, h3, h4⟩ := info_parts hi
  exact ⟨ht, ⟨i, z, h1, h2, h3, h4, hz⟩, hp⟩
/-- The length of a list, as a word that the walk lets be. -/
def Len {α : Type} (l : List α) (n : Nat) : Prop := l.length = n
theorem Len.out {α : Type} {l : List α} {n : Nat} (h : Len l n) : l.length = n := h
theorem Len.rep {α : Type} {z : α} {n : Nat} : Len (List.replicate n z) n := List.length_replicate
theorem Len.set {α : Type} {l : List α} {z : α} {n i : Nat} (h : Len l n) : Len (l.set i z) n := by unfold Len at *; simpa using h
/-- A value is written out. -/
inductive IsV (u : Value) : Value → Prop
  | int {k : IntKind} {n : Int} (h : u = .int k n) : IsV u (.int k n)
  | bool {b : Bool} (h : u = .bool b) : IsV u (.bool b)
  | slice {a : Option Addr} {n c : Nat} (h : u = .slice a n c) : IsV u (.slice a n c)
  | pointer {p : Option Addr} (h : u = .pointer p) : IsV u (.pointer p)
  | string {s : ByteArray} (h : u = .string s) : IsV u (.string s)
  | map {m : Option Nat} (h : u = .map m) : IsV u (.map m)
  | func {f : Fn} {x y : Array Value} (h : u = .func f x y) : IsV u (.func f x y)
  | agg {cs : List Value} (h : u = .agg cs.toArray) : IsV u (.agg cs.toArray)
theorem IsV.eq {u v : Value} (h : IsV u v) : u = v := by cases h <;> assumption
section
variable {P : Program} {W w : World} {rs rs' : List Res} {Q : Exit → Act → World → Prop} {K : Act → World → Prop} {o : Oper} {a : Act}
theorem run_isAgg (w : World) {ty : TypeId} {b : Bool} (h : (P.underlying ty).map TypeDesc.isRow = some b) : (isAgg ty).run P w = .ok b w := by
  cases hu : P.underlying ty with
  | none => simp [hu] at h
  | some d =>
    rw [hu, Option.map_some, Option.some.injEq] at h
    unfold isAgg
    rw [Sem.run_bind, run_underlying hu w]
    subst h
    cases d <;> rfl
theorem run_sizeOf' (w : World) {ty : TypeId} {n : Nat} (h : (P.info? ty).map (·.size) = some n) : (sizeOf ty).run P w = .ok n w := by
  cases hq : P.info? ty with
  | none => simp [hq] at h
  | some i => simp [hq] at h; simp [sizeOf, typeInfo, hq, h]
theorem run_load1 (w : World) {ty : TypeId} {v : Value} {p : Addr} (h1 : One P ty) (hc : w.cell? p = some v) : (Instr.loadAt ty (.pointer (some p))).run P w = .ok v w := by
  simp only [Instr.loadAt, Instr.sureAddr, Sem.run_bind, Sem.run_pure, Result.andThen_ok, loadVar, run_isAgg w h1.1, Bool.false_eq_true, if_false, run_load, hc]
theorem run_store1 (w : World) {ty : TypeId} {u v : Value} {p : Addr} (h1 : One P ty) (hc : w.cell? p = some u) (hf : w.frozen? p = false) (ho : v.oneCell' = true) :
    (Instr.storeAt ty (.pointer (some p)) v).run P w = .ok () (w.setCell p v) := by
  have hcs : v.cells = #[v] := by cases v <;> first | rfl | cases ho
  have ha : p.add 0 = p := by simp [Addr.add]
  simp only [Instr.storeAt, Instr.sureAddr, Sem.run_bind, Sem.run_pure, Result.andThen_ok, storeVar, run_sizeOf' w h1.2, hcs]
  simp only [List.size_toArray, List.length_cons, List.length_nil, Nat.zero_add, ne_eq, not_true_eq_false, if_false, storeCells, Sem.run_bind, ha, run_store P w p v _ ho, hc, hf, Bool.false_eq_true, Result.andThen_ok, Sem.run_pure]
/-- A variable. -/
theorem wp_alloc (hS : St W w rs) (ty : TypeId) (ho : o.op = .alloc ty) (v : Value) (cs : List Value) (hz : ∀ w, (zeroValue ty).run P w = .ok v w) (hc : v.cells = cs.toArray)
    (h : ∀ g w', St W w' (blk g cs :: rs) → K (a.put o.dst (.pointer (some ⟨g, 0, none⟩))) w') : o.wp P a w K Q := by
  have hh := h _ _ (hS.alloc cs ty)
  rw [← hc] at hh
  unfold Oper.wp execOp
  simp only [ho]
  simp [go_sem, hz, newVar, newRow]
  exact hh
theorem wp_allocA (hS : St W w rs) (ty : TypeId) (ho : o.op = .alloc ty) (l : List Int) (n : Nat) (hn : Len l n) (hz : ∀ w, (zeroValue ty).run P w = .ok (.agg (iv l)) w)
    (h : ∀ g w', St W w' (arr g n l :: rs) → K (a.put o.dst (.pointer (some ⟨g, 0, none⟩))) w') : o.wp P a w K Q := by
  have hh := h _ _ (hS.allocArr l n hn ty)
  unfold Oper.wp execOp
  simp only [ho]
  simp [go_sem, hz, newVar, newRow, Value.cells]
  exact hh
theorem wp_boxG (hS : St W w rs) (ty : TypeId) (x : Operand) (ho : o.op = .box ty x) (cs : List Value) (hx : a.eval x = .agg cs.toArray)
    (h : ∀ g w', St W w' (blk g cs :: rs) → K (a.put o.dst (.pointer (some ⟨g, 0, none⟩))) w') : o.wp P a w K Q := by
  have hh := h _ _ (hS.alloc cs ty)
  unfold Oper.wp execOp
  simp only [ho, hx]
  simp [go_sem, newVar, newRow, Value.cells]
  exact hh
theorem wp_boxA (hS : St W w rs) (ty : TypeId) (x : Operand) (ho : o.op = .box ty x) (l : List Int) (n : Nat) (hx : a.eval x = .agg (iv l)) (hn : Len l n)
    (h : ∀ g w', St W w' (arr g n l :: rs) → K (a.put o.dst (.pointer (some ⟨g, 0, none⟩))) w') : o.wp P a w K Q := by
  have hh := h _ _ (hS.allocArr l n hn ty)
  unfold Oper.wp execOp
  simp only [ho, hx]
  simp [go_sem, newVar, newRow, Value.cells]
  exact hh
/-- A load of one cell, whatever is known of it. -/
theorem wp_load (ty : TypeId) (x : Operand) (ho : o.op = .load ty x) (p : Addr) (hx : a.eval x = .pointer (some p)) (h1 : One P ty) (v : Value) (hc : w.cell? p = some v)
    (h : K (a.put o.dst v) w) : o.wp P a w K Q := by
  unfold Oper.wp execOp
  simp only [ho, hx, Sem.run_bind, run_load1 w h1 hc, Result.andThen_ok, Sem.run_pure]
  exact h
/-- A cell that was there when the call began. -/
theorem wp_loadW (hS : St W w rs) (ty : TypeId) (x : Operand) (ho : o.op = .load ty x) (p : Addr) (hx : a.eval x = .pointer (some p)) (h1 : One P ty) (v : Value) (hc : W.cell? p = some v)
    (h : K (a.put o.dst v) w) : o.wp P a w K Q := wp_load ty x ho p hx h1 v (hS.1.cell hc) h
theorem wp_load1 (hS : St W w rs) (ty : TypeId) (x : Operand) (ho : o.op = .load ty x) (g off : Nat) (hx : a.eval x = .pointer (some ⟨g, off, none⟩)) (h1 : One P ty) (cs : List Value) (hp : Pull (blk g cs) rs rs')
    (v : Value) (hc : cs[off]? = some v) (h : K (a.put o.dst v) w) : o.wp P a w K Q :=
  wp_load ty x ho _ hx h1 v (by rw [(hS.blk hp).1.cell]; simpa using hc) h
theorem wp_load1A (hS : St W w rs) (ty : TypeId) (x : Operand) (ho : o.op = .load ty x) (g off : Nat) (hx : a.eval x = .pointer (some ⟨g, off, none⟩)) (h1 : One P ty) (n : Nat) (l : List Int) (hp : Pull (arr g n l) rs rs')
    (hi : off < n) (h : K (a.put o.dst (.int .i64 (nth l off))) w) : o.wp P a w K Q := by
  obtain ⟨hr, hn⟩ := hS.arr hp
  exact wp_load ty x ho _ hx h1 _ (hr.cell off (by omega)) h
/-- A cell of a row of its own. -/
theorem own_cell {e : TypeId} {s n c g k : Nat} {xs : List Value} {v : Value} (hS : St W w rs) (hp : Pull (own e s (some ⟨g, 0, none⟩) n c xs) rs rs') (hv : xs[k]? = some v) : w.cell? ⟨g, k, none⟩ = some v := by
  rcases (hS.own hp).2 with ⟨h1, h2⟩ | ⟨g', cap, cur, h1, _, hg, _, _, _, htake⟩
  · cases h1
  · cases h1
    rw [cell_of_row w g k cur e _ hg]
    rw [← htake, List.getElem?_take] at hv
    split at hv
    · simpa using hv
    · cases hv
theorem own_some {e : TypeId} {s n c : Nat} {a : Option Addr} {xs : List Value} (hS : St W w rs) (hp : Pull (own e s a n c xs) rs rs') (hn : 0 < n) : ∃ g, a = some ⟨g, 0, none⟩ := by
  rcases (hS.own hp).2 with ⟨h1, h2⟩ | ⟨g', cap, cur, h1, _⟩
  · omega
  · cases h1; exact ⟨_, rfl⟩
theorem wp_load1O (hS : St W w rs) (ty : TypeId) (x : Operand) (ho : o.op = .load ty x) (g off : Nat) (hx : a.eval x = .pointer (some ⟨g, off, none⟩)) (h1 : One P ty) (e : TypeId) (s n c : Nat) (xs : List Value) (hp : Pull (own e s (some ⟨g, 0, none⟩) n c xs) rs rs')
    (v : Value) (hv : xs[off]? = some v) (h : K (a.put o.dst v) w) : o.wp P a w K Q := wp_load ty x ho _ hx h1 v (own_cell hS hp hv) h
/-- A load of cells that lie together. -/
theorem wp_loadR (ty : TypeId) (x : Operand) (ho : o.op = .load ty x) (g off : Nat) (hx : a.eval x = .pointer (some ⟨g, off, none⟩)) (n : Nat) (h1 : RowN P ty n) (cs : List Value) (hn : cs.length = n) (hc : w.rangeAt g off cs)
    (h : K (a.put o.dst (.agg cs.toArray)) w) : o.wp P a w K Q := by
  obtain ⟨h2, h3⟩ := h1
  cases hu : P.underlying ty with
  | none => simp [hu] at h2
  | some d =>
    rw [hu, Option.map_some, Option.some.injEq] at h2
    exact wp_load_mid ty x ho g off hx cs d hc hu h2 (by rw [h3, hn]) h
/-- Cells that were there when the call began. -/
theorem wp_loadRW (hS : St W w rs) (ty : TypeId) (x : Operand) (ho : o.op = .load ty x) (g off : Nat) (hx : a.eval x = .pointer (some ⟨g, off, none⟩)) (n : Nat) (h1 : RowN P ty n) (cs : List Value) (hc : W.rangeAt g off cs) (hn : cs.length = n)
    (h : K (a.put o.dst (.agg cs.toArray)) w) : o.wp P a w K Q := wp_loadR ty x ho g off hx n h1 cs hn (rangeAt_ext hc hS.1) h
theorem Blk.range {w : World} {g : Nat} {cs : List Value} (h : Blk w g cs.toArray) : w.rangeAt g 0 cs := fun j v hv => by rw [Nat.zero_add, h.cell]; simpa using hv
theorem wp_loadG (hS : St W w rs) (ty : TypeId) (x : Operand) (ho : o.op = .load ty x) (g : Nat) (hx : a.eval x = .pointer (some ⟨g, 0, none⟩)) (n : Nat) (h1 : RowN P ty n) (cs : List Value) (hp : Pull (blk g cs) rs rs') (hn : cs.length = n)
    (h : K (a.put o.dst (.agg cs.toArray)) w) : o.wp P a w K Q := wp_loadR ty x ho g 0 hx n h1 cs hn (hS.blk hp).1.range h
theorem wp_loadA (hS : St W w rs) (ty : TypeId) (x : Operand) (ho : o.op = .load ty x) (g : Nat) (hx : a.eval x = .pointer (some ⟨g, 0, none⟩)) (n : Nat) (h1 : RowN P ty n) (l : List Int) (hp : Pull (arr g n l) rs rs')
    (h : K (a.put o.dst (.agg (iv l))) w) : o.wp P a w K Q := by
  obtain ⟨hr, hn⟩ := hS.arr hp
  exact wp_loadR ty x ho g 0 hx n h1 (l.map (Value.int .i64)) (by simpa using hn) hr.range h
/-- Stores. -/
theorem wp_storeC (ty : TypeId) (x y : Operand) (ho : o.op = .store ty x y) (p : Addr) (hx : a.eval x = .pointer (some p)) (h1 : One P ty) (v u : Value) (hy : a.eval y = v) (hv : v.oneCell' = true)
    (hc : w.cell? p = some u) (hf : w.frozen? p = false) (hd : o.dst = none) (h : K a (w.setCell p v)) : o.wp P a w K Q := by
  unfold Oper.wp execOp
  simp only [ho, hx, hy, Sem.run_bind, run_store1 w h1 hc hf hv, Result.andThen_ok, Sem.run_pure]
  show K (a.put o.dst undef) _
  rw [hd]
  exact h
theorem wp_store1 (hS : St W w rs) (ty : TypeId) (x y : Operand) (ho : o.op = .store ty x y) (g off : Nat) (hx : a.eval x = .pointer (some ⟨g, off, none⟩)) (h1 : One P ty) (cs cs' : List Value) (hp : Pull (blk g cs) rs rs')
    (v : Value) (hy : IsV (a.eval y) v) (hv : v.oneCell' = true) (hc : SetAt v off cs cs') (hd : o.dst = none) (h : ∀ w', St W w' (blk g cs' :: rs') → K a w') : o.wp P a w K Q := by
  obtain ⟨hl, hcs⟩ := hc.eq
  have hb := (hS.blk hp).1
  refine wp_storeC ty x y ho _ hx h1 v (cs[off]) hy.eq hv (by rw [hb.cell]; simp [hl]) (hb.free off) hd (h _ ?_)
  refine St.change (rs1 := [blk g cs']) (hS.pull hp) fun f1 h1 _ _ => ?_
  obtain ⟨rfl, h1⟩ := h1
  refine ⟨[g], ⟨[g], [], rfl, ⟨rfl, ?_⟩, rfl⟩, by simp, fun b hb => .inl hb, Only.setCell w ⟨g, off, none⟩ v⟩
  have := h1.set off v
  rw [hcs]
  simpa using this
theorem wp_store1A (hS : St W w rs) (ty : TypeId) (x y : Operand) (ho : o.op = .store ty x y) (g off : Nat) (hx : a.eval x = .pointer (some ⟨g, off, none⟩)) (h1 : One P ty) (n : Nat) (l : List Int) (hp : Pull (arr g n l) rs rs')
    (z : Int) (hy : a.eval y = .int .i64 z) (hi : off < n) (hd : o.dst = none) (h : ∀ w', St W w' (arr g n (l.set off z) :: rs') → K a w') : o.wp P a w K Q := by
  obtain ⟨hr, hn⟩ := hS.arr hp
  refine wp_storeC ty x y ho _ hx h1 (.int .i64 z) _ hy rfl (hr.cell off (by omega)) (hr.free off) hd (h _ ?_)
  refine St.change (rs1 := [arr g n (l.set off z)]) (hS.pull hp) fun f1 h1 _ _ => ?_
  obtain ⟨rfl, h1, h2⟩ := h1
  exact ⟨[g], ⟨[g], [], rfl, ⟨rfl, h1.set off z, by simpa using h2⟩, rfl⟩, by simp, fun b hb => .inl hb, Only.setCell w ⟨g, off, none⟩ _⟩
/-- A whole block. -/
theorem wp_storeG (hS : St W w rs) (ty : TypeId) (x y : Operand) (ho : o.op = .store ty x y) (g : Nat) (hx : a.eval x = .pointer (some ⟨g, 0, none⟩)) (n : Nat) (h1 : RowN P ty n) (cs cs' : List Value) (hp : Pull (blk g cs) rs rs')
    (hy : a.eval y = .agg cs'.toArray) (hn : cs.length = n) (hn' : cs'.length = n) (hv : cs'.all (·.oneCell') = true) (hd : o.dst = none) (h : ∀ w', St W w' (blk g cs' :: rs') → K a w') : o.wp P a w K Q := by
  obtain ⟨t, hb⟩ := (hS.blk hp).1
  refine wp_store_row ty x y ho g cs'.toArray hx hy t cs.toArray hb (by rw [h1.2]; simp [hn']) (by simp [hn, hn']) (by simpa using hv) ?_
  rw [show a.put o.dst undef = a by rw [hd]; rfl]
  refine h _ ?_
  refine St.change (rs1 := [blk g cs']) (hS.pull hp) fun f1 h1 _ _ => ?_
  obtain ⟨rfl, t, h1⟩ := h1
  exact ⟨[g], ⟨[g], [], rfl, ⟨rfl, t, setRow_heap w g _ _ t _ h1⟩, rfl⟩, by simp, fun b hb => .inl hb, Only.setRow w g _⟩
theorem wp_storeA (hS : St W w rs) (ty : TypeId) (x y : Operand) (ho : o.op = .store ty x y) (g : Nat) (hx : a.eval x = .pointer (some ⟨g, 0, none⟩)) (n : Nat) (h1 : RowN P ty n) (l m : List Int) (hp : Pull (arr g n l) rs rs')
    (hy : a.eval y = .agg (iv m)) (hm : Len m n) (hd : o.dst = none) (h : ∀ w', St W w' (arr g n m :: rs') → K a w') : o.wp P a w K Q := by
  obtain ⟨⟨t, hb⟩, hn⟩ := hS.arr hp
  have hm' : m.length = n := hm
  refine wp_store_row ty x y ho g (iv m) hx hy t (iv l) hb (by rw [h1.2, iv_size, hm']) (by rw [iv_size, iv_size, hn, hm']) (iv_one m) ?_
  rw [show a.put o.dst undef = a by rw [hd]; rfl]
  refine h _ ?_
  refine St.change (rs1 := [arr g n m]) (hS.pull hp) fun f1 h1 _ _ => ?_
  obtain ⟨rfl, ⟨t, h1⟩, h2⟩ := h1
  exact ⟨[g], ⟨[g], [], rfl, ⟨rfl, ⟨t, setRow_heap w g _ _ t _ h1⟩, hm⟩, rfl⟩, by simp, fun b hb => .inl hb, Only.setRow w g _⟩
/-- The operands of a literal, in their order, and their cells. -/
inductive Parts (a : Act) (s : Nat) : Nat → List (Nat × Operand) → List Value → List Value → Prop
  | nil {k : Nat} : Parts a s k [] [] []
  | one {k : Nat} {x : Operand} {v : Value} {ps : List (Nat × Operand)} {vs cs : List Value} (h : IsV (a.eval x) v) (h1 : v.oneCell' = true) (hs : s = 1) (t : Parts a s (k + 1) ps vs cs) : Parts a s k ((k, x) :: ps) (v :: vs) (v :: cs)
  | agg {k : Nat} {x : Operand} {l : List Value} {ps : List (Nat × Operand)} {vs cs : List Value} (h : a.eval x = .agg l.toArray) (hs : l.length = s) (t : Parts a s (k + 1) ps vs cs) : Parts a s k ((k, x) :: ps) (.agg l.toArray :: vs) (l ++ cs)
theorem fill_parts (s : Nat) : ∀ (vs : List Value) (k : Nat) (done zs : List Value), done.length = k * s → zs.length = vs.length * s → (∀ v ∈ vs, v.cells.size = s) →
    Instr.fill (fun i => some (i * s, s)) (done ++ zs).toArray ((vs.zipIdx k).map fun x => (x.2, x.1)) = some (done ++ vs.flatMap (·.cells.toList)).toArray := by
  intro vs
  induction vs with
  | nil => intro k done zs _ hz _; simp at hz; simp [Instr.fill, hz]
  | cons v vs ih =>
    intro k done zs hd hz hv
    have hvs := hv v (by simp)
    have hlen : zs.length = s + vs.length * s := by rw [hz, List.length_cons, Nat.add_mul, Nat.one_mul, Nat.add_comm]
    simp only [List.zipIdx_cons, List.map_cons, Instr.fill, hvs, ne_eq, not_true_eq_false]
    rw [if_neg (by simp [hd, hlen])]
    have key : ∀ (us : List Value) (j : Nat) (d z : List Value), d.length = k * s + j → us.length ≤ z.length →
        List.foldl (fun cs (x : Value × Nat) => cs.setIfInBounds (k * s + x.2) x.1) (d ++ z).toArray (us.zipIdx j) = (d ++ us ++ z.drop us.length).toArray := by
      intro us
      induction us with
      | nil => intro j d z _ _; simp
      | cons u us ih2 =>
        intro j d z hd2 hz2
        cases z with
        | nil => simp at hz2
        | cons y z =>
          simp only [List.zipIdx_cons, List.foldl_cons]
          have e1 : (d ++ y :: z).toArray.setIfInBounds (k * s + j) u = ((d ++ [u]) ++ z).toArray := by
            rw [List.setIfInBounds_toArray, List.set_append_right _ _ (by omega), hd2, Nat.sub_self, List.set_cons_zero, List.append_assoc]
            rfl
          rw [e1, ih2 (j + 1) (d ++ [u]) z (by simp [hd2]; omega) (by simpa using hz2)]
          simp
    have e2 : v.cells.zipIdx.foldl (fun cs (x : Value × Nat) => cs.setIfInBounds (k * s + x.2) x.1) (done ++ zs).toArray = ((done ++ v.cells.toList) ++ zs.drop s).toArray := by
      have := key v.cells.toList 0 done zs (by simpa using hd) (by simp [hvs, hlen])
      rw [← Array.foldl_toList]
      simpa [hvs] using this
    rw [show (Array.foldl (fun cs (x : Value × Nat) => cs.setIfInBounds (k * s + x.2) x.1) (done ++ zs).toArray v.cells.zipIdx) = ((done ++ v.cells.toList) ++ zs.drop s).toArray from e2]
    rw [ih (k + 1) (done ++ v.cells.toList) (zs.drop s) (by simp [hd, hvs, Nat.add_mul]) (by rw [List.length_drop, hlen]; omega) (fun u hu => hv u (by simp [hu]))]
    simp
theorem Parts.vals {a : Act} {s : Nat} : ∀ {k : Nat} {ps : List (Nat × Operand)} {vs cs : List Value}, Parts a s k ps vs cs →
    (ps.map fun (i, x) => (i, a.eval x)) = ((vs.zipIdx k).map fun x => (x.2, x.1)) ∧ ps.length = vs.length ∧ (vs.flatMap (·.cells.toList)) = cs ∧ ∀ v ∈ vs, v.cells.size = s := by
  intro k ps vs cs h
  induction h with
  | nil => exact ⟨rfl, rfl, rfl, fun v hv => by cases hv⟩
  | @one k x v ps vs cs h h1 hs t ih =>
    have hc : v.cells = #[v] := by cases v <;> first | rfl | cases h1
    refine ⟨by simp only [List.map_cons, List.zipIdx_cons, ih.1, h.eq], by simp [ih.2.1], by rw [List.flatMap_cons, ih.2.2.1, hc]; rfl, fun u hu => ?_⟩
    rcases List.mem_cons.1 hu with rfl | hu
    · rw [hc, hs]; rfl
    · exact ih.2.2.2 u hu
  | @agg k x l ps vs cs h hs t ih =>
    refine ⟨by simp only [List.map_cons, List.zipIdx_cons, ih.1, h], by simp [ih.2.1], by rw [List.flatMap_cons, ih.2.2.1]; rfl, fun u hu => ?_⟩
    rcases List.mem_cons.1 hu with rfl | hu
    · simpa [Value.cells] using hs
    · exact ih.2.2.2 u hu
/-- A slice that is written out: a new block. -/
theorem wp_buildSlice1 (hS : St W w rs) (t : TypeId) (n : Nat) (ps : List (Nat × Operand)) (ho : o.op = .buildSlice t n ps.toArray) (e : TypeId) (s b : Nat) (el : ElemT P t e s b) (vs cs : List Value) (hvs : Parts a s 0 ps vs cs) (hn : vs.length = n) (hn0 : 0 < n) (hns : n * s ≤ 2 ^ 24)
    (h : ∀ g w', St W w' (blk g cs :: rs) → K (a.put o.dst (.slice (some ⟨g, 0, none⟩) n n)) w') : o.wp P a w K Q := by
  obtain ⟨ht, ⟨i, z, hi, hz, rfl, hb, hzs⟩, hp⟩ := el
  obtain ⟨h1, h2, hcs, hsz⟩ := hvs.vals
  have hns' : 0 < n * i.size := Nat.mul_pos hn0 hp
  refine Go.wp_buildSlice t e n ps.toArray ho (cs.toArray) i z ht hi hz (by omega) (by omega) ?_ (h _ _ (hS.alloc cs e))
  have h3 := fill_parts i.size vs 0 [] (((List.range (n * i.size)).map (fun j => z.cells[j % z.cells.size]!))) (by simp) (by simp [hn]) hsz
  simp only [List.nil_append] at h3
  rw [← hcs]
  have e1 : (Array.map (fun x : Nat × Operand => (x.1, a.eval x.2)) ps.toArray).toList = (vs.zipIdx 0).map fun x => (x.2, x.1) := by
    rw [← h1]; simp
  rw [e1]
  rw [← h3]
  congr 1
  apply Array.ext_getElem?
  intro j
  simp only [Array.getElem?_map, Array.getElem?_range, List.getElem?_toArray, List.getElem?_map]
  by_cases hj : j < n * i.size
  · simp [hj]
  · simp [hj]
/-- What an append finds: a row of its own, and readable cells. -/
theorem wp_append (hS : St W w rs) (s x : Operand) (t : TypeId) (ho : o.op = .call { callee := .builtin .append, args := #[s, x], argTypes := #[t, t] }) (e : TypeId) (sz b : Nat) (el : ElemT P t e sz b)
    (ad : Option Addr) (n c : Nat) (xs : List Value) (hs : a.eval s = .slice ad n c) (hp : Pull (own e sz ad n c xs) rs rs') (v : Value) (hx : a.eval x = v) (m : Nat) (news : List Value) (hm : Sl w sz v m news) (h1 : ∀ u ∈ news, u.oneCell' = true)
    (h63 : n + m ≤ maxLen) (hb : (n + m) * b ≤ 140737488355328)
    (h : ∀ ad' c' w', St W w' (own e sz ad' (n + m) c' (xs ++ news) :: rs') → K (a.put o.dst (.slice ad' (n + m) c')) w') : o.wp P a w K Q := by
  obtain ⟨ht, ⟨i, z, hi, hz, hsz, hby, hzs⟩, hpos⟩ := el
  have hown := hS.own hp
  have fin : ∀ v' w', w'.ownsRow 0 e sz v' (n + m) (xs ++ news) → w.grownBy w' (Value.slice ad n c).ownBlock → (v'.ownBlock = (Value.slice ad n c).ownBlock ∨ v'.ownBlock = some w.heap.size) → ∃ ad' c', v' = .slice ad' (n + m) c' ∧ St W w' (own e sz ad' (n + m) c' (xs ++ news) :: rs') := by
    intro v' w' ho' hg hat
    obtain ⟨ad', c', rfl⟩ : ∃ ad' c', v' = .slice ad' (n + m) c' := by
      rcases ho'.2 with ⟨h1, h2⟩ | ⟨g, cap, cur, h1, _⟩
      · exact ⟨none, 0, by rw [h2]; exact h1⟩
      · exact ⟨_, _, h1⟩
    refine ⟨ad', c', rfl, ?_⟩
    refine St.change (rs1 := [own e sz ad' (n + m) c' (xs ++ news)]) (hS.pull hp) fun f1 h1 hf1 hn1 => ?_
    obtain ⟨rfl, h1⟩ := h1
    refine ⟨(Value.slice ad' (n + m) c').ownBlock.toList, ⟨_, [], by simp, ⟨rfl, ho'⟩, rfl⟩, ?_, fun k hk => ?_, Only.grown hg⟩
    · cases (Value.slice ad' (n + m) c').ownBlock <;> simp
    · rcases hat with h | h
      · left; rw [← h]; exact hk
      · right; rw [h] at hk; simp at hk; omega
  obtain ⟨hl, aa, cc, rfl, hmc, hcm, hor⟩ := hm
  rcases hor with rfl | ⟨bb, off, rfl, hcells⟩
  · have hnews : news = [] := by simpa using hl
    subst hnews
    cases aa with
    | none =>
      obtain ⟨v', hr, hw⟩ : ∃ v', (Builtin.append_ #[t, t] o.type #[.slice ad n c, .slice none 0 cc]).run P w = .ok v' w ∧ v' = .slice ad n c := by
        rcases hown.2 with ⟨h1, h2⟩ | ⟨g, cap, cur, h1, _, _, hnc, _⟩
        · cases h1
          refine ⟨_, ?_, rfl⟩
          simp [Builtin.append_, run_underlying ht, sizeOf, typeInfo, hi, Builtin.lenOf, Builtin.firstCells]
        · cases h1
          refine ⟨_, ?_, rfl⟩
          simp [Builtin.append_, run_underlying ht, sizeOf, typeInfo, hi, Builtin.lenOf, hnc, Builtin.firstCells, storeCells]
      subst hw
      obtain ⟨ad', c', he, hst⟩ := fin (.slice ad n c) w (by simpa using hown) ⟨rfl, rfl, rfl, Nat.le_refl _, fun _ _ _ => rfl⟩ (.inl rfl)
      have hk := h ad' c' w hst
      unfold Oper.wp execOp
      simp only [ho, resolve, invoke, builtin, Sem.run_bind, Sem.run_pure, Result.andThen_ok, List.map_toArray, List.map_cons, List.map_nil, hs, hx, hr]
      rw [he]
      exact hk
    | some a0 =>
      obtain ⟨v', w', hr, h2, h3, h4, h5⟩ := run_append_own_at (P := P) w 0 t o.type e i z sz b ht hi hz hsz hby hzs hpos (.slice ad n c) n xs hown a0 0 cc [] (by simp) (by simp) (by simp) h63 hb (Nat.zero_le _)
      obtain ⟨ad', c', rfl, hst⟩ := fin v' w' h2 h3 h5
      have hk := h ad' c' w' hst
      unfold Oper.wp execOp
      simp only [ho, resolve, invoke, builtin, Sem.run_bind, Sem.run_pure, Result.andThen_ok, List.map_toArray, List.map_cons, List.map_nil, hs, hx, hr]
      exact hk
  · obtain ⟨v', w', hr, h2, h3, h4, h5⟩ := run_append_own_at (P := P) w 0 t o.type e i z sz b ht hi hz hsz hby hzs hpos (.slice ad n c) n xs hown ⟨bb, off, none⟩ m cc news hl (fun j u hu => by
        have hj : j < m * sz := by rw [← hl]; exact (List.getElem?_eq_some_iff.1 hu).1
        rw [Addr.add_mid, hcells j hj, hu]) h1 h63 hb (Nat.zero_le _)
    obtain ⟨ad', c', rfl, hst⟩ := fin v' w' h2 h3 h5
    have hk := h ad' c' w' hst
    unfold Oper.wp execOp
    simp only [ho, resolve, invoke, builtin, Sem.run_bind, Sem.run_pure, Result.andThen_ok, List.map_toArray, List.map_cons, List.map_nil, hs, hx, hr]
    exact hk
end
section
variable {P : Program} {w : World} {Q : Exit → Act → World → Prop} {K : Act → World → Prop} {o : Oper} {a : Act}
/-- A call of a function that the text names, by its contract. -/
theorem wp_callF {f : FuncId} {xs : List Operand} {ats : Array TypeId} (ho : o.op = .call { callee := .value (.func f), args := xs.toArray, argTypes := ats }) (hcall : ∀ (args : Array Value) (w : World), (callFunc f args).run P w = .ok (.enter f args) w)
    {R : Ending → World → Prop} (hc : Calls P f (xs.map a.eval).toArray w R) (h : ∀ e w', R e w' → ∃ v, e = .returned v ∧ K (a.put o.dst v) w') : o.wp P a w K Q := by
  have e1 : execOp a.eval o = callFunc f (xs.map a.eval).toArray := by
    unfold execOp
    rw [ho]
    have e2 : (#[] ++ (xs.toArray).map a.eval ++ #[] : Array Value) = (xs.map a.eval).toArray := by simp
    rw [← e2]
    rfl
  unfold Oper.wp
  rw [e1, hcall, Oper.upon_enter]
  refine hc.mono fun e w' hR => ?_
  obtain ⟨v, rfl, hk⟩ := h e w' hR
  exact hk
end
/-- What a call comes to, by a contract. -/
def CallGoal (P : Program) (f : FuncId) (args : Array Value) (w : World) (K : Value → World → Prop) : Prop := ∃ R : Ending → World → Prop, Calls P f args w R ∧ ∀ e w', R e w' → ∃ v, e = .returned v ∧ K v w'
theorem wpl_call {P : Program} {w : World} {Q : Exit → Act → World → Prop} {a : Act} {ops : Array Oper} {rest : List Oper} {f : FuncId} {d : Option Tmp} {xs : List Operand} {ats : Array TypeId} {ty : TypeId} {pos : String} {af : Array Edge} {g : Option (Nat × Bool)}
    (hcall : ∀ (args : Array Value) (w : World), (callFunc f args).run P w = .ok (.enter f args) w) (hw : Region.wanted ⟨d, .call ⟨.value (.func f), xs.toArray, ats⟩, ty, pos, af, g⟩ (yielded ops a.tmps) = true)
    (h : CallGoal P f (xs.map a.eval).toArray w fun v w' => wpList P ops Q rest (a.put d v) w') : wpList P ops Q (⟨d, .call ⟨.value (.func f), xs.toArray, ats⟩, ty, pos, af, g⟩ :: rest) a w := by
  obtain ⟨R, hc, hR⟩ := h
  exact wpl hw (wp_callF rfl hcall hc hR)
/-- A slice that lies in a block that is known whole. -/
theorem St.slBlk {W w : World} {rs rs' : List Res} {g n s : Nat} {cs : List Value} (h : St W w rs) (p : Pull (Go.Proofs.YtehbjhocgnfpmaaDoor.blk g cs) rs rs') (hl : cs.length = n * s) (hn : n ≤ maxLen) : Sl w s (.slice (some ⟨g, 0, none⟩) n n) n cs :=
  ⟨hl, _, _, rfl, Nat.le_refl _, hn, .inr ⟨g, 0, rfl, fun k hk => by rw [Nat.zero_add, (h.blk p).1.cell]; simp⟩⟩
end Go.Proofs.YtehbjhocgnfpmaaDoor

/- The walks of package size, and of math/bits.Len below 65536. -/
namespace Go.Proofs.YtehbjhocgnfpmaaDoor
open Go.RowKit
/-- How many bits a number has. -/
def blen (n : Nat) : Nat := if n = 0 then 0 else n.log2 + 1
theorem blen_spec (n : Nat) : n < 2 ^ blen n ∧ (0 < n → 1 ≤ blen n ∧ 2 ^ (blen n - 1) ≤ n) := by
  unfold blen
  by_cases h : n = 0
  · subst h; simp
  · rw [if_neg h]
    exact ⟨Nat.lt_log2_self, fun _ => ⟨by omega, by rw [Nat.add_sub_cancel]; exact Nat.log2_self_le h⟩⟩
theorem blen_le (n k : Nat) (h : n < 2 ^ k) : blen n ≤ k := by
  obtain ⟨_, h2⟩ := blen_spec n
  rcases Nat.eq_zero_or_pos n with h0 | h0
  · subst h0; simp [blen]
  · obtain ⟨h3, h4⟩ := h2 h0
    have h5 := Nat.lt_of_le_of_lt h4 h
    have := (Nat.pow_lt_pow_iff_right (show 1 < 2 by omega)).1 h5
    omega
theorem blen_unique (n k : Nat) (h1 : 2 ^ k ≤ n) (h2 : n < 2 ^ (k + 1)) : blen n = k + 1 := by
  have h3 := blen_le n (k + 1) h2
  obtain ⟨h4, _⟩ := blen_spec n
  have h5 := Nat.lt_of_le_of_lt h1 h4
  have := (Nat.pow_lt_pow_iff_right (show 1 < 2 by omega)).1 h5
  omega
theorem blen_lib (n : Nat) (h : n < 2 ^ 64) : Lib.bitLen n = blen n := by
  rcases Nat.eq_zero_or_pos n with h0 | h0
  · subst h0; rfl
  · obtain ⟨h1, h2, h3⟩ := Lib.bitLenAux_bounds 64 n h (by omega)
    have := blen_unique n (Lib.bitLen n - 1) h2 (by rw [show Lib.bitLen n - 1 + 1 = Lib.bitLen n by have : 1 ≤ Lib.bitLen n := h1; omega]; exact h3)
    have h4 : 1 ≤ Lib.bitLen n := h1
    omega
theorem len_any (x : Nat) (w : World) (h : x < 65536) : Calls Tryd.prog 110 #[.int .u64 x] w fun e w' => e = .returned (.int .i64 (blen x)) ∧ w = w' :=
  (Tryd.bits_Len x w (by omega) (by omega)).mono fun e w' ⟨h1, h2⟩ => ⟨by rw [h1, Int.toNat_natCast, blen_lib x (by omega)], h2.symm⟩
/-- A number's size, and its bits. -/
def sz (n : Int) : Nat := blen n.natAbs
def sv (n : Int) : Int := if n < 0 then n + (2 ^ sz n - 1 : Nat) else n
theorem sz_le (n : Int) (h : -4096 < n ∧ n < 4096) : sz n ≤ 12 := blen_le _ 12 (by omega)
set_option maxHeartbeats 1000000 in
theorem sizeBits_any (n : Int) (w : World) (h0 : -4096 < n) (h1 : n < 4096) :
    Calls Tryd.prog 103 #[.int .i64 n] w fun e w' => e = .returned (.tuple #[.int .i64 (sz n), .int .i64 (sv n), .int .i64 0]) ∧ w = w' := by
  obtain ⟨m, hm⟩ : ∃ m, m = n.natAbs := ⟨_, rfl⟩
  have hmax : max n (-n) = (m : Int) := by omega
  have hm4 : m < 4096 := by omega
  have hu : IntKind.u64.wrap (m : Int) = (m : Int) := by simp [IntKind.wrap, IntKind.signed, IntKind.bits]; omega
  have h2 : -4095 ≤ n := by omega
  obtain ⟨k, hk⟩ : ∃ k, blen m = k := ⟨_, rfl⟩
  have hk12 : k ≤ 12 := by rw [← hk]; exact blen_le m 12 (by omega)
  have HV := hid (show sv n = if n < 0 then n + (2 ^ sz n - 1 : Nat) else n from rfl)
  have HK := hid hk
  have HZ : Hid (sz n = k) := by unfold Hid sz; rw [← hm, hk]
  have HPW := hid (mask_i64 k (by omega))
  have hp1 : 2 ^ k ≤ 2 ^ 12 := Nat.pow_le_pow_right (by omega) hk12
  have hp0 := Nat.two_pow_pos k
  have hq4 : 2 ^ k - 1 ≤ 4095 := by omega
  obtain ⟨q, hq⟩ : ∃ q, 2 ^ k - 1 = q := ⟨_, rfl⟩
  rw [hq] at HPW hq4
  have HQ := hid hq
  have hk64 : (k : Int) < 64 := by omega
  clear hm hp1 hp0 hq hk
  by_cases hn : n < 0
  · have HV2 : Hid (sv n = n + (q : Int)) := by unfold Hid; rw [HV.out, if_pos hn, HZ.out, HQ.out]
    clear HV
    have hpw := HPW.out
    clear HPW
    go_enter Tryd.func103, Tryd.ntmps103
    go_wp2_with (go_at_call 110; refine (len_any m _ (by omega)).mono ?_; rintro e w' ⟨rfl, rfl⟩; rw [HK.out])
    refine bodyPost_ret (results_tmp3 rfl _ _ _) rfl ?_
    exact ⟨by rw [HZ.out, HV2.out]; rfl, rfl⟩
  · have HV2 : Hid (sv n = n) := by unfold Hid; rw [HV.out, if_neg hn]
    clear HV HPW
    go_enter Tryd.func103, Tryd.ntmps103
    go_wp2_with (go_at_call 110; refine (len_any m _ (by omega)).mono ?_; rintro e w' ⟨rfl, rfl⟩; rw [HK.out])
    refine bodyPost_ret (results_tmp3 rfl _ _ _) rfl ?_
    exact ⟨by rw [HZ.out, HV2.out]; rfl, rfl⟩
/-- The number of a size and of bits. -/
def sback (k v : Nat) : Int := if 0 < k ∧ v < 2 ^ (k - 1) then (v : Int) - (2 ^ k - 1 : Nat) else v
end Go.Proofs.YtehbjhocgnfpmaaDoor

/- The walks of zig.order, Order, To, From. -/
namespace Go.Proofs.YtehbjhocgnfpmaaDoor
open Go.RowKit
/-- The state of the zigzag order: row, column, whether it goes up. -/
def zstep (s : Int × Int × Bool) : Int × Int × Bool :=
  if s.2.2 = true ∧ s.2.1 = 7 then (s.1 + 1, s.2.1, false)
  else if s.2.2 = true ∧ s.1 = 0 then (s.1, s.2.1 + 1, false)
  else if s.2.2 = true then (s.1 - 1, s.2.1 + 1, true)
  else if s.1 = 7 then (s.1, s.2.1 + 1, true)
  else if s.2.1 = 0 then (s.1 + 1, s.2.1, true)
  else (s.1 + 1, s.2.1 - 1, false)
def zst : Nat → Int × Int × Bool
  | 0 => (0, 0, true)
  | k + 1 => zstep (zst k)
/-- The order: the index at each place. -/
def zn (k : Nat) : Nat := (8 * (zst k).1 + (zst k).2.1).toNat
def zord : List Nat := (List.range 64).map zn
def zi : List Int := zord.map fun (n : Nat) => (n : Int)
theorem zst_ok : ∀ k, k < 64 → 0 ≤ (zst k).1 ∧ (zst k).1 ≤ 7 ∧ 0 ≤ (zst k).2.1 ∧ (zst k).2.1 ≤ 7 := by decide +kernel
/-- After k rounds. -/
def zl (k : Nat) : List Int := zi.take k ++ List.replicate (64 - k) 0
theorem zl_len : ∀ k, k < 65 → (zl k).length = 64 := by decide +kernel
theorem zl_set : ∀ k, k < 64 → (zl k).set k (8 * (zst k).1 + (zst k).2.1) = zl (k + 1) := by decide +kernel
theorem zl_all : zl 64 = zi := by decide +kernel
theorem zi_len : zi.length = 64 := by decide +kernel

set_option maxRecDepth 100000 in
set_option maxHeartbeats 2000000 in
theorem zorder_any (w : World) : Calls Tryd.prog 87 #[] w fun e w' => e = .returned (.agg (iv zi)) ∧ Ext w w' := by
  go_enter Tryd.func87, Tryd.ntmps87
  go_wp2_with fail
  go_loopg [1, 2, 3, 5] 64 (fun gk rv cv uv xv wr => ∃ (i : Nat) (r c : Int) (u : Bool), gk + i = 64 ∧ xv = .int .i64 i ∧ rv = .int .i64 r ∧ cv = .int .i64 c ∧ uv = .bool u ∧ Hid (zst i = (r, c, u)) ∧ Row wr w.heap.size (zl i) ∧ Ext w wr)
  case atStart => exact ⟨0, 0, 0, true, rfl, rfl, rfl, rfl, rfl, rfl, Row.new w (List.replicate 64 0) 51, (Ext.refl w).alloc _⟩
  case round =>
    obtain ⟨i, r, c, u, hi, rfl, rfl, rfl, rfl, hst, hrow, hE⟩ := hrel
    by_cases hlt : i < 64
    · have hb := zst_ok i hlt
      rw [hst.out] at hb
      dsimp only at hb
      obtain ⟨hb1, hb2, hb3, hb4⟩ := hb
      have hcell := hrow.cell i (by rw [zl_len i (by omega)]; exact hlt)
      have hfree := hrow.free i
      have hset := zl_set i hlt
      rw [hst.out] at hset
      have hrow2 := hrow.set i (8 * r + c)
      rw [hset] at hrow2
      have hE2 : Ext w (wr.setCell ⟨w.heap.size, i, none⟩ (.int .i64 (8 * r + c))) := hE.setCell (Nat.le_refl _) _
      have hs : Hid (zst (i + 1) = zstep (r, c, u)) := by unfold Hid; rw [← hst.out]; rfl
      clear hset hst
      have fin : ∀ (r' c' : Int) (u' : Bool), zstep (r, c, u) = (r', c', u') → Hid (zst (i + 1) = (r', c', u')) := fun r' c' u' h => by rw [← h]; exact hs
      clear hs
      have FIN := hid fin
      clear fin
      have hi' : gk - 1 + (i + 1) = 64 := by omega
      have HI := hid hi'
      clear hi'
      have HR := hid hrow2
      have HE := hid hE2
      clear hrow2 hE2
      cases u
      · by_cases h7 : r = 7
        · subst h7
          go_wp2_with fail
          go_roundg (gk - 1)
          case measure => omega
          case rel => exact ⟨i + 1, _, _, _, HI.out, by go_num, rfl, rfl, rfl, FIN.out _ _ _ (by simp [zstep]), HR.out, HE.out⟩
        · by_cases h0 : c = 0
          · subst h0
            go_wp2_with fail
            go_roundg (gk - 1)
            case measure => omega
            case rel => exact ⟨i + 1, _, _, _, HI.out, by go_num, rfl, rfl, rfl, FIN.out _ _ _ (by simp [zstep]; omega), by simpa using HR.out, by simpa using HE.out⟩
          · go_wp2_with fail
            go_roundg (gk - 1)
            case measure => omega
            case rel => exact ⟨i + 1, _, _, _, HI.out, by go_num, rfl, rfl, rfl, FIN.out _ _ _ (by simp [zstep, h7, h0]), HR.out, HE.out⟩
      · by_cases h7 : c = 7
        · subst h7
          go_wp2_with fail
          go_roundg (gk - 1)
          case measure => omega
          case rel => exact ⟨i + 1, _, _, _, HI.out, by go_num, rfl, rfl, rfl, FIN.out _ _ _ (by simp [zstep]), HR.out, HE.out⟩
        · by_cases h0 : r = 0
          · subst h0
            go_wp2_with fail
            go_roundg (gk - 1)
            case measure => omega
            case rel => exact ⟨i + 1, _, _, _, HI.out, by go_num, rfl, rfl, rfl, FIN.out _ _ _ (by simp [zstep]; omega), by simpa using HR.out, by simpa using HE.out⟩
          · go_wp2_with fail
            go_roundg (gk - 1)
            case measure => omega
            case rel => exact ⟨i + 1, _, _, _, HI.out, by go_num, rfl, rfl, rfl, FIN.out _ _ _ (by simp [zstep, h7, h0]), HR.out, HE.out⟩
    · obtain rfl : i = 64 := by omega
      rw [zl_all] at hrow
      obtain ⟨t, hrow⟩ := hrow
      have hself := setRow_self wr w.heap.size _ t _ hrow
      have hsz : (Tryd.prog.info? 51).map (·.size) = some (iv zi).size := by rw [iv_size, zi_len]; kernel_rfl
      have HS := hid hsz
      have HSelf := hid hself
      clear hsz hself
      have hh := hid hrow
      clear hrow
      go_wp2_with (first
        | (refine wpList_load_row rfl 51 _ rfl w.heap.size rfl t (iv zi) (0, 0) _ hh.out Tryd.underlying51 rfl HS.out ?_)
        | (refine wpList_store_row rfl 51 _ _ rfl w.heap.size (iv zi) rfl rfl t (iv zi) hh.out HS.out rfl (iv_one _) ?_; rw [HSelf.out]))
      refine bodyPost_ret (results_cell_row rfl _ wr w.heap.size t (iv zi) (0, 0) _ rfl hh.out Tryd.underlying51 rfl HS.out) rfl ?_
      exact ⟨rfl, hE⟩

theorem zi_get (i : Nat) (h : i < 64) : (iv zi)[i]? = some (.int .i64 (zn i : Int)) := by
  rw [iv_get zi i (by rw [zi_len]; exact h)]
  congr 2
  simp [nth, zi, zord, List.getD, List.getElem?_map, List.getElem?_range h]
theorem zn_lt : ∀ i, i < 64 → zn i < 64 := by decide +kernel
theorem zn_lt' (i : Nat) (h : i < 64) : (zn i : Int) < 64 := by have := zn_lt i h; omega
/-- A block in zigzag order, and back. -/
def zto (l : List Int) : List Int := zord.map fun n => nth l n
theorem zord_len : zord.length = 64 := by decide +kernel
theorem zto_len (l : List Int) : (zto l).length = 64 := by rw [zto, List.length_map, zord_len]
theorem zto_get (l : List Int) (i : Nat) (h : i < 64) : nth (zto l) i = nth l (zn i) := by
  simp [nth, zto, zord, List.getD, List.getElem?_map, List.getElem?_range h]

set_option maxRecDepth 100000 in
set_option maxHeartbeats 2000000 in
theorem zto_any (w : World) (l : List Int) (hl : l.length = 64) : Calls Tryd.prog 88 #[.agg (iv l)] w fun e w' => e = .returned (.agg (iv (zto l))) ∧ Ext w w' := by
  go_enter Tryd.func88, Tryd.ntmps88
  go_wp2_with fail
  refine (zorder_any _).mono ?_
  rintro e w1 ⟨rfl, hE1⟩
  have hb : Row w1 w.heap.size l := ((Row.new w l 52).alloc _).ext hE1
  have ho : Row w1 (w.heap.size + 1) (filling (zto l) 0) := by
    rw [filling_zero, zto_len]
    have h := (Row.new (w.alloc (.cells (iv l) 52)) (List.replicate 64 0) 52).ext hE1
    simpa using h
  have hE : Ext w w1 := (((Ext.refl w).alloc _).alloc _).trans hE1
  clear hE1
  go_wp2_with fail
  go_loopg [6] 64 (fun gk xv wr => ∃ (i : Nat), gk + i = 64 ∧ xv = .int .i64 i ∧ Row wr w.heap.size l ∧ Row wr (w.heap.size + 1) (filling (zto l) i) ∧ Ext w wr)
  case atStart => exact ⟨0, rfl, rfl, hb, ho, hE⟩
  case round =>
    clear hb ho hE
    obtain ⟨i, hi, rfl, hb, ho, hE⟩ := hrel
    by_cases hlt : i < 64
    · have hz := zi_get i hlt
      have hzl := zn_lt' i hlt
      have hzl' := zn_lt i hlt
      have hcell := hb.cell (zn i) (by omega)
      have hcell2 := ho.cell i (by rw [filling_len _ _ (by rw [zto_len]; omega), zto_len]; exact hlt)
      have hfree := ho.free i
      have ho2 := ho.set i (nth (zto l) i)
      rw [filling_set _ _ (by rw [zto_len]; exact hlt), zto_get _ _ hlt] at ho2
      have HB := hid (hb.setOther ⟨w.heap.size + 1, i, none⟩ (.int .i64 (nth l (zn i))) (by simp))
      have HO := hid ho2
      have HE := hid (hE.setCell (a := ⟨w.heap.size + 1, i, none⟩) (by simp) (.int .i64 (nth l (zn i))))
      have hi' : gk - 1 + (i + 1) = 64 := by omega
      have HI := hid hi'
      clear hi' ho2
      go_wp2_with fail
      go_roundg (gk - 1)
      case measure => omega
      case rel => exact ⟨i + 1, HI.out, by go_num, HB.out, HO.out, HE.out⟩
    · obtain rfl : i = 64 := by omega
      have ho' : Row wr (w.heap.size + 1) (zto l) := by have h := filling_all (zto l); rw [zto_len] at h; rw [h] at ho; exact ho
      clear ho
      obtain ⟨t, ho⟩ := ho'
      have HSelf := hid (setRow_self wr (w.heap.size + 1) _ t _ ho)
      have HS := hid (show (Tryd.prog.info? 52).map (·.size) = some (iv (zto l)).size by rw [iv_size, zto_len]; kernel_rfl)
      have hh := hid ho
      clear ho
      go_wp2_with (first
        | (refine wpList_load_row rfl 52 _ rfl (w.heap.size + 1) rfl t (iv (zto l)) (0, 0) _ hh.out Tryd.underlying52 rfl HS.out ?_)
        | (refine wpList_store_row rfl 52 _ _ rfl (w.heap.size + 1) (iv (zto l)) rfl rfl t (iv (zto l)) hh.out HS.out rfl (iv_one _) ?_; rw [HSelf.out]))
      refine bodyPost_ret (results_cell_row rfl _ wr (w.heap.size + 1) t (iv (zto l)) (0, 0) _ rfl hh.out Tryd.underlying52 rfl HS.out) rfl ?_
      exact ⟨rfl, hE⟩

end Go.Proofs.YtehbjhocgnfpmaaDoor

/- A region that draws its order, walked in one order: what only computes or reads is done as soon as it may be; what turns the world comes up in whatever order its edges leave open. A condition on the world is shown anew behind each operation but the late ones, ahead of which all that needs it has been done. -/
namespace Go.Proofs.YtehbjhocgnfpmaaDoor
open Go.RowKit
section
variable {P : Program} {ops : Array Oper} {Q : Exit → Act → World → Prop} {md : Region.Mode} {D : List Nat} {S T : World → Prop}
/-- The two frames look the same to the operation. -/
def Same (ops : Array Oper) (o : Oper) (a b : Act) : Prop :=
  execOp b.eval o = execOp a.eval o ∧ Region.wanted o (yielded ops b.tmps) = Region.wanted o (yielded ops a.tmps) ∧ b.tmps.size = a.tmps.size
theorem Same.refl (o : Oper) (a : Act) : Same ops o a a := ⟨rfl, rfl, rfl⟩
theorem Same.trans {o : Oper} {a b c : Act} (h : Same ops o a b) (k : Same ops o b c) : Same ops o a c := ⟨k.1.trans h.1, k.2.1.trans h.2.1, k.2.2.trans h.2.2⟩
theorem Same.put (o : Oper) (hs : ∀ cs b, o.op ≠ .select cs b) (a : Act) (dst : Option Tmp) (u : Value) (h : ∀ d, dst = some d → d ∉ o.looksAt ops) : Same ops o a (a.put dst u) :=
  ⟨execOp_put o hs a dst u h, wanted_put o a dst u h, by cases dst <;> simp [Act.put]⟩
theorem wpOp_swap {j : Nat} {oi oj : Oper} {v : Value} (hj : ops[j]? = some oj) (hap : oi.apart ops oj = true) (hsi : ∀ cs b, oi.op ≠ .select cs b) (hsj : ∀ cs b, oj.op ≠ .select cs b)
    (hQ : ∀ c a w, Q (.panic c) (a.put oi.dst v) w → Q (.panic c) a w) {K : Act → World → Prop} {a : Act} {w : World} (h : wpOp P ops Q j K (a.put oi.dst v) w) :
    wpOp P ops Q j (fun a' w' => Same ops oi a a' ∧ K (a'.put oi.dst v) w') a w := by
  obtain ⟨hd1, hd2, hd3⟩ := Oper.apart_spec hap
  have back : ∀ (b : Act) u, (b.put oj.dst u).put oi.dst v = (b.put oi.dst v).put oj.dst u := fun b u => (Act.put_comm b v u hd2).symm
  have fin : ∀ u w', K ((a.put oi.dst v).put oj.dst u) w' → Same ops oi a (a.put oj.dst u) ∧ K ((a.put oj.dst u).put oi.dst v) w' := fun u w' hk => ⟨Same.put oi hsi a oj.dst u hd3, by rw [back]; exact hk⟩
  unfold wpOp at h ⊢
  rw [hj] at h ⊢
  dsimp only at h ⊢
  rw [wanted_put oj a oi.dst v hd1] at h
  by_cases hw : Region.wanted oj (yielded ops a.tmps) = true
  · rw [if_pos hw] at h ⊢
    rcases h with h | ⟨h1, h2⟩
    · left
      unfold Oper.wp at h ⊢
      rw [execOp_put oj hsj a oi.dst v hd1] at h
      generalize (execOp a.eval oj).run P w = r at h ⊢
      cases r with
      | halt x w' => cases x <;> simp only [Oper.upon] at h ⊢ <;> exact hQ _ _ _ h
      | ok n w' =>
        cases n <;> simp only [Oper.upon] at h ⊢
        case value u => exact fin u w' h
        case skip => exact fin _ w' h
        case defer d =>
          refine ⟨Same.trans (b := { a with defers := d :: a.defers }) ⟨rfl, rfl, rfl⟩ (Same.put oi hsi _ oj.dst _ hd3), ?_⟩
          rw [back, ← Act.put_defers]
          exact h
        case enter f args =>
          refine Calls.mono h fun e w'' he => ?_
          cases e with
          | returned u => exact fin u w'' he
          | panicked c => exact hQ _ _ _ he
          | outgrown => exact he
        case row row args => exact Rows.mono h fun u w'' he => fin u w'' he
    · right
      unfold Oper.asks at h1 ⊢
      rw [execOp_put oj hsj a oi.dst v hd1] at h1
      exact ⟨h1, h2⟩
  · rw [if_neg hw] at h ⊢
    exact fin _ w h
/-- Whatever order is picked; S lasts behind all but the late ones, D. -/
def wpAnyN (P : Program) (md : Region.Mode) (ops : Array Oper) (Q : Exit → Act → World → Prop) (D : List Nat) (S : World → Prop) : Nat → Array Bool → Act → World → Prop
  | 0, listed, a, w => Region.ready md ops listed = [] ∧ Q .normal a w
  | fuel + 1, listed, a, w => (Region.ready md ops listed = [] → Q .normal a w) ∧
    ∀ i ∈ Region.ready md ops listed, wpOp P ops Q i (fun a' w' => (i ∉ D → S w → S w') ∧ wpAnyN P md ops Q D S fuel (listed.setIfInBounds i true) a' w') a w
theorem wpAny_of_N : ∀ (fuel : Nat) (listed : Array Bool) (a : Act) (w : World), wpAnyN P md ops Q D S fuel listed a w → wpAny P md ops Q fuel listed a w
  | 0, _, _, _, h => h
  | fuel + 1, _, _, _, h => ⟨h.1, fun i hi => wpOp_mono (fun a' w' k => wpAny_of_N fuel _ a' w' k.2) (h.2 i hi)⟩
/-- All of E wait, one for another, for i. -/
def Waits (md : Region.Mode) (ops : Array Oper) (listed : Array Bool) (i : Nat) (E : List Nat) : Prop :=
  ∀ j ∈ E, listed.getD j true = false ∧ ∃ oj, ops[j]? = some oj ∧ ∃ e ∈ oj.after, Region.binds md e = true ∧ (e.on ∈ E ∨ e.on = i)
def waitsB (md : Region.Mode) (ops : Array Oper) (listed : Array Bool) (i : Nat) (E D : List Nat) : Bool :=
  D.all (fun j => E.contains j) && E.all fun j => !listed.getD j true && match ops[j]? with
    | none => false
    | some oj => oj.after.any fun e => Region.binds md e && (E.contains e.on || e.on == i)
theorem waits_of {listed : Array Bool} {i : Nat} {E : List Nat} (h : waitsB md ops listed i E D = true) : (∀ j ∈ D, j ∈ E) ∧ Waits md ops listed i E := by
  unfold waitsB at h
  simp only [Bool.and_eq_true, List.all_eq_true] at h
  refine ⟨fun j hj => by simpa using h.1 j hj, fun j hj => ?_⟩
  obtain ⟨h1, h2⟩ := h.2 j hj
  refine ⟨by simpa using h1, ?_⟩
  cases ho : ops[j]? with
  | none => rw [ho] at h2; cases h2
  | some oj =>
    rw [ho] at h2
    obtain ⟨e, he, hb⟩ := Array.any_eq_true'.1 h2
    simp only [Bool.and_eq_true, Bool.or_eq_true, beq_iff_eq] at hb
    exact ⟨oj, rfl, e, he, hb.1, hb.2.imp (fun h => by simpa using h) id⟩
theorem getD_false_of {listed : Array Bool} {k : Nat} (h : listed.getD k true = false) : listed.getD k false = false := by
  rcases Nat.lt_or_ge k listed.size with h' | h'
  · simp [h'] at h ⊢; exact h
  · simp [Array.getElem?_eq_none h'] at h
theorem wpAnyN_first {i : Nat} {oi : Oper} {v : Value} {a0 : Act} (hi : ops[i]? = some oi) (hsel : ∀ (j : Nat) (o : Oper) cs b, ops[j]? = some o → o.op ≠ .select cs b)
    (hQ : ∀ c a w, Q (.panic c) (a.put oi.dst v) w → Q (.panic c) a w) (hfr : ∀ w, T w → wpList P ops (FreeOne (fun w' => w' = w) (a0.put oi.dst v)) [oi] a0 w) (E : List Nat)
    (hcase : (∀ w, T w) ∨ ((∀ w, S w → T w) ∧ ∀ j ∈ D, j ∈ E)) :
    ∀ (fuel : Nat) (listed : Array Bool) (a : Act) (w : World), Same ops oi a0 a →
      (∀ j oj, ops[j]? = some oj → j ≠ i → listed.getD j true = false → (∀ e ∈ oj.after, Region.binds md e = true → e.on ≠ i) → oi.apart ops oj = true) →
      i ∈ Region.ready md ops listed → ((∀ w, T w) ∨ (S w ∧ Waits md ops listed i E)) →
      wpAnyN P md ops Q D S fuel (listed.setIfInBounds i true) (a.put oi.dst v) w → wpAnyN P md ops Q D S (fuel + 1) listed a w := by
  have now : ∀ {a : Act} {w : World} {K : Act → World → Prop}, Same ops oi a0 a → T w → K (a.put oi.dst v) w → wpOp P ops Q i K a w := fun hs hT hk =>
    free_op (I := fun w' => w' = _) hi (hfr _ hT) hs.1 hs.2.1 hs.2.2 (fun w' hw' => by rw [hw']; exact hk)
  have tn : ∀ {listed : Array Bool} {w : World}, ((∀ w, T w) ∨ (S w ∧ Waits md ops listed i E)) → T w := fun {listed w} h => by
    rcases h with h | h
    · exact h w
    · rcases hcase with k | k
      · exact k w
      · exact k.1 w h.1
  intro fuel
  induction fuel with
  | zero =>
    intro listed a w hs _ hr hst H
    refine ⟨fun h => (by rw [h] at hr; cases hr), fun j hj => ?_⟩
    by_cases hji : j = i
    · subst hji; exact now hs (tn hst) ⟨fun _ h => h, H⟩
    · have := ready_mono hj hji
      rw [H.1] at this
      cases this
  | succ fuel ih =>
    intro listed a w hs hfree hr hst H
    refine ⟨fun h => (by rw [h] at hr; cases hr), fun j hj => ?_⟩
    by_cases hji : j = i
    · subst hji; exact now hs (tn hst) ⟨fun _ h => h, H⟩
    · have h1 := H.2 j (ready_mono hj hji)
      obtain ⟨hjun, oj, hoj, hall⟩ := mem_ready.1 hj
      have hiun := (mem_ready.1 hr).1
      have hnot : ∀ e ∈ oj.after, Region.binds md e = true → e.on ≠ i := fun e he hb heq => by
        have k1 := hall e he hb
        rw [heq, getD_false_of hiun] at k1
        cases k1
      have h2 := wpOp_swap hoj (hfree j oj hoj hji hjun hnot) (fun cs b => hsel i oi cs b hi) (fun cs b => hsel j oj cs b hoj) hQ h1
      have hfree' : ∀ k ok, ops[k]? = some ok → k ≠ i → (listed.setIfInBounds j true).getD k true = false → (∀ e ∈ ok.after, Region.binds md e = true → e.on ≠ i) → oi.apart ops ok = true := fun k ok hk hki hun hno => by
        refine hfree k ok hk hki ?_ hno
        by_cases hjk : j = k
        · subst hjk; exact hjun
        · rw [getD_set_ne true hjk] at hun; exact hun
      refine wpOp_mono (fun a' w' h3 => ⟨h3.2.1, ih (listed.setIfInBounds j true) a' w' (hs.trans h3.1) hfree' (ready_mono hr (Ne.symm hji)) ?_ ?_⟩) h2
      · rcases hst with h | ⟨hSw, hwt⟩
        · exact .inl h
        · rcases hcase with h | ⟨_, hD⟩
          · exact .inl h
          · have hjE : j ∉ E := fun hm => by
              obtain ⟨_, oj', hoj', e, he, hb, hon⟩ := hwt j hm
              rw [hoj] at hoj'
              cases hoj'
              have k1 := hall e he hb
              rcases hon with hon | hon
              · rw [getD_false_of (hwt e.on hon).1] at k1; cases k1
              · rw [hon, getD_false_of hiun] at k1; cases k1
            refine .inr ⟨h3.2.1 (fun hm => hjE (hD j hm)) hSw, fun k hk => ⟨?_, (hwt k hk).2⟩⟩
            rw [getD_set_ne true (fun e => hjE (by rw [e]; exact hk))]
            exact (hwt k hk).1
      · rw [Array.setIfInBounds_comm _ _ hji]
        exact h3.2.2
theorem free_val {oi : Oper} {a a1 : Act} {w : World} (hfr : wpList P ops (FreeOne (fun w' => w' = w) a1) [oi] a w) (hd : a1.defers = a.defers) : ∃ v, a1 = a.put oi.dst v := by
  rcases free_put hfr with h1 | ⟨d, h1⟩
  · exact h1
  · exfalso
    rw [h1] at hd
    cases hdd : oi.dst <;> simp [hdd, Act.put] at hd
/-- The operation at a place, as it is written out. -/
inductive AtL (o : Oper) : Nat → List Oper → Prop
  | head {l : List Oper} : AtL o 0 (o :: l)
  | tail {i : Nat} {x : Oper} {l : List Oper} (h : AtL o i l) : AtL o (i + 1) (x :: l)
theorem AtL.get {o : Oper} {i : Nat} {l : List Oper} (h : AtL o i l) : l.toArray[i]? = some o := by
  rw [List.getElem?_toArray]
  induction h with
  | head => rfl
  | tail h ih => rw [List.getElem?_cons_succ]; exact ih
/-- What only computes. -/
theorem takeP (i : Nat) {l : List Oper} {oi : Oper} {a1 : Act} {fuel : Nat} {listed : Array Bool} {a : Act} {w : World} (hi : AtL oi i l) (hs : Region.noSelect l.toArray = true) (hf : Region.free md l.toArray listed i = true)
    (hr : (Region.ready md l.toArray listed).contains i = true) (hQ : ∀ v c a w, Q (.panic c) (a.put oi.dst v) w → Q (.panic c) a w) (hfr : ∀ w, wpList P l.toArray (FreeOne (fun w' => w' = w) a1) [oi] a w) (hd : a1.defers = a.defers)
    (h : wpAnyN P md l.toArray Q D S fuel (listed.setIfInBounds i true) a1 w) : wpAnyN P md l.toArray Q D S (fuel + 1) listed a w := by
  obtain ⟨v, rfl⟩ := free_val (hfr w) hd
  exact wpAnyN_first (T := fun _ => True) hi.get (Region.noSelect_spec hs) (hQ v) (fun w _ => hfr w) [] (.inl fun _ => trivial) fuel listed a w (Same.refl oi a) (Region.free_spec hi.get hf) (by simpa using hr) (.inl fun _ => trivial) h
/-- What reads: under S, which no operation ahead of it ends. -/
theorem takeS (i : Nat) {l : List Oper} {oi : Oper} {a1 : Act} {fuel : Nat} {listed : Array Bool} {a : Act} {w : World} (hi : AtL oi i l) (hs : Region.noSelect l.toArray = true) (hf : Region.free md l.toArray listed i = true)
    (hr : (Region.ready md l.toArray listed).contains i = true) (hQ : ∀ v c a w, Q (.panic c) (a.put oi.dst v) w → Q (.panic c) a w) (E : List Nat) (hE : waitsB md l.toArray listed i E D = true) (hSw : S w)
    (hfr : ∀ w, S w → wpList P l.toArray (FreeOne (fun w' => w' = w) a1) [oi] a w) (hd : a1.defers = a.defers)
    (h : wpAnyN P md l.toArray Q D S fuel (listed.setIfInBounds i true) a1 w) : wpAnyN P md l.toArray Q D S (fuel + 1) listed a w := by
  obtain ⟨v, rfl⟩ := free_val (hfr w hSw) hd
  exact wpAnyN_first (T := S) hi.get (Region.noSelect_spec hs) (hQ v) hfr E (.inr ⟨fun _ h => h, (waits_of hE).1⟩) fuel listed a w (Same.refl oi a) (Region.free_spec hi.get hf) (by simpa using hr) (.inr ⟨hSw, (waits_of hE).2⟩) h
/-- Whichever of those that may comes up. -/
inductive Each (P : Program) (l : List Oper) (Q : Exit → Act → World → Prop) (K : Nat → Act → World → Prop) (a : Act) (w : World) : List Nat → Prop
  | nil : Each P l Q K a w []
  | cons {i : Nat} {o : Oper} {rs : List Nat} (hi : AtL o i l) (hw : Region.wanted o (yielded l.toArray a.tmps) = true) (h : o.wp P a w (K i) Q) (t : Each P l Q K a w rs) : Each P l Q K a w (i :: rs)
theorem Each.all {l : List Oper} {K : Nat → Act → World → Prop} {a : Act} {w : World} : ∀ {rs : List Nat}, Each P l Q K a w rs → ∀ i ∈ rs, wpOp P l.toArray Q i (K i) a w := by
  intro rs h
  induction h with
  | nil => intro i hi; cases hi
  | cons hi hw h t ih =>
    intro j hj
    rcases List.mem_cons.1 hj with rfl | hj
    · unfold wpOp
      rw [hi.get]
      dsimp only
      rw [if_pos hw]
      exact .inl h
    · exact ih j hj
theorem branch (rs : List Nat) {l : List Oper} {fuel : Nat} {listed : Array Bool} {a : Act} {w : World} (hr : Region.ready md l.toArray listed = rs) (hne : rs ≠ [])
    (h : Each P l Q (fun i a' w' => (i ∉ D → S w → S w') ∧ wpAnyN P md l.toArray Q D S fuel (listed.setIfInBounds i true) a' w') a w rs) : wpAnyN P md l.toArray Q D S (fuel + 1) listed a w :=
  ⟨fun h0 => absurd (hr.symm.trans h0) hne, by rw [hr]; exact h.all⟩
theorem branch1 (i : Nat) {l : List Oper} {o : Oper} {fuel : Nat} {listed : Array Bool} {a : Act} {w : World} (hi : AtL o i l) (hw : Region.wanted o (yielded l.toArray a.tmps) = true) (hr : Region.ready md l.toArray listed = [i])
    (h : o.wp P a w (fun a' w' => (i ∉ D → S w → S w') ∧ wpAnyN P md l.toArray Q D S fuel (listed.setIfInBounds i true) a' w') Q) : wpAnyN P md l.toArray Q D S (fuel + 1) listed a w :=
  branch [i] hr (by simp) (.cons hi hw h .nil)
theorem drawn_put {fuel : Nat} {listed : Array Bool} {a a1 : Act} {w : World} (h : a = a1) (k : wpAnyN P md ops Q D S fuel listed a1 w) : wpAnyN P md ops Q D S fuel listed a w := h ▸ k
theorem drawn_done {listed : Array Bool} {a : Act} {w : World} (hr : Region.ready md ops listed = []) (h : Q .normal a w) : ∀ fuel, wpAnyN P md ops Q D S fuel listed a w
  | 0 => ⟨hr, h⟩
  | _ + 1 => ⟨fun _ => h, by rw [hr]; simp⟩
theorem drawn {id : Nat} {a : Act} {w : World} (D : List Nat) (S : World → Prop) (hm : P.follows .mixedOrders = true)
    (h : wpAnyN P .any ops Q D S ops.size (Array.replicate ops.size false) a w.drew) : (Code.region id ops true).wp P Q a w :=
  wp_region_any hm (wpAny_of_N _ _ _ _ h)
theorem drawn_lit {id : Nat} {l : List Oper} {a : Act} {w : World} (D : List Nat) (S : World → Prop) (hm : P.follows .mixedOrders = true)
    (h : wpAnyN P .any l.toArray Q D S l.length (List.replicate l.length false).toArray a w.drew) : (Code.region id l.toArray true).wp P Q a w :=
  drawn D S hm (by simpa using h)
end
end Go.Proofs.YtehbjhocgnfpmaaDoor

/- The types of this translation: which take one cell, how many the others take, what a slice's elements are. -/
namespace Go.Proofs.YtehbjhocgnfpmaaDoor
def oneTs : List Nat := [1, 2, 3, 4, 5, 6, 9, 10, 11, 12, 15, 16, 17, 20, 21, 22, 23, 24, 25, 27, 28, 34, 36, 37, 39, 40, 41, 43, 44, 46, 47, 49, 50, 53, 54, 55, 56, 57, 58, 59, 61, 62, 63, 64, 65, 66, 67, 70, 71, 72, 74, 75, 76, 79, 80, 81, 82, 83, 84, 85, 87, 88, 89, 93, 95, 96, 97, 100, 102, 103, 105, 106, 107, 108, 109, 113, 114, 116, 117, 118, 122, 123, 126, 127, 128, 129, 130, 131, 134, 135, 136, 137, 138, 141, 142, 143, 145, 146, 147, 148, 149, 150, 151, 152, 153, 155, 157, 158, 159, 160, 161, 162, 163, 164, 165, 166, 167, 169, 170, 171, 173, 178, 179, 180, 181, 182, 188, 189, 190, 191, 192, 193, 196, 197]
def rowTs : List (Nat × Nat) := [(7, 4), (8, 4), (13, 2), (14, 2), (18, 1), (19, 1), (29, 16), (30, 17), (31, 17), (32, 34), (33, 34), (51, 64), (52, 64), (68, 3), (69, 3), (77, 3), (78, 3), (90, 3), (91, 3), (98, 2), (99, 2), (110, 2), (111, 2), (119, 2), (120, 2), (124, 2), (125, 2), (132, 2), (133, 2), (139, 2), (140, 2), (154, 2), (174, 256), (175, 2), (176, 2), (177, 32), (183, 4), (184, 4), (194, 11), (195, 11)]
theorem one_all : (oneTs.all fun t => decide ((Tryd.prog.underlying t).map TypeDesc.isRow = some false) && decide ((Tryd.prog.info? t).map (·.size) = some 1)) = true := by kernel_rfl
theorem row_all : (rowTs.all fun x => decide ((Tryd.prog.underlying x.1).map TypeDesc.isRow = some true) && decide ((Tryd.prog.info? x.1).map (·.size) = some x.2)) = true := by kernel_rfl
theorem one_of {t : TypeId} (h : oneTs.contains t = true) : One Tryd.prog t := by
  have h1 := List.all_eq_true.1 one_all t (by simpa using h)
  simp only [Bool.and_eq_true, decide_eq_true_eq] at h1
  exact h1
theorem row_of {t n : Nat} (h : rowTs.contains (t, n) = true) : RowN Tryd.prog t n := by
  have h1 := List.all_eq_true.1 row_all (t, n) (by simpa using h)
  simp only [Bool.and_eq_true, decide_eq_true_eq] at h1
  exact h1
theorem za52 (w : World) : (zeroValue 52).run Tryd.prog w = .ok (.agg (iv (List.replicate 64 0))) w := Tryd.zeroValue52 w
theorem el22 : ElemT Tryd.prog 22 52 64 512 := ElemT.mk' (.agg #[.int .i64 0, .int .i64 0, .int .i64 0, .int .i64 0, .int .i64 0, .int .i64 0, .int .i64 0, .int .i64 0, .int .i64 0, .int .i64 0, .int .i64 0, .int .i64 0, .int .i64 0, .int .i64 0, .int .i64 0, .int .i64 0, .int .i64 0, .int .i64 0, .int .i64 0, .int .i64 0, .int .i64 0, .int .i64 0, .int .i64 0, .int .i64 0, .int .i64 0, .int .i64 0, .int .i64 0, .int .i64 0, .int .i64 0, .int .i64 0, .int .i64 0, .int .i64 0, .int .i64 0, .int .i64 0, .int .i64 0, .int .i64 0, .int .i64 0, .int .i64 0, .int .i64 0, .int .i64 0, .int .i64 0, .int .i64 0, .int .i64 0, .int .i64 0, .int .i64 0, .int .i64 0, .int .i64 0, .int .i64 0, .int .i64 0, .int .i64 0, .int .i64 0, .int .i64 0, .int .i64 0, .int .i64 0, .int .i64 0, .int .i64 0, .int .i64 0, .int .i64 0, .int .i64 0, .int .i64 0, .int .i64 0, .int .i64 0, .int .i64 0, .int .i64 0]) Tryd.underlying22 (by kernel_rfl) rfl (by decide)
theorem el24 : ElemT Tryd.prog 24 3 1 8 := ElemT.mk' (.int .i64 0) Tryd.underlying24 (by kernel_rfl) rfl (by decide)
theorem el34 : ElemT Tryd.prog 34 5 1 1 := ElemT.mk' (.int .u8 0) Tryd.underlying34 (by kernel_rfl) rfl (by decide)
theorem el37 : ElemT Tryd.prog 37 34 1 24 := ElemT.mk' (.slice none 0 0) Tryd.underlying37 (by kernel_rfl) rfl (by decide)
theorem el85 : ElemT Tryd.prog 85 91 3 24 := ElemT.mk' (.agg #[.int .i64 0, .int .i64 0, .int .i64 0]) Tryd.underlying85 (by kernel_rfl) rfl (by decide)
theorem el100 : ElemT Tryd.prog 100 69 3 24 := ElemT.mk' (.agg #[.int .i64 0, .int .i64 0, .int .i64 0]) Tryd.underlying100 (by kernel_rfl) rfl (by decide)
theorem el106 : ElemT Tryd.prog 106 31 17 152 := ElemT.mk' (.agg #[.int .i64 0, .int .i64 0, .int .i64 0, .int .i64 0, .int .i64 0, .int .i64 0, .int .i64 0, .int .i64 0, .int .i64 0, .int .i64 0, .int .i64 0, .int .i64 0, .int .i64 0, .int .i64 0, .int .i64 0, .int .i64 0, .slice none 0 0]) Tryd.underlying106 (by kernel_rfl) rfl (by decide)
theorem el134 : ElemT Tryd.prog 134 133 2 32 := ElemT.mk' (.agg #[.int .i64 0, .slice none 0 0]) Tryd.underlying134 (by kernel_rfl) rfl (by decide)
theorem el160 : ElemT Tryd.prog 160 24 1 24 := ElemT.mk' (.slice none 0 0) Tryd.underlying160 (by kernel_rfl) rfl (by decide)
end Go.Proofs.YtehbjhocgnfpmaaDoor

/- The operations that only compute, each by a law of its own: no simp, nothing of the context is used but by omega. -/
namespace Go.Proofs.YtehbjhocgnfpmaaDoor
open Go.RowKit
set_option linter.unusedVariables false
/-- The operation op, at the frame a, gives v, and leaves the world alone. -/
def Val (P : Program) (op : Op) (ty : TypeId) (a : Act) (v : Value) : Prop :=
  ∀ (d : Option Tmp) (pos : String) (af : Array Edge) (g : Option (Nat × Bool)) (w : World), (execOp a.eval ⟨d, op, ty, pos, af, g⟩).run P w = .ok (.value v) w
section
variable {P : Program} {ops : Array Oper} {Q : Exit → Act → World → Prop} {rest : List Oper} {a : Act} {w : World} {d : Option Tmp} {op : Op} {ty : TypeId} {pos : String} {af : Array Edge} {g : Option (Nat × Bool)}
theorem wp_const (v : Value) (K : Act → World → Prop) (h : K (a.put d v) w) : (Oper.mk d (.move (.const v)) ty pos af g).wp P a w K Q := h
theorem wplV (v : Value) (hv : Val P op ty a v) (hw : Region.wanted ⟨d, op, ty, pos, af, g⟩ (yielded ops a.tmps) = true) (h : (Oper.mk d (.move (.const v)) ty pos af g).wp P a w (wpList P ops Q rest) Q) : wpList P ops Q (⟨d, op, ty, pos, af, g⟩ :: rest) a w := by
  refine wpl hw ?_
  unfold Oper.wp
  rw [hv d pos af g w]
  exact h
/-- A Bool that decides of what follows: both ways. -/
theorem wplB (b : Bool) (hv : Val P op ty a (.bool b)) (hw : Region.wanted ⟨d, op, ty, pos, af, g⟩ (yielded ops a.tmps) = true) (ht : b = true → (Oper.mk d (.move (.const (.bool true))) ty pos af g).wp P a w (wpList P ops Q rest) Q)
    (hf : b = false → (Oper.mk d (.move (.const (.bool false))) ty pos af g).wp P a w (wpList P ops Q rest) Q) : wpList P ops Q (⟨d, op, ty, pos, af, g⟩ :: rest) a w := by
  cases b
  · exact wplV _ hv hw (hf rfl)
  · exact wplV _ hv hw (ht rfl)
theorem wplD (p : Prop) [Decidable p] (hv : Val P op ty a (.bool (decide p))) (hw : Region.wanted ⟨d, op, ty, pos, af, g⟩ (yielded ops a.tmps) = true) (ht : p → (Oper.mk d (.move (.const (.bool true))) ty pos af g).wp P a w (wpList P ops Q rest) Q)
    (hf : ¬ p → (Oper.mk d (.move (.const (.bool false))) ty pos af g).wp P a w (wpList P ops Q rest) Q) : wpList P ops Q (⟨d, op, ty, pos, af, g⟩ :: rest) a w :=
  wplB _ hv hw (fun h => ht (of_decide_eq_true h)) (fun h => hf (of_decide_eq_false h))
theorem put_move {d : Tmp} {v : Value} (h : (Oper.mk (some d) (.move (.const v)) 0 "" #[] none).wp P a w (wpList P ops Q rest) Q) : wpList P ops Q rest (a.put (some d) v) w := h
theorem drawn_move {md : Region.Mode} {D : List Nat} {S : World → Prop} {fuel : Nat} {listed : Array Bool} {d : Tmp} {v : Value} (h : (Oper.mk (some d) (.move (.const v)) 0 "" #[] none).wp P a w (wpAnyN P md ops Q D S fuel listed) Q) : wpAnyN P md ops Q D S fuel listed (a.put (some d) v) w := h
theorem wplPickT {c x y : Operand} (hc : a.eval c = .bool true) (hw : Region.wanted ⟨d, .pick c x y, ty, pos, af, g⟩ (yielded ops a.tmps) = true) (h : (Oper.mk d (.move x) ty pos af g).wp P a w (wpList P ops Q rest) Q) : wpList P ops Q (⟨d, .pick c x y, ty, pos, af, g⟩ :: rest) a w := by
  refine wpl hw ?_
  unfold Oper.wp execOp at *
  simp only [hc, asBool, Sem.run_bind, Sem.run_pure, Result.andThen_ok, if_true] at *
  exact h
theorem wplPickF {c x y : Operand} (hc : a.eval c = .bool false) (hw : Region.wanted ⟨d, .pick c x y, ty, pos, af, g⟩ (yielded ops a.tmps) = true) (h : (Oper.mk d (.move y) ty pos af g).wp P a w (wpList P ops Q rest) Q) : wpList P ops Q (⟨d, .pick c x y, ty, pos, af, g⟩ :: rest) a w := by
  refine wpl hw ?_
  unfold Oper.wp execOp at *
  simp only [hc, asBool, Sem.run_bind, Sem.run_pure, Result.andThen_ok, Bool.false_eq_true, if_false] at *
  exact h
end
/-- An integer that is a natural number. -/
def IsN (z : Int) (j : Nat) : Prop := z = (j : Int)
theorem IsN.cast {j : Nat} : IsN (j : Int) j := rfl
theorem IsN.add {x y : Int} {i j : Nat} (h : IsN x i) (k : IsN y j) : IsN (x + y) (i + j) := by unfold IsN at *; omega
theorem IsN.mul {x y : Int} {i j : Nat} (h : IsN x i) (k : IsN y j) : IsN (x * y) (i * j) := by unfold IsN at *; rw [h, k]; push_cast; rfl
theorem IsN.div {x y : Int} {i j : Nat} (h : IsN x i) (k : IsN y j) : IsN (x / y) (i / j) := by unfold IsN at *; rw [h, k]; push_cast; rfl
theorem IsN.mod {x y : Int} {i j : Nat} (h : IsN x i) (k : IsN y j) : IsN (x % y) (i % j) := by unfold IsN at *; rw [h, k]; push_cast; rfl
theorem IsN.min {x y : Int} {i j : Nat} (h : IsN x i) (k : IsN y j) : IsN (Min.min x y) (Min.min i j) := by unfold IsN at *; omega
theorem IsN.max {x y : Int} {i j : Nat} (h : IsN x i) (k : IsN y j) : IsN (Max.max x y) (Max.max i j) := by unfold IsN at *; omega
/-- The same, found by its form. -/
class IsNc (z : Int) (j : outParam Nat) : Prop where
  out : IsN z j
instance IsNc.cast {j : Nat} : IsNc (j : Int) j := ⟨rfl⟩
instance IsNc.l0 : IsNc 0 0 := ⟨rfl⟩
instance IsNc.l1 : IsNc 1 1 := ⟨rfl⟩
instance IsNc.l4 : IsNc 4 4 := ⟨rfl⟩
instance IsNc.l256 : IsNc 256 256 := ⟨rfl⟩
instance IsNc.add {x y : Int} {i j : Nat} [h : IsNc x i] [k : IsNc y j] : IsNc (x + y) (i + j) := ⟨h.out.add k.out⟩
theorem IsN.auto {z : Int} {j : Nat} [h : IsNc z j] : IsN z j := h.out
theorem IsN.sub {x y : Int} {i j : Nat} (h : IsN x i) (k : IsN y j) (l : j ≤ i) : IsN (x - y) (i - j) := by unfold IsN at *; omega
theorem IsN.toNat {x : Int} (h : 0 ≤ x) : IsN x x.toNat := by unfold IsN; omega
section
variable {P : Program} {a : Act} {x y z : Operand} {t u ty : TypeId} {m n : Int} {k : IntKind}
/-- Another spelling. -/
theorem V.as {op : Op} {m' : Int} (h : Val P op ty a (.int k m)) (e : m = m') : Val P op ty a (.int k m') := e ▸ h
theorem V.add (hx : a.eval x = .int k m) (hy : a.eval y = .int k n) : Val P (.binOp .add t x y u) ty a (.int k (k.wrap (m + n))) := fun d pos af g w => by
  simp only [execOp, hx, hy, binOp_add, Op.intArith, eqGuard]; rfl
theorem V.sub (hx : a.eval x = .int k m) (hy : a.eval y = .int k n) : Val P (.binOp .sub t x y u) ty a (.int k (k.wrap (m - n))) := fun d pos af g w => by
  simp only [execOp, hx, hy, binOp_sub, Op.intArith, eqGuard]; rfl
theorem V.mul (hx : a.eval x = .int k m) (hy : a.eval y = .int k n) : Val P (.binOp .mul t x y u) ty a (.int k (k.wrap (m * n))) := fun d pos af g w => by
  simp only [execOp, hx, hy, binOp_mul, Op.intArith, eqGuard]; rfl
theorem V.addI (hx : a.eval x = .int .i64 m) (hy : a.eval y = .int .i64 n) (h : -9223372036854775808 ≤ m + n ∧ m + n ≤ 9223372036854775807) : Val P (.binOp .add t x y u) ty a (.int .i64 (m + n)) := by
  have := V.add (P := P) (t := t) (u := u) (ty := ty) hx hy; rwa [IntWalk.i64_in _ h] at this
theorem V.subR (hk : k ≠ .i64) (hx : a.eval x = .int k m) (hy : a.eval y = .int k n) : Val P (.binOp .sub t x y u) ty a (.int k (k.wrap (m - n))) := V.sub hx hy
theorem V.subI (hx : a.eval x = .int .i64 m) (hy : a.eval y = .int .i64 n) (h : -9223372036854775808 ≤ m - n ∧ m - n ≤ 9223372036854775807) : Val P (.binOp .sub t x y u) ty a (.int .i64 (m - n)) := by
  have := V.sub (P := P) (t := t) (u := u) (ty := ty) hx hy; rwa [IntWalk.i64_in _ h] at this
theorem V.mulI (hx : a.eval x = .int .i64 m) (hy : a.eval y = .int .i64 n) (h : -9223372036854775808 ≤ m * n ∧ m * n ≤ 9223372036854775807) : Val P (.binOp .mul t x y u) ty a (.int .i64 (m * n)) := by
  have := V.mul (P := P) (t := t) (u := u) (ty := ty) hx hy; rwa [IntWalk.i64_in _ h] at this
theorem V.neg (hx : a.eval x = .int .i64 n) (h : -9223372036854775807 ≤ n ∧ n ≤ 9223372036854775807) : Val P (.unOp .neg t x) ty a (.int .i64 (-n)) := fun d pos af g w => by
  have e : Op.unary .neg (.int .i64 n) = pure (.int .i64 (IntKind.i64.wrap (0 - n))) := rfl
  simp only [execOp, hx, e, Int.zero_sub, IntWalk.i64_in (-n) (by omega)]; rfl
theorem V.quo (hx : a.eval x = .int .i64 m) (hy : a.eval y = .int .i64 n) (h : 0 ≤ m ∧ m ≤ 9223372036854775807) (h2 : 0 < n) : Val P (.binOp .quo t x y u) ty a (.int .i64 (m / n)) := fun d pos af g w => by
  have e1 : m.tdiv n = m / n := Int.tdiv_eq_ediv_of_nonneg h.1
  have e2 : 0 ≤ m / n := Int.ediv_nonneg h.1 (by omega)
  have e3 : m / n ≤ m := Int.ediv_le_self n h.1
  have hn : n ≠ 0 := by omega
  simp only [execOp, hx, hy, binOp_quo, Op.intDiv, eqGuard, if_neg hn, e1, IntWalk.i64_in (m / n) (by omega)]; rfl
theorem V.rem (hx : a.eval x = .int k m) (hy : a.eval y = .int k n) (h : 0 ≤ m) (h2 : 0 < n) : Val P (.binOp .rem t x y u) ty a (.int k (m % n)) := fun d pos af g w => by
  have hn : n ≠ 0 := by omega
  simp only [execOp, hx, hy, binOp_rem, Op.intDiv, eqGuard, if_neg hn, Int.tmod_eq_emod_of_nonneg h]; rfl
theorem V.shl {yk : IntKind} {j : Nat} (hx : a.eval x = .int k m) (hy : a.eval y = .int yk n) (hj : IsN n j) (h : j < 64) (hk : k.bits = 64) : Val P (.binOp .shl t x y u) ty a (.int k (k.wrap (m * 2 ^ j))) := fun d pos af g w => by
  unfold IsN at hj
  have h0 : ¬ n < 0 := by omega
  have hm : Min.min n.toNat k.bits = j := by omega
  simp only [execOp, hx, hy, binOp_shl, Op.shift, eqGuard, if_neg h0, hm]; rfl
theorem V.shlI {yk : IntKind} {j : Nat} (hx : a.eval x = .int .i64 m) (hy : a.eval y = .int yk n) (hj : IsN n j) (h : j < 64) (h1 : -9223372036854775808 ≤ m * 2 ^ j ∧ m * 2 ^ j ≤ 9223372036854775807) : Val P (.binOp .shl t x y u) ty a (.int .i64 (m * 2 ^ j)) := by
  have := V.shl (P := P) (t := t) (u := u) (ty := ty) hx hy hj h rfl; rwa [IntWalk.i64_in _ h1] at this
theorem V.shl1 {yk : IntKind} {j : Nat} (hx : a.eval x = .int .i64 1) (hy : a.eval y = .int yk n) (hj : IsN n j) (h : j < 63) : Val P (.binOp .shl t x y u) ty a (.int .i64 (2 ^ j)) := by
  have e : (2 : Int) ^ j ≤ 4611686018427387904 := by
    have := Nat.pow_le_pow_right (n := 2) (by omega) (show j ≤ 62 by omega)
    have h2 : (2 : Int) ^ j = ((2 ^ j : Nat) : Int) := by push_cast; rfl
    omega
  have e0 : (0 : Int) ≤ 2 ^ j := Int.pow_nonneg (by omega)
  have := V.shl (P := P) (t := t) (u := u) (ty := ty) hx hy hj (by omega) rfl
  rwa [Int.one_mul, IntWalk.i64_in _ (by omega)] at this
theorem V.shr {yk : IntKind} {j : Nat} (hx : a.eval x = .int k m) (hy : a.eval y = .int yk n) (hj : IsN n j) (h : j < 64) (hk : k.bits = 64) : Val P (.binOp .shr t x y u) ty a (.int k (m / 2 ^ j)) := fun d pos af g w => by
  unfold IsN at hj
  have e : m.fdiv (2 ^ j) = m / 2 ^ j := Int.fdiv_eq_ediv_of_nonneg _ (Int.pow_nonneg (by omega))
  have h0 : ¬ n < 0 := by omega
  have hm : Min.min n.toNat k.bits = j := by omega
  simp only [execOp, hx, hy, binOp_shr, Op.shift, eqGuard, if_neg h0, hm, e]; rfl
theorem V.or (hx : a.eval x = .int k m) (hy : a.eval y = .int k n) : Val P (.binOp .or t x y u) ty a (.int k (bits .or k m n)) := fun d pos af g w => by
  simp only [execOp, hx, hy, binOp_or, intBits_or, eqGuard]; rfl
theorem V.eql (hx : a.eval x = .int k m) (hy : a.eval y = .int k n) : Val P (.binOp .eql t x y u) ty a (.bool (decide (m = n))) := fun d pos af g w => by
  simp only [execOp, hx, hy, binOp_eql, eqGuard_at_int]; rfl
theorem V.neq (hx : a.eval x = .int k m) (hy : a.eval y = .int k n) : Val P (.binOp .neq t x y u) ty a (.bool (decide (m ≠ n))) := fun d pos af g w => by
  simp only [execOp, hx, hy, binOp_neq, eqGuard_at_int, ne_eq, decide_not]; rfl
theorem V.lss (hx : a.eval x = .int k m) (hy : a.eval y = .int k n) : Val P (.binOp .lss t x y u) ty a (.bool (decide (m < n))) := fun d pos af g w => by
  simp only [execOp, hx, hy, binOp_lss, eqGuard]; rfl
theorem V.leq (hx : a.eval x = .int k m) (hy : a.eval y = .int k n) : Val P (.binOp .leq t x y u) ty a (.bool (decide (m ≤ n))) := fun d pos af g w => by
  simp only [execOp, hx, hy, binOp_leq, eqGuard]; rfl
theorem V.gtr (hx : a.eval x = .int k m) (hy : a.eval y = .int k n) : Val P (.binOp .gtr t x y u) ty a (.bool (decide (n < m))) := fun d pos af g w => by
  simp only [execOp, hx, hy, binOp_gtr, eqGuard]; rfl
theorem V.geq (hx : a.eval x = .int k m) (hy : a.eval y = .int k n) : Val P (.binOp .geq t x y u) ty a (.bool (decide (n ≤ m))) := fun d pos af g w => by
  simp only [execOp, hx, hy, binOp_geq, eqGuard]; rfl
theorem V.not {b : Bool} (hx : a.eval x = .bool b) : Val P (.unOp .not t x) ty a (.bool (!b)) := fun d pos af g w => by
  simp only [execOp, hx, Op.unary]; rfl
theorem V.notD {p : Prop} [Decidable p] (hx : a.eval x = .bool (decide p)) : Val P (.unOp .not t x) ty a (.bool (decide (¬ p))) := by
  rw [decide_not]; exact V.not hx
theorem V.convI {k' : IntKind} (hs : (P.underlying t).isSome = true) (hd : P.underlying u = some (.int k')) (hx : a.eval x = .int k m) (h : k'.wrap m = m) : Val P (.convert t u x) ty a (.int k' m) := fun d pos af g w => by
  have e : P.intKind u = k' := by simp [Program.intKind, hd]
  have e2 := run_convert_int (P := P) w t u k m hs (by rw [e]; exact hd)
  rw [e, h] at e2
  simp only [execOp, hx, Sem.run_bind, e2, Result.andThen_ok, Sem.run_pure]
theorem V.extract {vs : List Value} {i : Nat} {v : Value} (hx : a.eval x = .tuple vs.toArray) (hv : vs[i]? = some v) : Val P (.extract x i) ty a v := fun d pos af g w => by
  have e : (vs.toArray)[i]? = some v := by simpa using hv
  simp only [execOp, hx, Instr.extract, e]; rfl
theorem V.nilCheck {p : Addr} (hx : a.eval x = .pointer (some p)) : Val P (.nilCheck x) ty a (.pointer (some p)) := fun d pos af g w => by
  simp only [execOp, hx]; rfl
theorem V.len {ad : Option Addr} {n c : Nat} {e : TypeId} (ht : P.underlying t = some (.slice e)) (hx : a.eval x = .slice ad n c) : Val P (.call { callee := .builtin .len, args := #[x], argTypes := #[t] }) ty a (.int .i64 n) := fun d pos af g w => by
  have e : P.elem t = e := by simp [Program.elem, ht]
  have e2 := run_len_slice (P := P) w t ty ad n c (by rw [e]; exact ht)
  simp only [execOp, resolve, invoke, builtin, Sem.run_bind, Sem.run_pure, Result.andThen_ok, List.map_toArray, List.map_cons, List.map_nil, hx, e2]
  rfl
theorem V.max {ts : Array TypeId} (hx : a.eval x = .int k m) (hy : a.eval y = .int k n) : Val P (.call { callee := .builtin .max, args := #[x, y], argTypes := ts }) ty a (.int k (Max.max m n)) := fun d pos af g w => by
  simp only [execOp, resolve, invoke, builtin, Sem.run_bind, Sem.run_pure, Result.andThen_ok, List.map_toArray, List.map_cons, List.map_nil, hx, hy, run_max_int2']
theorem V.min {ts : Array TypeId} (hx : a.eval x = .int k m) (hy : a.eval y = .int k n) : Val P (.call { callee := .builtin .min, args := #[x, y], argTypes := ts }) ty a (.int k (Min.min m n)) := fun d pos af g w => by
  simp only [execOp, resolve, invoke, builtin, Sem.run_bind, Sem.run_pure, Result.andThen_ok, List.map_toArray, List.map_cons, List.map_nil, hx, hy, run_min_int2']
/-- The element's place. -/
theorem V.indexSl {b off n c j s js q : Nat} {e : TypeId} {i : Int} (ht : P.underlying t = some (.slice e)) (hs : (P.info? e).map (·.size) = some s) (hx : a.eval x = .slice (some ⟨b, off, none⟩) n c) (hy : a.eval y = .int k i) (hj : IsN i j) (hn : j < n) (hjs : j * s = js) (hq : off + js = q) :
    Val P (.indexAddr t x y) ty a (.pointer (some ⟨b, q, none⟩)) := fun d pos af g w => by
  unfold IsN at hj
  subst hjs
  have e0 : P.elem t = e := by simp [Program.elem, ht]
  have e2 := run_indexAt_slice (P := P) w t ⟨b, off, none⟩ n c k i (by rw [e0]; exact ht)
  rw [if_pos (by omega), e0, run_sizeOf' w hs, Result.andThen_ok, Addr.add_mid, show i.toNat = j by omega, hq] at e2
  simp only [execOp, hx, hy, Sem.run_bind, e2, Result.andThen_ok, Sem.run_pure]
theorem V.indexAr {b off n j s js q : Nat} {e : TypeId} {i : Int} (ht : P.underlying t = some (.array n e)) (hs : (P.info? e).map (·.size) = some s) (hx : a.eval x = .pointer (some ⟨b, off, none⟩)) (hy : a.eval y = .int k i) (hj : IsN i j) (hn : j < n) (hjs : j * s = js) (hq : off + js = q) :
    Val P (.indexAddr t x y) ty a (.pointer (some ⟨b, q, none⟩)) := fun d pos af g w => by
  unfold IsN at hj
  subst hjs
  have e0 : P.elem t = e := by simp [Program.elem, ht]
  have e1 : P.arrayLen t = n := by simp [Program.arrayLen, ht]
  have e2 := run_indexAt_array (P := P) w t ⟨b, off, none⟩ k i (by rw [e0, e1]; exact ht)
  rw [e1, if_pos (by omega), e0, run_sizeOf' w hs, Result.andThen_ok, Addr.add_mid, show i.toNat = j by omega, hq] at e2
  simp only [execOp, hx, hy, Sem.run_bind, e2, Result.andThen_ok, Sem.run_pure]
/-- An element of an array of ints. -/
theorem V.indexIv {l : List Int} {n j : Nat} {e : TypeId} {i : Int} (ht : P.underlying t = some (.array n e)) (he : P.underlying e = some (.int .i64)) (hs : (P.info? e).map (·.size) = some 1) (hx : a.eval x = .agg (iv l)) (hy : a.eval y = .int k i) (hl : Len l n) (hj : IsN i j) (hn : j < n) :
    Val P (.index t x y) ty a (.int .i64 (nth l j)) := fun d pos af g w => by
  unfold IsN at hj
  have e0 : P.elem t = e := by simp [Program.elem, ht]
  have e1 : P.arrayLen t = n := by simp [Program.arrayLen, ht]
  have e3 : (isAgg e).run P w = .ok false w := by simp [isAgg, run_underlying he]
  have e2 := run_index_arr (P := P) w t (iv l) k i (by rw [e0, e1]; exact ht)
  rw [e1, if_pos (by omega), e0, run_sizeOf' w hs, Result.andThen_ok, show i.toNat = j by omega, Nat.mul_one, run_part, e3, Result.andThen_ok, iv_get l j (by rw [hl.out]; exact hn)] at e2
  simp only [execOp, hx, hy, Sem.run_bind, e2, Result.andThen_ok, Sem.run_pure, Bool.false_eq_true, if_false]
end
section
variable {P : Program} {ops : Array Oper} {Q : Exit → Act → World → Prop} {rest : List Oper} {a : Act} {W w : World} {rs : List Res} {d : Option Tmp} {x y : Operand} {t ty : TypeId} {pos : String} {af : Array Edge} {g : Option (Nat × Bool)} {k : IntKind}
/-- An element of a slice that came in: the cells at its place. -/
theorem wpl_indexW {ad : Option Addr} {n c j s : Nat} {cs : List Value} {e : TypeId} {i : Int} (hv : Sl W s (.slice ad n c) n cs) (ht : P.underlying t = some (.slice e)) (hs : (P.info? e).map (·.size) = some s) (hx : a.eval x = .slice ad n c) (hy : a.eval y = .int k i) (hj : IsN i j) (hn : j < n)
    (hw : Region.wanted ⟨d, .indexAddr t x y, ty, pos, af, g⟩ (yielded ops a.tmps) = true)
    (h : ∀ b o, W.rangeAt b o ((cs.drop (j * s)).take s) → (Oper.mk d (.move (.const (.pointer (some ⟨b, o, none⟩)))) ty pos af g).wp P a w (wpList P ops Q rest) Q) : wpList P ops Q (⟨d, .indexAddr t x y, ty, pos, af, g⟩ :: rest) a w := by
  obtain ⟨hl, a', c', e1, _, _, hor⟩ := hv
  cases e1
  rcases hor with h0 | ⟨b, off, rfl, hc⟩
  · omega
  · refine wplV _ (V.indexSl (q := off + j * s) ht hs hx hy hj hn rfl rfl) hw (h b _ fun m v hv => ?_)
    rw [List.getElem?_take] at hv
    split at hv
    · rename_i hm
      rw [List.getElem?_drop] at hv
      have hjs : j * s + s ≤ n * s := by have := Nat.mul_le_mul_right s hn; rw [Nat.succ_mul] at this; exact this
      rw [Nat.add_assoc, hc (j * s + m) (by omega), hv]
    · cases hv
theorem wpl_indexI {ad : Option Addr} {n c j : Nat} {l : List Int} {e : TypeId} {i : Int} (hv : Sl W 1 (.slice ad n c) n (l.map (Value.int .i64))) (ht : P.underlying t = some (.slice e)) (hs : (P.info? e).map (·.size) = some 1) (hx : a.eval x = .slice ad n c) (hy : a.eval y = .int k i) (hj : IsN i j) (hn : j < n)
    (hw : Region.wanted ⟨d, .indexAddr t x y, ty, pos, af, g⟩ (yielded ops a.tmps) = true)
    (h : ∀ b o, W.cell? ⟨b, o, none⟩ = some (.int .i64 (nth l j)) → (Oper.mk d (.move (.const (.pointer (some ⟨b, o, none⟩)))) ty pos af g).wp P a w (wpList P ops Q rest) Q) : wpList P ops Q (⟨d, .indexAddr t x y, ty, pos, af, g⟩ :: rest) a w :=
  wpl_indexW hv ht hs hx hy hj hn hw fun b o hr => h b o (by
    have hl : l.length = n := by have := hv.1; simpa using this
    have := hr 0 (.int .i64 (nth l j)) (by simp [nth, List.getD, List.getElem?_drop, hl, hn])
    simpa using this)
end
/-- A field of a struct. -/
structure FieldOf (P : Program) (s : TypeId) (f : Nat) (fo : Nat) (ft : TypeId) : Prop where
  ex : ∃ fs fl, P.underlying s = some (.struct fs) ∧ fs[f]? = some fl ∧ fl.offset = fo ∧ fl.type = ft
  sz : ∃ n, (P.info? ft).map (·.size) = some n ∧ n ≠ 0
section
variable {P : Program} {a : Act} {x : Operand} {t ft ty : TypeId} {f fo : Nat}
theorem FieldOf.mk' (fs : Array Field) (fl : Field) (n : Nat) (h1 : P.underlying t = some (.struct fs)) (h2 : fs[f]? = some fl) (h3 : fl.offset = fo) (h4 : fl.type = ft) (h5 : (P.info? ft).map (·.size) = some n) (h6 : n ≠ 0) : FieldOf P t f fo ft :=
  ⟨⟨fs, fl, h1, h2, h3, h4⟩, ⟨n, h5, h6⟩⟩
theorem V.fieldAddr {b off q : Nat} (hf : FieldOf P t f fo ft) (hx : a.eval x = .pointer (some ⟨b, off, none⟩)) (hq : off + fo = q) : Val P (.fieldAddr t x f) ty a (.pointer (some ⟨b, q, none⟩)) := fun d pos af g w => by
  obtain ⟨⟨fs, fl, h1, h2, rfl, rfl⟩, n, h3, h4⟩ := hf
  simp only [execOp, hx, Instr.fieldAt, Instr.sureAddr, Sem.run_bind, run_underlying h1, Result.andThen_ok, h2, fieldPlace, run_sizeOf' w h3, Sem.run_pure]
  rw [if_neg h4]
  simp only [Sem.run_pure, Result.andThen_ok, Addr.add_mid, hq]
end
end Go.Proofs.YtehbjhocgnfpmaaDoor

/- Short words for what the walks say often. -/
namespace Go.Proofs.YtehbjhocgnfpmaaDoor
open Go.RowKit
theorem pl9 {r : Res} {rs rs' : List Res} (h : Pull r rs rs' := by (repeat (first | with_reducible exact Pull.head | apply Pull.tail))) : Pull r rs rs' := h
theorem sb9 {xs rs : List Res} (h : Sub xs rs := by (repeat (first | exact Sub.nil | with_reducible exact Sub.refl | (apply Sub.cons; (case p => (repeat (first | with_reducible exact Pull.head | apply Pull.tail)))) | apply Sub.skip))) : Sub xs rs := h
theorem isn9 {z : Int} {j : Nat} (h : IsN z j := by (repeat (first | exact IsN.auto | with_reducible apply IsN.add | with_reducible apply IsN.sub | with_reducible apply IsN.mul | with_reducible apply IsN.div | with_reducible apply IsN.mod | with_reducible apply IsN.min | with_reducible apply IsN.max | (with_reducible show (_ : Nat) ≤ _; omega) | exact IsN.toNat (by omega)))) : IsN z j := h
theorem isv9 {x v : Value} (h : IsV x v := by (first | exact IsV.int rfl | exact IsV.bool rfl | exact IsV.slice rfl | exact IsV.pointer rfl | exact IsV.string rfl | exact IsV.map rfl | exact IsV.func rfl)) : IsV x v := h
theorem al9 {o : Oper} {i : Nat} {l : List Oper} (h : AtL o i l := by (repeat (first | with_reducible exact AtL.head | apply AtL.tail))) : AtL o i l := h
theorem nq9 {a b : Nat} (h : a = b := by first | with_reducible exact Nat.zero_add _ | with_reducible exact Nat.add_zero _ | exact rfl) : a = b := h
section
variable {P : Program} {ops : Array Oper} {Q : Exit → Act → World → Prop} {rest : List Oper} {a : Act} {w : World} {d : Option Tmp} {op : Op} {ty : TypeId} {pos : String} {af : Array Edge} {g : Option (Nat × Bool)} {x : Operand}
theorem gt9 (d : Option Tmp) (op : Op) (h : wpList P ops Q (⟨d, op, ty, pos, af, g⟩ :: rest) a w) : wpList P ops Q (⟨d, op, ty, pos, af, g⟩ :: rest) a w := h
theorem ga9 {o : Oper} (h : wpList P ops Q (o :: rest) a w) : wpList P ops Q (o :: rest) a w := h
theorem wvv9 {v : Value} (hv : Val P op ty a v) (h : (Oper.mk d (.move (.const v)) ty pos af g).wp P a w (wpList P ops Q rest) Q) (hw : Region.wanted ⟨d, op, ty, pos, af, g⟩ (yielded ops a.tmps) = true := by kernel_rfl) : wpList P ops Q (⟨d, op, ty, pos, af, g⟩ :: rest) a w := wplV v hv hw h
end
end Go.Proofs.YtehbjhocgnfpmaaDoor

/- The types of this translation: the cells of elements, the places of fields. -/
namespace Go.Proofs.YtehbjhocgnfpmaaDoor
theorem isz52 : (Tryd.prog.info? 52).map (·.size) = some 64 := by kernel_rfl
theorem isz3 : (Tryd.prog.info? 3).map (·.size) = some 1 := by kernel_rfl
theorem fo31_0 : FieldOf Tryd.prog 31 0 0 29 := FieldOf.mk' _ _ 16 Tryd.underlying31 rfl rfl rfl (by kernel_rfl) (by decide)
theorem fo31_1 : FieldOf Tryd.prog 31 1 16 24 := FieldOf.mk' _ _ 1 Tryd.underlying31 rfl rfl rfl (by kernel_rfl) (by decide)
theorem fo33_0 : FieldOf Tryd.prog 33 0 0 31 := FieldOf.mk' _ _ 17 Tryd.underlying33 rfl rfl rfl (by kernel_rfl) (by decide)
theorem fo33_1 : FieldOf Tryd.prog 33 1 17 31 := FieldOf.mk' _ _ 17 Tryd.underlying33 rfl rfl rfl (by kernel_rfl) (by decide)
theorem isz5 : (Tryd.prog.info? 5).map (·.size) = some 1 := by kernel_rfl
theorem fo69_0 : FieldOf Tryd.prog 69 0 0 3 := FieldOf.mk' _ _ 1 Tryd.underlying69 rfl rfl rfl (by kernel_rfl) (by decide)
theorem fo69_1 : FieldOf Tryd.prog 69 1 1 3 := FieldOf.mk' _ _ 1 Tryd.underlying69 rfl rfl rfl (by kernel_rfl) (by decide)
theorem fo69_2 : FieldOf Tryd.prog 69 2 2 3 := FieldOf.mk' _ _ 1 Tryd.underlying69 rfl rfl rfl (by kernel_rfl) (by decide)
theorem isz91 : (Tryd.prog.info? 91).map (·.size) = some 3 := by kernel_rfl
theorem fo91_0 : FieldOf Tryd.prog 91 0 0 3 := FieldOf.mk' _ _ 1 Tryd.underlying91 rfl rfl rfl (by kernel_rfl) (by decide)
theorem fo91_1 : FieldOf Tryd.prog 91 1 1 3 := FieldOf.mk' _ _ 1 Tryd.underlying91 rfl rfl rfl (by kernel_rfl) (by decide)
theorem fo91_2 : FieldOf Tryd.prog 91 2 2 3 := FieldOf.mk' _ _ 1 Tryd.underlying91 rfl rfl rfl (by kernel_rfl) (by decide)
theorem isz69 : (Tryd.prog.info? 69).map (·.size) = some 3 := by kernel_rfl
theorem isz31 : (Tryd.prog.info? 31).map (·.size) = some 17 := by kernel_rfl
theorem fo120_0 : FieldOf Tryd.prog 120 0 0 79 := FieldOf.mk' _ _ 1 Tryd.underlying120 rfl rfl rfl (by kernel_rfl) (by decide)
theorem fo120_1 : FieldOf Tryd.prog 120 1 1 79 := FieldOf.mk' _ _ 1 Tryd.underlying120 rfl rfl rfl (by kernel_rfl) (by decide)
theorem fo125_0 : FieldOf Tryd.prog 125 0 0 122 := FieldOf.mk' _ _ 1 Tryd.underlying125 rfl rfl rfl (by kernel_rfl) (by decide)
theorem fo125_1 : FieldOf Tryd.prog 125 1 1 123 := FieldOf.mk' _ _ 1 Tryd.underlying125 rfl rfl rfl (by kernel_rfl) (by decide)
theorem fo133_0 : FieldOf Tryd.prog 133 0 0 3 := FieldOf.mk' _ _ 1 Tryd.underlying133 rfl rfl rfl (by kernel_rfl) (by decide)
theorem fo133_1 : FieldOf Tryd.prog 133 1 1 24 := FieldOf.mk' _ _ 1 Tryd.underlying133 rfl rfl rfl (by kernel_rfl) (by decide)
theorem isz133 : (Tryd.prog.info? 133).map (·.size) = some 2 := by kernel_rfl
theorem isz24 : (Tryd.prog.info? 24).map (·.size) = some 1 := by kernel_rfl
end Go.Proofs.YtehbjhocgnfpmaaDoor

/- Regions that draw their order, by the laws of XPure: what computes is taken as soon as it may be; ways that meet again are joined. -/
namespace Go.Proofs.YtehbjhocgnfpmaaDoor
open Go.RowKit
set_option linter.unusedVariables false
section
variable {P : Program} {Q : Exit → Act → World → Prop} {md : Region.Mode} {D : List Nat} {S : World → Prop} {l : List Oper} {fuel : Nat} {listed : Array Bool} {a : Act} {w : World}
  {d : Option Tmp} {op : Op} {ty : TypeId} {pos : String} {af : Array Edge} {g : Option (Nat × Bool)}
/-- An operation that only computes: its value. -/
theorem takeV (i : Nat) (v : Value) (hi : AtL ⟨d, op, ty, pos, af, g⟩ i l) (hs : Region.noSelect l.toArray = true) (hf : Region.free md l.toArray listed i = true) (hr : (Region.ready md l.toArray listed).contains i = true)
    (hQ : ∀ v c a w, Q (.panic c) (a.put d v) w → Q (.panic c) a w) (hv : Val P op ty a v) (hw : Region.wanted ⟨d, op, ty, pos, af, g⟩ (yielded l.toArray a.tmps) = true)
    (h : (Oper.mk d (.move (.const v)) ty pos af g).wp P a w (wpAnyN P md l.toArray Q D S fuel (listed.setIfInBounds i true)) Q) : wpAnyN P md l.toArray Q D S (fuel + 1) listed a w :=
  takeP i hi hs hf hr hQ (fun w => wplV v hv hw (wp_const v _ (show wpList P l.toArray _ [] _ _ from wpList_nil ⟨rfl, rfl⟩))) (by cases d <;> rfl) h
theorem takeM (i : Nat) (x : Operand) (hi : AtL ⟨d, .move x, ty, pos, af, g⟩ i l) (hs : Region.noSelect l.toArray = true) (hf : Region.free md l.toArray listed i = true) (hr : (Region.ready md l.toArray listed).contains i = true)
    (hQ : ∀ v c a w, Q (.panic c) (a.put d v) w → Q (.panic c) a w) (hw : Region.wanted ⟨d, .move x, ty, pos, af, g⟩ (yielded l.toArray a.tmps) = true)
    (h : (Oper.mk d (.move x) ty pos af g).wp P a w (wpAnyN P md l.toArray Q D S fuel (listed.setIfInBounds i true)) Q) : wpAnyN P md l.toArray Q D S (fuel + 1) listed a w :=
  takeP i hi hs hf hr hQ (a1 := a.put d (a.eval x)) (fun w => wplV _ (fun _ _ _ _ _ => rfl) hw (wp_const _ _ (show wpList P l.toArray _ [] _ _ from wpList_nil ⟨rfl, rfl⟩))) (by cases d <;> rfl) h
theorem takeA (i : Nat) (x : Operand) (hi : AtL ⟨d, .assign x, ty, pos, af, g⟩ i l) (hs : Region.noSelect l.toArray = true) (hf : Region.free md l.toArray listed i = true) (hr : (Region.ready md l.toArray listed).contains i = true)
    (hQ : ∀ v c a w, Q (.panic c) (a.put d v) w → Q (.panic c) a w) (hw : Region.wanted ⟨d, .assign x, ty, pos, af, g⟩ (yielded l.toArray a.tmps) = true)
    (h : (Oper.mk d (.move x) ty pos af g).wp P a w (wpAnyN P md l.toArray Q D S fuel (listed.setIfInBounds i true)) Q) : wpAnyN P md l.toArray Q D S (fuel + 1) listed a w :=
  takeP i hi hs hf hr hQ (a1 := a.put d (a.eval x)) (fun w => wplV _ (fun _ _ _ _ _ => rfl) hw (wp_const _ _ (show wpList P l.toArray _ [] _ _ from wpList_nil ⟨rfl, rfl⟩))) (by cases d <;> rfl) h
theorem takePick (i : Nat) (b : Bool) {c x y : Operand} (hi : AtL ⟨d, .pick c x y, ty, pos, af, g⟩ i l) (hs : Region.noSelect l.toArray = true) (hf : Region.free md l.toArray listed i = true) (hr : (Region.ready md l.toArray listed).contains i = true)
    (hQ : ∀ v c a w, Q (.panic c) (a.put d v) w → Q (.panic c) a w) (hc : a.eval c = .bool b) (hw : Region.wanted ⟨d, .pick c x y, ty, pos, af, g⟩ (yielded l.toArray a.tmps) = true)
    (h : (Oper.mk d (.move (bif b then x else y)) ty pos af g).wp P a w (wpAnyN P md l.toArray Q D S fuel (listed.setIfInBounds i true)) Q) : wpAnyN P md l.toArray Q D S (fuel + 1) listed a w :=
  takeP i hi hs hf hr hQ (a1 := a.put d (a.eval (bif b then x else y))) (fun w => wplV _ (fun _ _ _ _ w => by simp only [execOp, hc, asBool, Sem.run_bind, Sem.run_pure, Result.andThen_ok]; cases b <;> rfl) hw (wp_const _ _ (show wpList P l.toArray _ [] _ _ from wpList_nil ⟨rfl, rfl⟩))) (by cases d <;> rfl) h
theorem takePickT (i : Nat) {c x y : Operand} (hi : AtL ⟨d, .pick c x y, ty, pos, af, g⟩ i l) (hs : Region.noSelect l.toArray = true) (hf : Region.free md l.toArray listed i = true) (hr : (Region.ready md l.toArray listed).contains i = true)
    (hQ : ∀ v c a w, Q (.panic c) (a.put d v) w → Q (.panic c) a w) (hc : a.eval c = .bool true) (hw : Region.wanted ⟨d, .pick c x y, ty, pos, af, g⟩ (yielded l.toArray a.tmps) = true)
    (h : (Oper.mk d (.move x) ty pos af g).wp P a w (wpAnyN P md l.toArray Q D S fuel (listed.setIfInBounds i true)) Q) : wpAnyN P md l.toArray Q D S (fuel + 1) listed a w := takePick i true hi hs hf hr hQ hc hw h
theorem takePickF (i : Nat) {c x y : Operand} (hi : AtL ⟨d, .pick c x y, ty, pos, af, g⟩ i l) (hs : Region.noSelect l.toArray = true) (hf : Region.free md l.toArray listed i = true) (hr : (Region.ready md l.toArray listed).contains i = true)
    (hQ : ∀ v c a w, Q (.panic c) (a.put d v) w → Q (.panic c) a w) (hc : a.eval c = .bool false) (hw : Region.wanted ⟨d, .pick c x y, ty, pos, af, g⟩ (yielded l.toArray a.tmps) = true)
    (h : (Oper.mk d (.move y) ty pos af g).wp P a w (wpAnyN P md l.toArray Q D S fuel (listed.setIfInBounds i true)) Q) : wpAnyN P md l.toArray Q D S (fuel + 1) listed a w := takePick i false hi hs hf hr hQ hc hw h
/-- A Bool that decides of what follows: both ways. -/
theorem takeB (i : Nat) (b : Bool) (hi : AtL ⟨d, op, ty, pos, af, g⟩ i l) (hs : Region.noSelect l.toArray = true) (hf : Region.free md l.toArray listed i = true) (hr : (Region.ready md l.toArray listed).contains i = true)
    (hQ : ∀ v c a w, Q (.panic c) (a.put d v) w → Q (.panic c) a w) (hv : Val P op ty a (.bool b)) (hw : Region.wanted ⟨d, op, ty, pos, af, g⟩ (yielded l.toArray a.tmps) = true)
    (ht : b = true → (Oper.mk d (.move (.const (.bool true))) ty pos af g).wp P a w (wpAnyN P md l.toArray Q D S fuel (listed.setIfInBounds i true)) Q)
    (hn : b = false → (Oper.mk d (.move (.const (.bool false))) ty pos af g).wp P a w (wpAnyN P md l.toArray Q D S fuel (listed.setIfInBounds i true)) Q) : wpAnyN P md l.toArray Q D S (fuel + 1) listed a w := by
  cases b
  · exact takeV i _ hi hs hf hr hQ hv hw (hn rfl)
  · exact takeV i _ hi hs hf hr hQ hv hw (ht rfl)
theorem takeD (i : Nat) (p : Prop) [Decidable p] (hi : AtL ⟨d, op, ty, pos, af, g⟩ i l) (hs : Region.noSelect l.toArray = true) (hf : Region.free md l.toArray listed i = true) (hr : (Region.ready md l.toArray listed).contains i = true)
    (hQ : ∀ v c a w, Q (.panic c) (a.put d v) w → Q (.panic c) a w) (hv : Val P op ty a (.bool (decide p))) (hw : Region.wanted ⟨d, op, ty, pos, af, g⟩ (yielded l.toArray a.tmps) = true)
    (ht : p → (Oper.mk d (.move (.const (.bool true))) ty pos af g).wp P a w (wpAnyN P md l.toArray Q D S fuel (listed.setIfInBounds i true)) Q)
    (hn : ¬ p → (Oper.mk d (.move (.const (.bool false))) ty pos af g).wp P a w (wpAnyN P md l.toArray Q D S fuel (listed.setIfInBounds i true)) Q) : wpAnyN P md l.toArray Q D S (fuel + 1) listed a w :=
  takeB i _ hi hs hf hr hQ hv hw (fun h => ht (of_decide_eq_true h)) (fun h => hn (of_decide_eq_false h))
/-- An operation that its guard passes over. -/
theorem takeN (i : Nat) (hi : AtL ⟨d, op, ty, pos, af, g⟩ i l) (hs : Region.noSelect l.toArray = true) (hf : Region.free md l.toArray listed i = true) (hr : (Region.ready md l.toArray listed).contains i = true)
    (hQ : ∀ v c a w, Q (.panic c) (a.put d v) w → Q (.panic c) a w) (hw : Region.wanted ⟨d, op, ty, pos, af, g⟩ (yielded l.toArray a.tmps) = false)
    (h : (Oper.mk d (.move (.const undef)) ty pos af g).wp P a w (wpAnyN P md l.toArray Q D S fuel (listed.setIfInBounds i true)) Q) : wpAnyN P md l.toArray Q D S (fuel + 1) listed a w :=
  takeP i hi hs hf hr hQ (a1 := a.put d undef) (fun w => wpList_skip hw (wpList_nil ⟨rfl, rfl⟩)) (by cases d <;> rfl) h
end
section
variable {P : Program} {Q : Exit → Act → World → Prop} {a : Act} {W w : World} {c : Code}
theorem wp_join2 {F : Nat → Nat → Act} (rs : Nat → Nat → List Res) (h : c.wp P (fun e a w => e = .normal ∧ ∃ g g', a = F g g' ∧ St W w (rs g g')) a w) (k : ∀ g g' w, St W w (rs g g') → Q .normal (F g g') w) : c.wp P Q a w :=
  Code.wp_mono (fun e a w ⟨he, g, g', ha, hS⟩ => by subst he; subst ha; exact k g g' w hS) h
end
end Go.Proofs.YtehbjhocgnfpmaaDoor

/- Rows of integers that the call owns, cell by cell and element by element; slices of slices; slices that are made. -/
namespace Go.Proofs.YtehbjhocgnfpmaaDoor
open Go.RowKit
set_option linter.unusedVariables false
/-- The element j, of s cells, of a row of ints. -/
def seg (l : List Int) (s j : Nat) : List Int := (l.drop (j * s)).take s
theorem seg_len (l : List Int) (s j n : Nat) (h : l.length = n * s) (hj : j < n) : (seg l s j).length = s := by
  have : j * s + s ≤ n * s := by have := Nat.mul_le_mul_right s hj; rw [Nat.succ_mul] at this; exact this
  simp [seg]; omega
theorem nth_set_eq (l : List Int) (i : Nat) (z : Int) (h : i < l.length) : nth (l.set i z) i = z := by simp [nth, List.getD, h]
theorem nth_set_ne (l : List Int) (i j : Nat) (z : Int) (h : i ≠ j) : nth (l.set i z) j = nth l j := by simp [nth, List.getD, h]
theorem nth_set (l : List Int) (i j : Nat) (z : Int) (h : i < l.length) : nth (l.set i z) j = if i = j then z else nth l j := by
  split
  · rename_i e; subst e; exact nth_set_eq l i z h
  · rename_i e; exact nth_set_ne l i j z e
theorem get_nth (l : List Int) (i : Nat) (h : i < l.length) : l[i]? = some (nth l i) := by simp [nth, List.getD, h]
theorem nth_zeros (n i : Nat) : nth (List.replicate n 0) i = 0 := by unfold nth; rw [List.getD_eq_getElem?_getD, List.getElem?_replicate]; split <;> rfl
/-- A row whose number at each place is a function of the place. -/
def tab (n : Nat) (F : Nat → Int) : List Int := (List.range n).map F
theorem tab_len (n : Nat) (F : Nat → Int) : (tab n F).length = n := by simp [tab]
theorem nth_tab (n : Nat) (F : Nat → Int) (i : Nat) (h : i < n) : nth (tab n F) i = F i := by simp [tab, nth, List.getD, h]
section
variable {P : Program} {W w : World} {rs rs' : List Res} {Q : Exit → Act → World → Prop} {K : Act → World → Prop} {o : Oper} {a : Act}
theorem St.ownLen {e : TypeId} {s n c : Nat} {ad : Option Addr} {xs : List Value} (hS : St W w rs) (hp : Pull (Go.Proofs.YtehbjhocgnfpmaaDoor.own e s ad n c xs) rs rs') : xs.length = n * s := (hS.own hp).1
/-- Cells that lie together in a row of one's own. -/
theorem own_range {e : TypeId} {s n c g off m : Nat} {xs : List Value} (hS : St W w rs) (hp : Pull (own e s (some ⟨g, 0, none⟩) n c xs) rs rs') : w.rangeAt g off ((xs.drop off).take m) := fun j v hv => by
  rw [List.getElem?_take] at hv
  split at hv
  · rw [List.getElem?_drop] at hv; exact own_cell hS hp hv
  · cases hv
theorem wp_load1OI (hS : St W w rs) (ty : TypeId) (x : Operand) (ho : o.op = .load ty x) (g off : Nat) (hx : a.eval x = .pointer (some ⟨g, off, none⟩)) (h1 : One P ty) (e : TypeId) (s n c : Nat) (l : List Int) (hp : Pull (own e s (some ⟨g, 0, none⟩) n c (l.map (Value.int .i64))) rs rs')
    (hi : off < n * s) (h : K (a.put o.dst (.int .i64 (nth l off))) w) : o.wp P a w K Q := by
  have hl := hS.ownLen hp
  rw [List.length_map] at hl
  exact wp_load1O hS ty x ho g off hx h1 e s n c _ hp _ (by rw [List.getElem?_map, get_nth l off (by omega)]; rfl) h
theorem wp_loadRO (hS : St W w rs) (ty : TypeId) (x : Operand) (ho : o.op = .load ty x) (g off : Nat) (hx : a.eval x = .pointer (some ⟨g, off, none⟩)) (m : Nat) (h1 : RowN P ty m) (e : TypeId) (s n c : Nat) (l : List Int) (hp : Pull (own e s (some ⟨g, 0, none⟩) n c (l.map (Value.int .i64))) rs rs')
    (hi : off + m ≤ n * s) (h : K (a.put o.dst (.agg (iv ((l.drop off).take m)))) w) : o.wp P a w K Q := by
  have hl := hS.ownLen hp
  rw [List.length_map] at hl
  refine wp_loadR ty x ho g off hx m h1 (((l.drop off).take m).map (Value.int .i64)) (by simp; omega) ?_ h
  have := own_range (off := off) (m := m) hS hp
  rwa [← List.map_drop, ← List.map_take] at this
/-- The same, the cells spelled otherwise. -/
theorem wp_loadROE (hS : St W w rs) (ty : TypeId) (x : Operand) (ho : o.op = .load ty x) (g off : Nat) (hx : a.eval x = .pointer (some ⟨g, off, none⟩)) (m : Nat) (h1 : RowN P ty m) (e : TypeId) (s n c : Nat) (l : List Int) (hp : Pull (own e s (some ⟨g, 0, none⟩) n c (l.map (Value.int .i64))) rs rs')
    (hi : off + m ≤ n * s) (l' : List Int) (hl' : (l.drop off).take m = l') (h : K (a.put o.dst (.agg (iv l'))) w) : o.wp P a w K Q :=
  wp_loadRO hS ty x ho g off hx m h1 e s n c l hp hi (by rw [hl']; exact h)
/-- A store into a row of one's own. -/
theorem own_store {e : TypeId} {s n c g off : Nat} {xs : List Value} (hS : St W w rs) (hp : Pull (own e s (some ⟨g, 0, none⟩) n c xs) rs rs') (v : Value) (hi : off < n * s) :
    w.frozen? ⟨g, off, none⟩ = false ∧ St W (w.setCell ⟨g, off, none⟩ v) (own e s (some ⟨g, 0, none⟩) n c (xs.set off v) :: rs') := by
  have hown := hS.own hp
  refine ⟨?_, ?_⟩
  · rcases hown.2 with ⟨h1, h2⟩ | ⟨g', cap, cur, h1, _, hg, _⟩
    · cases h1
    · cases h1; exact frozen_of_row w g off cur e hg
  · refine St.change (rs1 := [own e s (some ⟨g, 0, none⟩) n c (xs.set off v)]) (hS.pull hp) fun f1 h1 _ _ => ?_
    obtain ⟨rfl, h1⟩ := h1
    refine ⟨[g], ⟨[g], [], rfl, ⟨rfl, by simpa using h1.1, ?_⟩, rfl⟩, by simp, fun b hb => .inl (by simpa [Value.ownBlock] using hb), Only.setCell w ⟨g, off, none⟩ v⟩
    rcases h1.2 with ⟨h2, h3⟩ | ⟨g', cap, cur, h2, hb, hg, hn, hc, hsz, htake⟩
    · cases h2
    · cases h2
      refine .inr ⟨g, c, cur.setIfInBounds off v, rfl, hb, heap_setCell_same w g off cur e _ hg, hn, hc, by simpa using hsz, ?_⟩
      rw [Array.toList_setIfInBounds, List.take_set, htake]
theorem wp_store1O (hS : St W w rs) (ty : TypeId) (x y : Operand) (ho : o.op = .store ty x y) (g off : Nat) (hx : a.eval x = .pointer (some ⟨g, off, none⟩)) (h1 : One P ty) (e : TypeId) (s n c : Nat) (xs : List Value) (hp : Pull (own e s (some ⟨g, 0, none⟩) n c xs) rs rs')
    (v : Value) (hy : IsV (a.eval y) v) (hv : v.oneCell' = true) (hi : off < n * s) (hd : o.dst = none) (h : ∀ w', St W w' (own e s (some ⟨g, 0, none⟩) n c (xs.set off v) :: rs') → K a w') : o.wp P a w K Q := by
  obtain ⟨hf, hS'⟩ := own_store hS hp v hi
  have hl := hS.ownLen hp
  exact wp_storeC ty x y ho _ hx h1 v (xs[off]'(by omega)) hy.eq hv (own_cell hS hp (by simp [hl, hi])) hf hd (h _ hS')
theorem wp_store1OI (hS : St W w rs) (ty : TypeId) (x y : Operand) (ho : o.op = .store ty x y) (g off : Nat) (hx : a.eval x = .pointer (some ⟨g, off, none⟩)) (h1 : One P ty) (e : TypeId) (s n c : Nat) (l : List Int) (hp : Pull (own e s (some ⟨g, 0, none⟩) n c (l.map (Value.int .i64))) rs rs')
    (z : Int) (hy : a.eval y = .int .i64 z) (hi : off < n * s) (hd : o.dst = none) (h : ∀ w', St W w' (own e s (some ⟨g, 0, none⟩) n c ((l.set off z).map (Value.int .i64)) :: rs') → K a w') : o.wp P a w K Q :=
  wp_store1O hS ty x y ho g off hx h1 e s n c _ hp (.int .i64 z) (.int hy) rfl hi hd (by rw [List.map_set] at h; exact h)
/-- A load of one cell of an element that came in. -/
theorem wp_load1R (hS : St W w rs) (ty : TypeId) (x : Operand) (ho : o.op = .load ty x) (b off f : Nat) (hx : a.eval x = .pointer (some ⟨b, off + f, none⟩)) (h1 : One P ty) (l : List Int) (s : Nat) (hl : Len l s) (hr : W.rangeAt b off (l.map (Value.int .i64))) (hf : f < s)
    (h : K (a.put o.dst (.int .i64 (nth l f))) w) : o.wp P a w K Q :=
  wp_load ty x ho _ hx h1 _ (hS.1.cell (hr f _ (by rw [List.getElem?_map, get_nth l f (by rw [hl.out]; exact hf)]; rfl))) h
theorem wp_load1R0 (hS : St W w rs) (ty : TypeId) (x : Operand) (ho : o.op = .load ty x) (b off : Nat) (hx : a.eval x = .pointer (some ⟨b, off, none⟩)) (h1 : One P ty) (l : List Int) (s : Nat) (hl : Len l s) (hr : W.rangeAt b off (l.map (Value.int .i64))) (hf : 0 < s)
    (h : K (a.put o.dst (.int .i64 (nth l 0))) w) : o.wp P a w K Q :=
  wp_load1R hS ty x ho b off 0 hx h1 l s hl hr hf h
theorem wp_loadRI (hS : St W w rs) (ty : TypeId) (x : Operand) (ho : o.op = .load ty x) (b off : Nat) (hx : a.eval x = .pointer (some ⟨b, off, none⟩)) (s : Nat) (h1 : RowN P ty s) (l : List Int) (hl : Len l s) (hr : W.rangeAt b off (l.map (Value.int .i64)))
    (h : K (a.put o.dst (.agg (iv l))) w) : o.wp P a w K Q :=
  wp_loadRW hS ty x ho b off hx s h1 (l.map (Value.int .i64)) hr (by rw [List.length_map]; exact hl) h
end
section
variable {P : Program} {ops : Array Oper} {Q : Exit → Act → World → Prop} {rest : List Oper} {a : Act} {W w : World} {rs : List Res} {d : Option Tmp} {x y : Operand} {t ty : TypeId} {pos : String} {af : Array Edge} {g : Option (Nat × Bool)} {k : IntKind}
/-- An element, of s ints, of a slice that came in. -/
theorem wpl_indexS {ad : Option Addr} {n c j s : Nat} {l : List Int} {e : TypeId} {i : Int} (hv : Sl W s (.slice ad n c) n (l.map (Value.int .i64))) (ht : P.underlying t = some (.slice e)) (hs : (P.info? e).map (·.size) = some s) (hx : a.eval x = .slice ad n c) (hy : a.eval y = .int k i) (hj : IsN i j) (hn : j < n)
    (hw : Region.wanted ⟨d, .indexAddr t x y, ty, pos, af, g⟩ (yielded ops a.tmps) = true)
    (h : ∀ b o, Len (seg l s j) s → W.rangeAt b o ((seg l s j).map (Value.int .i64)) → (Oper.mk d (.move (.const (.pointer (some ⟨b, o, none⟩)))) ty pos af g).wp P a w (wpList P ops Q rest) Q) : wpList P ops Q (⟨d, .indexAddr t x y, ty, pos, af, g⟩ :: rest) a w :=
  wpl_indexW hv ht hs hx hy hj hn hw fun b o hr => h b o (seg_len l s j n (by have := hv.1; simpa using this) hn) (by unfold seg; rw [List.map_take, List.map_drop]; exact hr)
end
/-- Where a slice expression begins. -/
inductive Lo (a : Act) : Option Operand → Nat → Prop
  | none : Lo a none 0
  | some {x : Operand} {k : IntKind} {i : Int} {j : Nat} (h : a.eval x = .int k i) (hj : IsN i j) : Lo a (some x) j
/-- Where it ends. -/
inductive Up (a : Act) (n : Nat) : Option Operand → Nat → Prop
  | none : Up a n none n
  | some {x : Operand} {k : IntKind} {i : Int} {j : Nat} (h : a.eval x = .int k i) (hj : IsN i j) : Up a n (some x) j
section
variable {P : Program} {W w : World} {a : Act} {x : Operand} {t ty : TypeId}
/-- A struct that is written out. -/
theorem V.build {ps : List (Nat × Operand)} {vs : List (Nat × Value)} {v : Value} (hvs : ps.map (fun x => (x.1, a.eval x.2)) = vs) (hr : ∀ w, (Instr.build t vs.toArray).run P w = .ok v w) : Val P (.build t ps.toArray) ty a v := fun d pos af g w => by
  have e : (ps.toArray).map (fun (x : Nat × Operand) => (x.1, a.eval x.2)) = vs.toArray := by rw [← hvs]; simp
  have e2 : execOp a.eval ⟨d, .build t ps.toArray, ty, pos, af, g⟩ = (do pure (.value (← Instr.build t ((ps.toArray).map fun (x : Nat × Operand) => (x.1, a.eval x.2))))) := rfl
  rw [e2, e]
  simp only [Sem.run_bind, hr, Result.andThen_ok, Sem.run_pure]
/-- The address of a slice of a slice. -/
def cutAt (ad : Option Addr) (c l s : Nat) : Option Addr := if c = l then ad else ad.map (·.add (l * s))
theorem V.slice {ad : Option Addr} {n c l h s : Nat} {e : TypeId} {lo hi : Option Operand} (ht : P.underlying t = some (.slice e)) (hs : (P.info? e).map (·.size) = some s) (hx : a.eval x = .slice ad n c) (hl : Lo a lo l) (hh : Up a n hi h) (h1 : l ≤ h) (h2 : h ≤ c) :
    Val P (.slice t x lo hi none) ty a (.slice (cutAt ad c l s) (h - l) (c - l)) := fun d pos af g w => by
  have e0 : P.elem t = e := by simp [Program.elem, ht]
  have ht' : P.underlying t = some (.slice (P.elem t)) := by rw [e0]; exact ht
  have fin : ∀ {lv hv : Option Value}, lo.map a.eval = lv → hi.map a.eval = hv → (Instr.slice t (.slice ad n c) lv hv none).run P w = ((sizeOf (P.elem t)).run P w).andThen (fun s w => .ok (sliced ad l h c s) w) →
      (execOp a.eval ⟨d, .slice t x lo hi none, ty, pos, af, g⟩).run P w = .ok (.value (.slice (cutAt ad c l s) (h - l) (c - l))) w := by
    intro lv hv e1 e2 hr
    rw [e0, run_sizeOf' w hs, Result.andThen_ok] at hr
    simp only [execOp, hx, e1, e2, Option.map_none, Sem.run_bind, run_sliceAt_slice w t _ lv hv none ht', hr, Result.andThen_ok, Sem.run_pure, sliced, cutAt]
  cases hl with
  | none => cases hh with
    | none => exact fin rfl rfl (run_slice_all w t ad n c ht')
    | @some y k2 i2 _ hy hj =>
      unfold IsN at hj
      subst hj
      have := run_slice_h w t ad n c ht' k2 (h : Int) (by omega) (by omega)
      rw [Int.toNat_natCast] at this
      exact fin rfl (by rw [Option.map_some, hy]) this
  | @some y1 k1 i1 _ hy1 hj1 =>
    unfold IsN at hj1
    subst hj1
    cases hh with
    | none =>
      have := run_slice_l w t ad n c ht' k1 (l : Int) (by omega) (by omega)
      rw [Int.toNat_natCast] at this
      exact fin (by rw [Option.map_some, hy1]) rfl this
    | @some y k2 i2 _ hy hj =>
      unfold IsN at hj
      subst hj
      have := run_slice_lh w t ad n c ht' k1 k2 (l : Int) (h : Int) (by omega) (by omega) (by omega)
      rw [Int.toNat_natCast, Int.toNat_natCast] at this
      exact fin (by rw [Option.map_some, hy1]) (by rw [Option.map_some, hy]) this
/-- What a slice of a slice holds. -/
theorem Sl.cutAt {s n c : Nat} {ad : Option Addr} {cs : List Value} (hv : Sl w s (.slice ad n c) n cs) (l h : Nat) (h1 : l ≤ h) (h2 : h ≤ n) : Sl w s (.slice (cutAt ad c l s) (h - l) (c - l)) (h - l) ((cs.drop (l * s)).take ((h - l) * s)) := by
  obtain ⟨hlen, a', c', e, hnc, hcm, hor⟩ := hv
  cases e
  have hhs : h * s ≤ n * s := Nat.mul_le_mul_right s h2
  have hls : l * s ≤ h * s := Nat.mul_le_mul_right s h1
  have hsub : (h - l) * s = h * s - l * s := Nat.sub_mul h l s
  refine ⟨by simp; omega, _, _, rfl, by omega, by omega, ?_⟩
  by_cases hz : h - l = 0
  · exact .inl hz
  · rcases hor with h0 | ⟨b, off, rfl, hc⟩
    · omega
    · refine .inr ⟨b, off + l * s, ?_, fun k hk => ?_⟩
      · unfold Go.Proofs.YtehbjhocgnfpmaaDoor.cutAt
        rw [if_neg (by omega)]
        simp only [Option.map_some, Addr.add_mid]
      · rw [Nat.add_assoc, hc (l * s + k) (by omega), List.getElem?_take, if_pos hk, List.getElem?_drop]
end
/-- The nought of an element's type: s ints 0. -/
structure ElemZ (P : Program) (t e : TypeId) (k : IntKind) (s b : Nat) : Prop where
  ht : P.underlying t = some (.slice e)
  ex : ∃ i z, P.info? e = some i ∧ i.zero = some z ∧ i.size = s ∧ i.bytes = b ∧ z.cells = Array.replicate s (.int k 0)
  pos : 0 < s
theorem ElemZ.mk' {P : Program} {t e : TypeId} {k : IntKind} {s b : Nat} (z : Value) (ht : P.underlying t = some (.slice e)) (hi : (P.info? e).map (fun i => (i.zero, i.size, i.bytes)) = some (some z, s, b)) (hz : z.cells = Array.replicate s (.int k 0)) (hp : 0 < s) : ElemZ P t e k s b := by
  obtain ⟨i, h1, h2, h3, h4⟩ := info_parts hi
  exact ⟨ht, ⟨i, z, h1, h2, h3, h4, hz⟩, hp⟩
theorem made_zeros (k : IntKind) (s m : Nat) (hs : 0 < s) : (madeCells (Array.replicate s (Value.int k 0)) m).toList = (List.replicate m (0 : Int)).map (Value.int k) := by
  apply List.ext_getElem?
  intro i
  by_cases hi : i < m
  · have : i % s < s := Nat.mod_lt i hs
    simp [madeCells, hi, this]
  · simp [madeCells, hi]
section
variable {P : Program} {W w : World} {rs rs' : List Res} {Q : Exit → Act → World → Prop} {K : Act → World → Prop} {o : Oper} {a : Act}
theorem St.grown {W w w' : World} {rs : List Res} {r : Res} {f : List Nat} (hS : St W w rs) (hg : w.grownBy w' none) (hr : r.holds w' f) (hn : f.Nodup) (hf : ∀ b ∈ f, w.heap.size ≤ b) : St W w' (r :: rs) := by
  have hE : Ext w w' := ⟨hg.os, hg.tape, hg.output, hg.size, fun k hk => hg.block k hk (by simp)⟩
  exact hS.call1 ⟨hE, f, hn, hf, f, [], by simp, hr, rfl⟩
/-- A slice that is made. -/
theorem wp_make (hS : St W w rs) (t : TypeId) (x y : Operand) (ho : o.op = .makeSlice t x y) (e : TypeId) (k : IntKind) (s b : Nat) (el : ElemZ P t e k s b) (kx ky : IntKind) (n m : Nat) (i j : Int) (hx : a.eval x = .int kx i) (hy : a.eval y = .int ky j) (hi : IsN i n) (hj : IsN j m) (hnm : n = m) (hb : b * n ≤ 281474976710656) (h63 : n ≤ maxLen)
    (h : ∀ g w', St W w' (own e s (some ⟨g, 0, none⟩) n n ((List.replicate (n * s) (0 : Int)).map (Value.int k)) :: rs) → K (a.put o.dst (.slice (some ⟨g, 0, none⟩) n n)) w') : o.wp P a w K Q := by
  obtain ⟨ht, ⟨info, z, h1, h2, h3, h4, h5⟩, hp⟩ := el
  subst hnm
  unfold IsN at hi hj
  subst hi; subst hj
  obtain ⟨w', hr, ho', hg⟩ := run_make_full (P := P) w 0 t e info z s ht h1 h2 h3 kx ky n (by rw [h4]; exact hb) h63 (Nat.zero_le _)
  rw [h5, made_zeros k s (n * s) hp] at ho'
  unfold Oper.wp execOp
  simp only [ho, hx, hy, Sem.run_bind, hr, Result.andThen_ok, Sem.run_pure]
  exact h _ _ (St.grown (f := [w.heap.size]) hS hg ⟨rfl, ho'⟩ (by simp) (by simp))
end
end Go.Proofs.YtehbjhocgnfpmaaDoor

/- Blocks as tokens: the plain law. -/
namespace Go.Proofs.YtehbjhocgnfpmaaDoor
set_option linter.unusedVariables false
abbrev Tok := Int × Int × Int
def flt (l : List Tok) : List Int := l.flatMap fun x => [x.1, x.2.1, x.2.2]
theorem flt_app (l m : List Tok) : flt (l ++ m) = flt l ++ flt m := by simp [flt]
theorem flt_snoc (l : List Tok) (x : Tok) : flt (l ++ [x]) = flt l ++ [x.1, x.2.1, x.2.2] := by simp [flt]
theorem flt_get : ∀ (l : List Tok) (k : Nat) (x : Tok), l[k]? = some x → ((flt l).drop (k * 3)).take 3 = [x.1, x.2.1, x.2.2]
  | [], k, x, h => by simp at h
  | y :: l, 0, x, h => by obtain rfl : y = x := by simpa using h
                          simp [flt]
  | y :: l, k + 1, x, h => by
    have := flt_get l k x (by simpa using h)
    rw [show (k + 1) * 3 = k * 3 + 3 by omega]
    simp only [flt, List.flatMap_cons] at *
    rw [List.drop_append, List.drop_of_length_le (by simp)]
    simpa using this
/-- The token of a number behind r noughts. -/
def tok (r : Nat) (n : Int) : Tok := (((r * 16 + sz n : Nat) : Int), (sz n : Int), sv n)
def longT : Tok := (240, 0, 0)
def endT : Tok := (0, 0, 0)
/-- The tokens of numbers, when r noughts are ahead. -/
def tks : Nat → List Int → List Tok
  | r, [] => if 0 < r then [endT] else []
  | r, n :: l => if n = 0 then tks (r + 1) l else List.replicate (r / 16) longT ++ (tok (r % 16) n :: tks 0 l)
def toksOf (before : Int) (z : List Int) : List Tok := tok 0 (nth z 0 - before) :: tks 0 (z.drop 1)
theorem sz_le11 (n : Int) (h : -2048 < n ∧ n < 2048) : sz n ≤ 11 := blen_le _ 11 (by omega)
theorem sz_zero : sz 0 = 0 := by simp [sz, blen]
theorem sv_zero : sv 0 = 0 := by simp [sv]
theorem tks_len : ∀ (l : List Int) (r : Nat), (tks r l).length ≤ r + l.length
  | [], r => by
    rw [tks]; split <;> simp
    omega
  | n :: l, r => by
    rw [tks]
    split
    · have := tks_len l (r + 1); simp only [List.length_cons]; omega
    · have := tks_len l 0
      simp only [List.length_append, List.length_replicate, List.length_cons]
      omega
theorem toks_len (before : Int) (z : List Int) (h : z.length = 64) : 1 ≤ (toksOf before z).length ∧ (toksOf before z).length ≤ 64 := by
  have := tks_len (z.drop 1) 0
  simp only [toksOf, List.length_cons, List.length_drop] at *
  omega
end Go.Proofs.YtehbjhocgnfpmaaDoor

/- Slices of arrays. -/
namespace Go.Proofs.YtehbjhocgnfpmaaDoor
open Go.RowKit
set_option linter.unusedVariables false
section
variable {P : Program} {W w : World} {a : Act} {x : Operand} {t ty : TypeId}
/-- A slice of an array, by its pointer. -/
theorem V.sliceA {b off N l h s q m c : Nat} {e : TypeId} {lo hi : Option Operand} (ht : P.underlying t = some (.array N e)) (hs : (P.info? e).map (·.size) = some s) (hx : a.eval x = .pointer (some ⟨b, off, none⟩)) (hl : Lo a lo l) (hh : Up a N hi h) (h1 : l ≤ h) (h2 : h ≤ N) (h3 : l < N) (hq : off + l * s = q) (hm : h - l = m) (hc : N - l = c) :
    Val P (.slice t x lo hi none) ty a (.slice (some ⟨b, q, none⟩) m c) := fun d pos af g w => by
  subst hm; subst hc
  have e0 : P.elem t = e := by simp [Program.elem, ht]
  have e1 : P.arrayLen t = N := by simp [Program.arrayLen, ht]
  have ht' : P.underlying t = some (.array (P.arrayLen t) (P.elem t)) := by rw [e0, e1]; exact ht
  have fin : ∀ {lv hv : Option Value}, lo.map a.eval = lv → hi.map a.eval = hv → (Instr.sliceAt t (.pointer (some ⟨b, off, none⟩)) lv hv none).run P w = ((sizeOf (P.elem t)).run P w).andThen (fun s w => .ok (slicedAt ⟨b, off, none⟩ l h N s) w) →
      (execOp a.eval ⟨d, .slice t x lo hi none, ty, pos, af, g⟩).run P w = .ok (.value (.slice (some ⟨b, q, none⟩) (h - l) (N - l))) w := by
    intro lv hv e1 e2 hr
    rw [e0, run_sizeOf' w hs, Result.andThen_ok] at hr
    have e3 : slicedAt (⟨b, off, none⟩ : Addr) l h N s = .slice (some ⟨b, q, none⟩) (h - l) (N - l) := by
      unfold slicedAt
      rw [if_neg (by omega)]
      simp only [Addr.add_mid, hq]
    simp only [execOp, hx, e1, e2, Option.map_none, Sem.run_bind, hr, Result.andThen_ok, Sem.run_pure, e3]
  cases hl with
  | none => cases hh with
    | none => exact fin rfl rfl (by have := run_sliceAt_array_all (P := P) w t ⟨b, off, none⟩ ht'; rwa [e1] at this)
    | @some y k2 i2 _ hy hj =>
      unfold IsN at hj
      subst hj
      have := run_sliceAt_array_h (P := P) w t ⟨b, off, none⟩ ht' k2 (h : Int) (by omega) (by omega)
      rw [Int.toNat_natCast, e1] at this
      exact fin rfl (by rw [Option.map_some, hy]) this
  | @some y1 k1 i1 _ hy1 hj1 =>
    unfold IsN at hj1
    subst hj1
    cases hh with
    | none =>
      have := run_sliceAt_array_l (P := P) w t ⟨b, off, none⟩ ht' k1 (l : Int) (by omega) (by omega)
      rw [Int.toNat_natCast, e1] at this
      exact fin (by rw [Option.map_some, hy1]) rfl this
    | @some y k2 i2 _ hy hj =>
      unfold IsN at hj
      subst hj
      have := run_sliceAt_array_lh (P := P) w t ⟨b, off, none⟩ ht' k1 k2 (l : Int) (h : Int) (by omega) (by omega) (by omega)
      rw [Int.toNat_natCast, Int.toNat_natCast, e1] at this
      exact fin (by rw [Option.map_some, hy1]) (by rw [Option.map_some, hy]) this
end
section
variable {W w : World} {rs rs' : List Res}
/-- An array of the call's own, read as a slice. -/
theorem St.isl {g n : Nat} {l : List Int} (hS : St W w rs) (p : Pull (Go.Proofs.YtehbjhocgnfpmaaDoor.arr g n l) rs rs') (hn : n ≤ 9223372036854775807) : ISl w (.slice (some ⟨g, 0, none⟩) n n) l :=
  ISl.of_row (hS.arr p).1 (hS.arr p).2 (by unfold maxLen; omega)
end
/-- What an append leaves, as one row. -/
theorem mapk1 (k : IntKind) (l : List Int) (a : Int) : l.map (Value.int k) ++ [Value.int k a] = (l ++ [a]).map (Value.int k) := by simp
theorem mapk2 (k : IntKind) (l : List Int) (a b : Int) : l.map (Value.int k) ++ [Value.int k a, Value.int k b] = (l ++ [a, b]).map (Value.int k) := by simp
theorem mapk3 (k : IntKind) (l : List Int) (a b c : Int) : l.map (Value.int k) ++ [Value.int k a, Value.int k b, Value.int k c] = (l ++ [a, b, c]).map (Value.int k) := by simp
theorem mapk4 (k : IntKind) (l : List Int) (a b c d : Int) : l.map (Value.int k) ++ [Value.int k a, Value.int k b, Value.int k c, Value.int k d] = (l ++ [a, b, c, d]).map (Value.int k) := by simp
theorem mapkl (k : IntKind) (l m : List Int) : l.map (Value.int k) ++ m.map (Value.int k) = (l ++ m).map (Value.int k) := by simp
theorem oneAll {l : List Value} (h : l.all (·.oneCell') = true) : ∀ u ∈ l, u.oneCell' = true := List.all_eq_true.1 h
theorem oneMap (k : IntKind) (l : List Int) : ∀ u ∈ l.map (Value.int k), u.oneCell' = true := fun u hu => by
  obtain ⟨x, _, rfl⟩ := List.mem_map.1 hu; rfl
theorem St.nilk {W w : World} {rs : List Res} (h : St W w rs) (e : TypeId) (s : Nat) (k : IntKind) : St W w (Go.Proofs.YtehbjhocgnfpmaaDoor.own e s none 0 0 (([] : List Int).map (Value.int k)) :: rs) := h.nil e s
theorem St.allocOwn {W w : World} {rs : List Res} (h : St W w rs) (e : TypeId) (s n : Nat) (cs : List Value) (hl : cs.length = n * s) (hn : n ≤ maxLen) : St W (w.alloc (.cells cs.toArray e)) (Go.Proofs.YtehbjhocgnfpmaaDoor.own e s (some ⟨w.heap.size, 0, none⟩) n n cs :: rs) := by
  have ht : cs.toArray.toList.take (n * s) = cs := by rw [← hl]; simp
  obtain ⟨h1, f, h2, h3, h4⟩ := h
  refine ⟨h1.alloc _, w.heap.size :: f, List.nodup_cons.2 ⟨fun hm => by have := h4.lt _ hm; omega, h2⟩, fun b hb => ?_, [w.heap.size], f, rfl, ⟨rfl, hl, .inr ⟨w.heap.size, n, cs.toArray, rfl, Nat.zero_le _, heap_alloc_new w _, Nat.le_refl _, hn, by simpa using hl, ht⟩⟩, h4.loc fun b hb => ?_⟩
  · rcases List.mem_cons.1 hb with h | h
    · rw [h]; exact h1.sz
    · exact h3 b h
  · exact heap_alloc_old w _ (h4.lt b hb)
section
variable {P : Program} {W w : World} {rs rs' : List Res} {Q : Exit → Act → World → Prop} {K : Act → World → Prop} {o : Oper} {a : Act}
/-- A slice that is written out, and may grow. -/
theorem wp_buildSliceO (hS : St W w rs) (t : TypeId) (n : Nat) (ps : List (Nat × Operand)) (ho : o.op = .buildSlice t n ps.toArray) (e : TypeId) (s b : Nat) (el : ElemT P t e s b) (vs cs : List Value) (hvs : Parts a s 0 ps vs cs) (hn : vs.length = n) (hn0 : 0 < n) (hns : n * s ≤ 2 ^ 24)
    (h : ∀ g w', St W w' (own e s (some ⟨g, 0, none⟩) n n cs :: rs) → K (a.put o.dst (.slice (some ⟨g, 0, none⟩) n n)) w') : o.wp P a w K Q := by
  obtain ⟨ht, ⟨i, z, hi, hz, rfl, hb, hzs⟩, hp⟩ := el
  obtain ⟨h1, h2, hcs, hsz⟩ := hvs.vals
  have hns' : 0 < n * i.size := Nat.mul_pos hn0 hp
  have hnm : n ≤ maxLen := by
    have : n * 1 ≤ n * i.size := Nat.mul_le_mul_left _ hp
    unfold maxLen; omega
  have hcl : ∀ us : List Value, (∀ v ∈ us, v.cells.size = i.size) → (us.flatMap (·.cells.toList)).length = us.length * i.size := by
    intro us
    induction us with
    | nil => intro _; simp
    | cons u us ih =>
      intro hu
      have h1 := hu u (by simp)
      rw [List.flatMap_cons, List.length_append, ih fun v hv => hu v (by simp [hv]), List.length_cons, Nat.add_mul, Nat.one_mul, Array.length_toList, h1, Nat.add_comm]
  have hcl' : cs.length = n * i.size := by rw [← hcs, hcl vs hsz, hn]
  refine Go.wp_buildSlice t e n ps.toArray ho (cs.toArray) i z ht hi hz (by omega) (by omega) ?_ (h _ _ (hS.allocOwn e i.size n cs hcl' hnm))
  have h3 := fill_parts i.size vs 0 [] (((List.range (n * i.size)).map (fun j => z.cells[j % z.cells.size]!))) (by simp) (by simp [hn]) hsz
  simp only [List.nil_append] at h3
  rw [← hcs]
  have e1 : (Array.map (fun x : Nat × Operand => (x.1, a.eval x.2)) ps.toArray).toList = (vs.zipIdx 0).map fun x => (x.2, x.1) := by
    rw [← h1]; simp
  rw [e1]
  rw [← h3]
  congr 1
  apply Array.ext_getElem?
  intro j
  simp only [Array.getElem?_map, Array.getElem?_range, List.getElem?_toArray, List.getElem?_map]
  by_cases hj : j < n * i.size
  · simp [hj]
  · simp [hj]
end
end Go.Proofs.YtehbjhocgnfpmaaDoor

/- The types of this translation: what a slice that is made holds. -/
namespace Go.Proofs.YtehbjhocgnfpmaaDoor
theorem elz24 : ElemZ Tryd.prog 24 3 .i64 1 8 := ElemZ.mk' (.int .i64 0) Tryd.underlying24 (by kernel_rfl) (by kernel_rfl) (by decide)
theorem elz34 : ElemZ Tryd.prog 34 5 .u8 1 1 := ElemZ.mk' (.int .u8 0) Tryd.underlying34 (by kernel_rfl) (by kernel_rfl) (by decide)
end Go.Proofs.YtehbjhocgnfpmaaDoor

/- What a call hands back: results in slots and results in memory; a call of a function value. -/
namespace Go.Proofs.YtehbjhocgnfpmaaDoor
open Go.RowKit
set_option linter.unusedVariables false
section
variable {P : Program} {W w : World} {rs rs' : List Res} {tmps : Array Value}
def resRun (tmps : Array Value) : ResultVar → Sem Value
  | .tmp t => pure (tmps.getD t undef)
  | .cell a t => do loadVar t (← asAddr (tmps.getD a undef))
/-- One result. -/
def OneRes (P : Program) (tmps : Array Value) (w : World) (r : ResultVar) (v : Value) : Prop := (resRun tmps r).run P w = .ok v w
theorem OneRes.tmp {t : Tmp} {v : Value} (h : tmps.getD t undef = v) : OneRes P tmps w (.tmp t) v := by
  show (pure (tmps.getD t undef) : Sem Value).run P w = .ok v w
  rw [h]; rfl
theorem OneRes.row {p g n : Nat} {ty : TypeId} {cs : List Value} (hp : tmps.getD p undef = .pointer (some ⟨g, 0, none⟩)) (h1 : RowN P ty n) (hn : cs.length = n) (hc : w.rangeAt g 0 cs) : OneRes P tmps w (.cell p ty) (.agg cs.toArray) := by
  show (do loadVar ty (← asAddr (tmps.getD p undef)) : Sem Value).run P w = .ok (.agg cs.toArray) w
  rw [hp]
  obtain ⟨hr, hs⟩ := h1
  cases hu : P.underlying ty with
  | none => rw [hu] at hr; cases hr
  | some d =>
    rw [hu, Option.map_some, Option.some.injEq] at hr
    exact run_loadVar_mid (P := P) w g 0 ty cs d hc hu hr (by rw [hs, hn])
theorem OneRes.arr {p g n : Nat} {ty : TypeId} {l : List Int} (hS : St W w rs) (hp : tmps.getD p undef = .pointer (some ⟨g, 0, none⟩)) (h1 : RowN P ty n) (pl : Pull (Go.Proofs.YtehbjhocgnfpmaaDoor.arr g n l) rs rs') : OneRes P tmps w (.cell p ty) (.agg (iv l)) := by
  obtain ⟨hr, hn⟩ := hS.arr pl
  exact OneRes.row (cs := l.map (Value.int .i64)) hp h1 (by simpa using hn) hr.range
theorem OneRes.blk {p g n : Nat} {ty : TypeId} {cs : List Value} (hS : St W w rs) (hp : tmps.getD p undef = .pointer (some ⟨g, 0, none⟩)) (h1 : RowN P ty n) (pl : Pull (Go.Proofs.YtehbjhocgnfpmaaDoor.blk g cs) rs rs') (hn : cs.length = n) : OneRes P tmps w (.cell p ty) (.agg cs.toArray) :=
  OneRes.row hp h1 hn (hS.blk pl).1.range
inductive AllRes (P : Program) (tmps : Array Value) (w : World) : List ResultVar → List Value → Prop
  | nil : AllRes P tmps w [] []
  | cons {r : ResultVar} {v : Value} {rs : List ResultVar} {vs : List Value} (h : OneRes P tmps w r v) (t : AllRes P tmps w rs vs) : AllRes P tmps w (r :: rs) (v :: vs)
theorem AllRes.run {rs : List ResultVar} {vs : List Value} (h : AllRes P tmps w rs vs) : (rs.mapM (resRun tmps)).run P w = .ok vs w := by
  induction h with
  | nil => rfl
  | @cons r v rs vs h t ih =>
    rw [List.mapM_cons]
    have h' := h
    unfold OneRes at h'
    simp only [Sem.run_bind]
    rw [h', Result.andThen_ok, ih, Result.andThen_ok]
    rfl
theorem results_ok {fn : Func} {xs : List ResultVar} {vs : List Value} (hr : fn.results = xs.toArray) (h : AllRes P tmps w xs vs) :
    (results fn tmps).run P w = .ok (if h : vs.toArray.size = 1 then vs.toArray[0] else .tuple vs.toArray) w := by
  have e : results fn tmps = (do
      let vs ← fn.results.mapM (resRun tmps)
      pure (if h : vs.size = 1 then vs[0] else .tuple vs)) := by
    unfold results
    congr 1
  have h2 := h.run
  rw [e, hr, List.mapM_toArray, Sem.run_bind, Sem.run_map, h2]
  rfl
theorem ret_all {fn : Func} {R : Ending → World → Prop} {a : Act} {xs : List ResultVar} {vs : List Value} (hr : fn.results = xs.toArray) (h : AllRes P a.tmps w xs vs) (hl : vs.length ≠ 1) (hd : a.defers = []) (hR : R (.returned (.tuple vs.toArray)) w) : bodyPost P fn R .ret a w := by
  refine bodyPost_ret (v := .tuple vs.toArray) ?_ hd hR
  rw [results_ok hr h, dif_neg (by simpa using hl)]
theorem ret_one {fn : Func} {R : Ending → World → Prop} {a : Act} {x : ResultVar} {v : Value} (hr : fn.results = #[x]) (h : OneRes P a.tmps w x v) (hd : a.defers = []) (hR : R (.returned v) w) : bodyPost P fn R .ret a w := by
  refine bodyPost_ret (v := v) ?_ hd hR
  rw [results_ok (xs := [x]) hr (AllRes.cons h AllRes.nil)]
  rfl
end
section
variable {P : Program} {w : World} {Q : Exit → Act → World → Prop} {K : Act → World → Prop} {o : Oper} {a : Act}
/-- A call of a function value, by its contract. -/
theorem wp_callV {f : FuncId} {x : Operand} {xs : List Operand} {ats : Array TypeId} {caps : Array Value} (ho : o.op = .call { callee := .value x, args := xs.toArray, argTypes := ats }) (hx : a.eval x = .func (.func f) #[] caps)
    (hcall : ∀ (args : Array Value) (w : World), (callFunc f args).run P w = .ok (.enter f args) w)
    {R : Ending → World → Prop} (hc : Calls P f ((xs.map a.eval).toArray ++ caps) w R) (h : ∀ e w', R e w' → ∃ v, e = .returned v ∧ K (a.put o.dst v) w') : o.wp P a w K Q := by
  have e1 : (execOp a.eval o).run P w = (callFunc f ((xs.map a.eval).toArray ++ caps)).run P w := by
    unfold execOp
    rw [ho]
    have e2 : (#[] ++ (xs.toArray).map a.eval ++ caps : Array Value) = (xs.map a.eval).toArray ++ caps := by simp
    rw [← e2]
    simp only [resolve, hx]
    rfl
  unfold Oper.wp
  rw [e1, hcall, Oper.upon_enter]
  refine hc.mono fun e w' hR => ?_
  obtain ⟨v, rfl, h2⟩ := h e w' hR
  exact h2
end
end Go.Proofs.YtehbjhocgnfpmaaDoor

/- Slices of structs of three ints: an element's cells; mezzotintref.Eq at them. -/
namespace Go.Proofs.YtehbjhocgnfpmaaDoor
open Go.RowKit
set_option linter.unusedVariables false
end Go.Proofs.YtehbjhocgnfpmaaDoor

/- The walks of slices.ContainsFunc and IndexFunc at ints. -/
namespace Go.Proofs.YtehbjhocgnfpmaaDoor
open Go.RowKit
def firstIdx (p : Int → Bool) (xs : List Int) : Int := match xs.findIdx? p with | some i => (i : Int) | none => -1
theorem firstIdx_some (p : Int → Bool) (xs : List Int) (i : Nat) (h : i < xs.length) (hp : p (nth xs i) = true) (hpre : ∀ j, j < i → p (nth xs j) = false) : firstIdx p xs = i := by
  have : xs.findIdx? p = some i := by
    rw [List.findIdx?_eq_some_iff_getElem]
    refine ⟨h, by simpa [nth, List.getD, List.getElem?_eq_getElem h] using hp, fun j hj => ?_⟩
    have := hpre j hj
    simpa [nth, List.getD, List.getElem?_eq_getElem (show j < xs.length by omega)] using this
  simp [firstIdx, this]
theorem firstIdx_none (p : Int → Bool) (xs : List Int) (hpre : ∀ j, j < xs.length → p (nth xs j) = false) : firstIdx p xs = -1 := by
  have : xs.findIdx? p = none := by
    rw [List.findIdx?_eq_none_iff]
    intro x hx
    obtain ⟨j, hj, rfl⟩ := List.getElem_of_mem hx
    have := hpre j hj
    simpa [nth, List.getD, List.getElem?_eq_getElem hj] using this
  simp [firstIdx, this]
theorem firstIdx_any (p : Int → Bool) (xs : List Int) : decide (0 ≤ firstIdx p xs) = xs.any p := by
  unfold firstIdx
  rw [Bool.eq_iff_iff, decide_eq_true_eq, List.any_eq_true]
  cases h : xs.findIdx? p with
  | none =>
    rw [List.findIdx?_eq_none_iff] at h
    simp only [Int.reduceNeg]
    constructor
    · intro h'; omega
    · rintro ⟨x, hx, hp⟩; rw [h x hx] at hp; cases hp
  | some i =>
    rw [List.findIdx?_eq_some_iff_getElem] at h
    obtain ⟨hi, hp, _⟩ := h
    exact ⟨fun _ => ⟨_, List.getElem_mem hi, hp⟩, fun _ => by dsimp only; omega⟩
theorem firstIdx_bd (p : Int → Bool) (xs : List Int) : -1 ≤ firstIdx p xs := by
  unfold firstIdx; split <;> omega
set_option maxHeartbeats 1000000 in
theorem indexFunc_any (w : World) (v : Value) (xs : List Int) (hs : ISl w v xs) (K : Nat) (caps : Array Value) (p : Int → Bool) (hk : ∀ (args : Array Value) (w : World), (callFunc K args).run Tryd.prog w = .ok (.enter K args) w)
    (hf : ∀ n, Calls Tryd.prog K (#[.int .i64 n] ++ caps) w fun e w' => e = .returned (.bool (p n)) ∧ w = w') :
    Calls Tryd.prog 82 #[v, .func (.func K) #[] caps] w fun e w' => e = .returned (.int .i64 (firstIdx p xs)) ∧ w = w' := by
  obtain ⟨a, c, rfl, hc1, hc2, ha⟩ := hs.open
  have HF := hid hf
  clear hf
  go_enter Tryd.func82, Tryd.ntmps82
  go_wp2_with fail
  go_loopg [8] xs.length (fun gk xv wr => ∃ (i : Nat), gk + i = xs.length ∧ xv = .int .i64 i ∧ (∀ j, j < i → p (nth xs j) = false) ∧ wr = w)
  case atStart => exact ⟨0, rfl, rfl, fun j hj => by omega, rfl⟩
  case round =>
    obtain ⟨i, hi, rfl, hpre, rfl⟩ := hrel
    have hi' : i ≤ xs.length := by omega
    have HP := hid hpre
    clear hpre
    by_cases hlt : i < xs.length
    · obtain ⟨ba, oa, rfl, hca⟩ := ha i hlt
      have h1 := hca i hlt
      clear ha hca
      have HM : Hid (gk - 1 + (i + 1) = xs.length) := by unfold Hid; omega
      have HG : Hid (gk - 1 < gk) := by unfold Hid; omega
      clear hi
      go_wp2_with fail
      refine (HF.out (nth xs i)).mono ?_
      rintro e w' ⟨rfl, rfl⟩
      by_cases hp : p (nth xs i) = true
      · have HX := hid (firstIdx_some p xs i hlt hp HP.out)
        rw [hp]
        clear hp
        go_wp2_with fail
        go_ret
        exact ⟨ret_int HX.out.symm, rfl⟩
      · have hp' : p (nth xs i) = false := by simpa using hp
        have HX : Hid (∀ j, j < i + 1 → p (nth xs j) = false) := fun j hj => by
          by_cases hji : j = i
          · subst hji; exact hp'
          · exact HP.out j (by omega)
        rw [hp']
        clear hp hp'
        go_wp2_with fail
        go_roundg (gk - 1)
        case measure => exact HG.out
        case rel => exact ⟨i + 1, HM.out, by go_num, HX.out, rfl⟩
    · have HX := hid (firstIdx_none p xs (fun j hj => HP.out j (by omega)))
      clear ha
      go_wp2_with fail
      go_ret
      exact ⟨ret_int HX.out.symm, rfl⟩
theorem containsFunc_any (w : World) (v : Value) (xs : List Int) (hs : ISl w v xs) (K : Nat) (caps : Array Value) (p : Int → Bool) (hk : ∀ (args : Array Value) (w : World), (callFunc K args).run Tryd.prog w = .ok (.enter K args) w)
    (hf : ∀ n, Calls Tryd.prog K (#[.int .i64 n] ++ caps) w fun e w' => e = .returned (.bool (p n)) ∧ w = w') :
    Calls Tryd.prog 62 #[v, .func (.func K) #[] caps] w fun e w' => e = .returned (.bool (xs.any p)) ∧ w = w' := by
  have HA := hid (firstIdx_any p xs)
  have hb := firstIdx_bd p xs
  have HF := hid (indexFunc_any w v xs hs K caps p hk hf)
  clear hf hs
  go_enter Tryd.func62, Tryd.ntmps62
  go_wp2_with (go_at_call 82; refine HF.out.mono ?_; rintro e w' ⟨rfl, rfl⟩)
  go_ret
  exact ⟨ret_bool HA.out, rfl⟩
/-- Are all numbers within bounds? -/
def allIn (l : List Int) (lo hi : Int) : Bool := !l.any fun n => decide (n < lo) || decide (hi < n)
theorem allIn_iff (l : List Int) (lo hi : Int) : allIn l lo hi = true ↔ ∀ i, i < l.length → lo ≤ nth l i ∧ nth l i ≤ hi := by
  unfold allIn
  rw [Bool.not_eq_true', List.any_eq_false]
  constructor
  · intro h i hi
    have := h l[i] (List.getElem_mem hi)
    simp only [Bool.or_eq_true, decide_eq_true_eq, not_or] at this
    simp only [nth, List.getD, List.getElem?_eq_getElem hi, Option.getD_some]
    omega
  · intro h x hx
    obtain ⟨j, hj, rfl⟩ := List.getElem_of_mem hx
    have := h j hj
    simp only [nth, List.getD, List.getElem?_eq_getElem hj, Option.getD_some] at this
    simp only [Bool.or_eq_true, decide_eq_true_eq, not_or]
    omega
end Go.Proofs.YtehbjhocgnfpmaaDoor

/- The walks of run's tokens: isCoef, token, tokens, Tokens. -/
namespace Go.Proofs.YtehbjhocgnfpmaaDoor
open Go.RowKit
set_option linter.unusedVariables false
theorem bl69_0_1_2 (m0 : Int) (m1 : Int) (m2 : Int) (w : World) : (Instr.build 69 #[(0, .int .i64 m0), (1, .int .i64 m1), (2, .int .i64 m2)]).run Tryd.prog w = .ok (.agg #[.int .i64 m0, .int .i64 m1, .int .i64 m2]) w := by kernel_rfl
theorem bl69_0 (m0 : Int) (w : World) : (Instr.build 69 #[(0, .int .i64 m0)]).run Tryd.prog w = .ok (.agg #[.int .i64 m0, .int .i64 0, .int .i64 0]) w := by kernel_rfl
def isC (n : Int) : Bool := decide (-2047 ≤ n) && decide (n ≤ 2047)
theorem isC_iff (n : Int) : isC n = true ↔ -2047 ≤ n ∧ n ≤ 2047 := by simp [isC]
theorem isCoef_any (n : Int) (w : World) : Calls Tryd.prog 72 #[.int .i64 n] w fun e w' => e = .returned (.bool (isC n)) ∧ w = w' := by
  go_enter Tryd.func72, Tryd.ntmps72
  repeat' (first
    | go_skip | ((with_reducible apply gt9 _ (.move _)); (first | go_big_want | go_step); go_step) | ((with_reducible apply gt9 _ (.assign _)); (first | go_big_want | go_step); go_step) | ((with_reducible apply gt9 _ (.pick _ _ _)); first | (refine wplPickT rfl (by kernel_rfl) ?_; go_step) | (refine wplPickF rfl (by kernel_rfl) ?_; go_step)) | ((with_reducible apply gt9 (some 4) (.binOp .geq _ _ _ _)); (refine wplD _ (V.geq rfl rfl) (by kernel_rfl) (fun hB => ?_) (fun hB => ?_) <;> (try (have hF : False := (by omega); cases hF)) <;> go_step)) | ((with_reducible apply gt9 _ (.binOp .leq _ _ _ _)); (refine wvv9 (V.leq rfl rfl) ?_; go_step)) | ((fail_if_success with_reducible apply ga9); go_step))
  all_goals (go_ret; exact ⟨ret_bool (by unfold isC; simp; omega), rfl⟩)
theorem or_tok (r k : Nat) (hr : r ≤ 15) (hk : k ≤ 12) : bits .or .i64 ((r : Int) * 2 ^ 4) (k : Int) = ((r * 16 + k : Nat) : Int) := by
  rw [show (r : Int) * 2 ^ 4 = ((r * 16 : Nat) : Int) by push_cast; omega, bits_or_i64_nat _ _ (by omega) (by omega)]
  congr 1
  rw [show r * 16 = 2 ^ 4 * r by omega]
  exact (Nat.two_pow_add_eq_or_of_lt (i := 4) (by omega) r).symm
set_option maxRecDepth 100000 in
set_option maxHeartbeats 1000000 in
theorem token_any (w0 : World) (r : Nat) (n : Int) (hr : r ≤ 15) (h0 : -4096 < n) (h1 : n < 4096) :
    Calls Tryd.prog 89 #[.int .i64 r, .int .i64 n] w0 fun e w => e = .returned (.agg #[.int .i64 (tok r n).1, .int .i64 (tok r n).2.1, .int .i64 (tok r n).2.2]) ∧ Ext w0 w := by
  have hs := sz_le n ⟨h0, h1⟩
  have HT := hid (show tok r n = (((r * 16 + sz n : Nat) : Int), (sz n : Int), sv n) from rfl)
  obtain ⟨k, hk⟩ : ∃ k, sz n = k := ⟨_, rfl⟩
  obtain ⟨v, hv⟩ : ∃ v, sv n = v := ⟨_, rfl⟩
  rw [hk, hv] at HT
  have HO := hid (or_tok r k hr (by omega))
  have HK := hid hk
  have HV := hid hv
  clear hk hv hs
  have hS := St.start w0
  go_enter Tryd.func89, Tryd.ntmps89
  repeat' (first
    | ((with_reducible apply gt9 _ (.call ⟨.value (.func 103), _, _⟩)); refine wpl_call (f := 103) Tryd.call103 (by kernel_rfl) ?_; refine ⟨_, (sizeBits_any n _ h0 h1), ?_⟩; rintro e w' ⟨rfl, rfl⟩; rw [HK.out, HV.out]; refine ⟨_, rfl, ?_⟩; refine put_move ?_; go_step) | ((with_reducible apply gt9 (some 17) (.binOp .or _ _ _ _)); (refine wplV (.int _ (((r * 16 + k : Nat) : Int))) (V.as (V.or rfl rfl) (by exact HO.out)) rfl ?_; go_step)) | ((with_reducible apply gt9 _ (.move _)); (first | go_big_want | go_step); go_step) | ((with_reducible apply gt9 _ (.assign _)); (first | go_big_want | go_step); go_step) | ((with_reducible apply gt9 _ (.extract _ _)); (refine wvv9 (V.extract rfl rfl) ?_; go_step)) | ((with_reducible apply gt9 _ (.binOp .shl _ _ _ _)); (refine wvv9 (V.shlI rfl rfl isn9 (by omega) (by omega)) ?_; go_step)) | ((with_reducible apply gt9 (some 20) (.build 69 _)); (refine wvv9 (V.build (vs := [(0, _), (1, _), (2, _)]) rfl (bl69_0_1_2 _ _ _)) ?_; go_step)) | ((with_reducible apply gt9 (some 4) (.alloc 69)); (refine wpl (by kernel_rfl) ?_; apply wp_alloc (o := ⟨some 4, _, _, _, _, _⟩) hS 69 rfl (.agg #[.int .i64 0, .int .i64 0, .int .i64 0]) [.int .i64 0, .int .i64 0, .int .i64 0] (fun w => Tryd.zeroValue69 w) rfl; clear hS; intro g4 w hS; refine put_move ?_; go_step)) | ((with_reducible apply gt9 _ (.store 69 _ _)); (refine wpl (by kernel_rfl) ?_; apply wp_storeG hS 69 _ _ rfl _ rfl 3 (row_of rfl) _ _; (case hp => exact pl9); (case hy => rfl); (case hn => rfl); (case hn' => rfl); (case hv => rfl); (case hd => exact rfl); clear hS; intro w hS)) | ((fail_if_success with_reducible apply ga9); go_step))
  refine ret_one rfl (OneRes.blk hS rfl (row_of (n := 3) rfl) pl9 rfl) rfl ?_
  exact ⟨(by rw [HT.out]; first | done | rfl), hS.1⟩
set_option maxRecDepth 100000 in
set_option maxHeartbeats 4000000 in
theorem tokens_any (w0 : World) (before : Int) (l : List Int) (hl : Len l 64) (hb : -2047 ≤ before ∧ before ≤ 2047) (hz : ∀ i, i < 64 → -2047 ≤ nth l i ∧ nth l i ≤ 2047) :
    Calls Tryd.prog 75 #[.int .i64 before, .agg (iv l)] w0 fun e w => ∃ ad c, e = .returned (.slice ad (toksOf before (zto l)).length c) ∧ St w0 w [own 69 3 ad (toksOf before (zto l)).length c ((flt (toksOf before (zto l))).map (Value.int .i64))] := by
  have hlz := zto_len l
  have hzz : ∀ i, i < 64 → -2047 ≤ nth (zto l) i ∧ nth (zto l) i ≤ 2047 := fun i hi => by rw [zto_get _ i hi]; exact hz _ (zn_lt i hi)
  obtain ⟨z, hze⟩ : ∃ z, zto l = z := ⟨_, rfl⟩
  have HZ := hid hze
  rw [hze] at hlz hzz ⊢
  have HZl : Len z 64 := hlz
  have HZZ := hid hzz
  have hz0 := hzz 0 (by omega)
  have hll : l.length = 64 := hl
  obtain ⟨all, hall⟩ : ∃ a, toksOf before z = a := ⟨_, rfl⟩
  rw [hall]
  have HAll := hid hall
  have hzl := hid hlz
  clear hze hlz hzz hall hz
  have hS := St.start w0
  go_enter Tryd.func75, Tryd.ntmps75
  repeat' (first
    | ((with_reducible apply gt9 _ (.call ⟨.value (.func 88), _, _⟩)); refine wpl_call (f := 88) Tryd.call88 (by kernel_rfl) ?_; refine ⟨_, (zto_any _ l hll), ?_⟩; rintro e w ⟨rfl, hE⟩; rw [HZ.out]; replace hS := hS.ext hE; clear hE; refine ⟨_, rfl, ?_⟩; refine put_move ?_; go_step) | ((with_reducible apply gt9 _ (.call ⟨.value (.func 89), _, _⟩)); refine wpl_call (f := 89) Tryd.call89 (by kernel_rfl) ?_; refine ⟨_, (token_any _ 0 (nth z 0 - before) (by omega) (by omega) (by omega)), ?_⟩; rintro e w ⟨rfl, hE⟩; replace hS := hS.ext hE; clear hE; refine ⟨_, rfl, ?_⟩; refine put_move ?_; go_step) | ((with_reducible apply gt9 (some 16) (.buildSlice _ _ _)); (refine wpl (by kernel_rfl) ?_; apply wp_buildSliceO (o := ⟨some 16, _, _, _, _, _⟩) hS 100 1 _ rfl 69 3 24 el100 _ _; (case hvs => (repeat (first | exact Parts.nil | (apply Parts.agg; (rfl); (rfl)) | (apply Parts.one; exact isv9; (rfl); (rfl))))); (case hn => rfl); (case hn0 => decide); (case hns => decide); clear hS; intro g16 w hS; simp only [List.cons_append, List.nil_append] at hS; refine put_move ?_; go_step)) | ((with_reducible apply gt9 _ (.move _)); (first | go_big_want | go_step); go_step) | ((with_reducible apply gt9 _ (.assign _)); (first | go_big_want | go_step); go_step) | ((with_reducible apply gt9 (some 11) (.indexAddr 52 _ _)); (refine wvv9 (V.indexAr Tryd.underlying52 isz3 rfl rfl (show IsN 0 0 from rfl) (by omega) (show 0 * 1 = 0 from rfl) nq9) ?_; go_step)) | ((with_reducible apply gt9 _ (.binOp .sub _ _ _ _)); (refine wvv9 (V.subI rfl rfl (by omega)) ?_; go_step)) | ((with_reducible apply gt9 _ (.slice 52 _ _ _ _)); (refine wvv9 (V.sliceA Tryd.underlying52 isz3 rfl (by (first | exact Lo.none | exact Lo.some rfl isn9)) (by (first | exact Up.none | exact Up.some rfl isn9)) (by omega) (by omega) (by omega) rfl rfl rfl) ?_; go_step)) | ((with_reducible apply gt9 _ (.call ⟨.builtin .len, _, _⟩)); (refine wvv9 (V.len Tryd.underlying24 rfl) ?_; go_step)) | ((with_reducible apply gt9 (some 3) (.box 52 _)); (refine wpl (by kernel_rfl) ?_; apply wp_boxA (o := ⟨some 3, _, _, _, _, _⟩) hS 52 _ rfl _ 64 rfl; (case hn => assumption); clear hS; intro g3 w hS; refine put_move ?_; go_step)) | ((with_reducible apply gt9 _ (.load 52 _)); (refine wpl (by kernel_rfl) ?_; apply wp_loadA hS 52 _ rfl _ rfl 64 (row_of rfl) _; (case hp => exact pl9); refine put_move ?_; go_step)) | ((with_reducible apply gt9 _ (.store 52 _ _)); (refine wpl (by kernel_rfl) ?_; apply wp_storeA hS 52 _ _ rfl _ rfl 64 (row_of rfl) _ _; (case hp => exact pl9); (case hy => rfl); (case hm => (repeat (first | assumption | exact Len.rep | apply Len.set | ((with_reducible show Len (_ :: _) _); exact rfl)))); (case hd => exact rfl); clear hS; intro w hS)) | ((with_reducible apply gt9 _ (.load 3 _)); (refine wpl (by kernel_rfl) ?_; apply wp_load1A hS 3 _ rfl _ _ rfl (one_of rfl) _ _; (case hp => exact pl9); (case hi => omega); refine put_move ?_; go_step)) | ((fail_if_success with_reducible apply ga9); go_step))
  rw [show 0 + 1 * 1 = 1 from rfl, show 64 - 1 = 63 from rfl]
  replace hS : St w0 w [own 69 3 (some ⟨g16, 0, none⟩) 1 1 ((flt [tok 0 (nth z 0 - before)]).map (Value.int .i64)), arr g3 64 z] := hS
  go_loopg [5, 6, 19] 63 (fun gk ov rv kv w => ∃ (k r m : Nat) (o : List Tok) (a' : Option Addr) (c' : Nat), gk + k = 63 ∧ kv = .int .i64 k ∧ rv = .int .i64 r ∧ ov = .slice a' m c' ∧ m + r ≤ k + 1 ∧ Hid (o.length = m) ∧ Hid (all = o ++ tks r (z.drop (k + 1))) ∧ St w0 w [own 69 3 a' m c' ((flt o).map (Value.int .i64)), arr g3 64 z])
  case atStart => exact ⟨0, 0, 1, [tok 0 (nth z 0 - before)], _, _, rfl, rfl, rfl, rfl, by omega, hid rfl, hid (by rw [← HAll.out]; rfl), hS⟩
  case round =>
    clear hS
    obtain ⟨k, r, m, o, a', c', hk, rfl, rfl, rfl, hmr, HO, HA, hS⟩ := hrel
    by_cases hlt : k < 63
    · have hdrop : z.drop (k + 1) = nth z (k + 1) :: z.drop (k + 2) := by
        rw [List.drop_eq_getElem_cons (by rw [hzl.out]; omega)]
        simp [nth, List.getD, hzl.out, show k + 1 < 64 by omega]
      have hn := HZZ.out (k + 1) (by omega)
      have ha := HA.out
      rw [hdrop, tks] at ha
      obtain ⟨n, hne⟩ : ∃ n, nth z (k + 1) = n := ⟨_, rfl⟩
      rw [hne] at ha hn
      have HN : Hid (nth z (1 + k) = n) := hid (by rw [← hne]; congr 1; omega)
      clear hdrop hne HA
      by_cases h0 : n = 0
      · subst h0
        rw [if_pos rfl] at ha
        have HA2 := hid ha
        clear ha
        repeat' (first
          | ((with_reducible apply gt9 (some 22) _); refine wpl (by kernel_rfl) ?_; apply wp_load1A hS 3 _ rfl _ _ rfl (one_of rfl) _ _; (case hp => exact pl9); (case hi => omega); rw [HN.out]; refine put_move ?_; go_step) | ((with_reducible apply gt9 _ (.move _)); (first | go_big_want | go_step); go_step) | ((with_reducible apply gt9 _ (.assign _)); (first | go_big_want | go_step); go_step) | ((with_reducible apply gt9 _ (.binOp .lss _ _ _ _)); (refine wvv9 (V.lss rfl rfl) ?_; go_step)) | ((with_reducible apply gt9 (some 21) (.indexAddr 24 _ _)); (refine wvv9 (V.indexSl Tryd.underlying24 isz3 rfl rfl isn9 (by omega) (Nat.mul_one _) nq9) ?_; go_step)) | ((with_reducible apply gt9 _ (.binOp .eql 3 _ _ _)); (refine wvv9 (V.eql rfl rfl) ?_; go_step)) | ((with_reducible apply gt9 _ (.binOp .add _ _ _ _)); (refine wvv9 (V.addI rfl rfl (by omega)) ?_; go_step)) | ((fail_if_success with_reducible apply ga9); go_step))
        go_roundg (gk - 1)
        case measure => omega
        case rel => exact ⟨k + 1, r + 1, m, o, a', c', by omega, by go_num, by go_num, rfl, by omega, HO, HA2, hS⟩
      · rw [if_neg h0] at ha
        have HA2 := hid ha
        clear ha
        repeat' (first
          | ((with_reducible apply gt9 (some 22) _); refine wpl (by kernel_rfl) ?_; apply wp_load1A hS 3 _ rfl _ _ rfl (one_of rfl) _ _; (case hp => exact pl9); (case hi => omega); rw [HN.out]; refine put_move ?_; go_step) | ((with_reducible apply gt9 _ (.move _)); (first | go_big_want | go_step); go_step) | ((with_reducible apply gt9 _ (.assign _)); (first | go_big_want | go_step); go_step) | ((with_reducible apply gt9 _ (.binOp .lss _ _ _ _)); (refine wvv9 (V.lss rfl rfl) ?_; go_step)) | ((with_reducible apply gt9 (some 21) (.indexAddr 24 _ _)); (refine wvv9 (V.indexSl Tryd.underlying24 isz3 rfl rfl isn9 (by omega) (Nat.mul_one _) nq9) ?_; go_step)) | ((with_reducible apply gt9 _ (.binOp .eql 3 _ _ _)); (refine wvv9 (V.eql rfl rfl) ?_; go_step)) | ((fail_if_success with_reducible apply ga9); go_step))
        obtain ⟨gk1, hgk1⟩ : ∃ x, x = gk := ⟨_, rfl⟩
        subst hgk1
        go_loopg [5, 6] r (fun gk ov rv w => ∃ (m : Nat) (o : List Tok) (a' : Option Addr) (c' : Nat), rv = .int .i64 gk ∧ ov = .slice a' m c' ∧ m + gk ≤ k + 1 ∧ Hid (o.length = m) ∧ Hid (all = o ++ (List.replicate (gk / 16) longT ++ (tok (gk % 16) n :: tks 0 (z.drop (k + 2))))) ∧ St w0 w [own 69 3 a' m c' ((flt o).map (Value.int .i64)), arr g3 64 z])
        case atStart => exact ⟨m, o, a', c', rfl, rfl, hmr, HO, HA2, hS⟩
        case round =>
          clear hS HO HA2
          obtain ⟨m, o, a', c', rfl, rfl, hmr, HO, HA2, hS⟩ := hrel
          by_cases hbig : 15 < gk
          · have HA3 : Hid (all = (o ++ [longT]) ++ (List.replicate ((gk - 16) / 16) longT ++ (tok ((gk - 16) % 16) n :: tks 0 (z.drop (k + 2))))) := hid (by
              rw [HA2.out, show gk / 16 = (gk - 16) / 16 + 1 by omega, show gk % 16 = (gk - 16) % 16 by omega, List.replicate_succ]; simp)
            have HF := hid (show flt (o ++ [longT]) = flt o ++ [240, 0, 0] from flt_snoc o longT)
            clear HA2
            repeat' (first
              | ((with_reducible apply gt9 _ (.move _)); (first | go_big_want | go_step); go_step) | ((with_reducible apply gt9 _ (.assign _)); (first | go_big_want | go_step); go_step) | ((with_reducible apply gt9 _ (.binOp .gtr _ _ _ _)); (refine wvv9 (V.gtr rfl rfl) ?_; go_step)) | ((with_reducible apply gt9 _ (.binOp .sub _ _ _ _)); (refine wvv9 (V.subI rfl rfl (by omega)) ?_; go_step)) | ((with_reducible apply gt9 (some 32) (.build 69 _)); (refine wvv9 (V.build (vs := [(0, _)]) rfl (bl69_0 _)) ?_; go_step)) | ((with_reducible apply gt9 (some 33) (.buildSlice 100 _ _)); (refine wpl (by kernel_rfl) ?_; apply wp_buildSlice1 (o := ⟨some 33, _, _, _, _, _⟩) hS 100 1 _ rfl 69 3 24 el100 _ _; (case hvs => (repeat (first | exact Parts.nil | (apply Parts.agg; (rfl); (rfl)) | (apply Parts.one; exact isv9; (rfl); (rfl))))); (case hn => rfl); (case hn0 => decide); (case hns => decide); clear hS; intro g33 w hS; simp only [List.cons_append, List.nil_append] at hS; refine put_move ?_; go_step)) | ((with_reducible apply gt9 (some 34) (.call ⟨.builtin .append, _, _⟩)); (refine wpl (by kernel_rfl) ?_; apply wp_append (o := ⟨some 34, _, _, _, _, _⟩) hS _ _ 100 rfl 69 3 24 el100 _ _ _ _ rfl; (case hp => exact pl9); (case hx => exact rfl); (case hm => (first | exact hS.slBlk pl9 (by rfl) (by decide) | exact hS.sl pl9 | with_reducible assumption | exact Sl.ext (by with_reducible assumption) hS.1 | exact Sl.nil _ _ | exact Sl.ext (by assumption) hS.1 | assumption)); (case h1 => (first | exact oneAll rfl | exact oneMap _ _ | (intro u hu; cases hu))); (case h63 => unfold maxLen; omega); (case hb => omega); clear hS; intro ad34 c34 w hS; (first | simp only [mapk1] at hS | simp only [mapk2] at hS | simp only [mapk3] at hS | simp only [mapk4] at hS | simp only [mapkl] at hS | skip); refine put_move ?_; go_step)) | ((fail_if_success with_reducible apply ga9); go_step))
            go_roundg (gk - 16)
            case measure => omega
            case rel => exact ⟨m + 1, o ++ [longT], ad34, c34, by go_num, rfl, by omega, hid (by rw [List.length_append, HO.out]; rfl), HA3, (by rw [HF.out]; exact hS.sub sb9)⟩
          · have HA3 : Hid (all = (o ++ [tok gk n]) ++ tks 0 (z.drop (k + 2))) := hid (by
              rw [HA2.out, show gk / 16 = 0 by omega, show gk % 16 = gk by omega]; simp)
            have HF := hid (flt_snoc o (tok gk n))
            clear HA2
            repeat' (first
              | ((with_reducible apply gt9 _ (.call ⟨.value (.func 89), _, _⟩)); refine wpl_call (f := 89) Tryd.call89 (by kernel_rfl) ?_; refine ⟨_, (token_any _ gk n (by omega) (by omega) (by omega)), ?_⟩; rintro e w ⟨rfl, hE⟩; replace hS := hS.ext hE; clear hE; refine ⟨_, rfl, ?_⟩; refine put_move ?_; go_step) | ((with_reducible apply gt9 _ (.move _)); (first | go_big_want | go_step); go_step) | ((with_reducible apply gt9 _ (.assign _)); (first | go_big_want | go_step); go_step) | ((with_reducible apply gt9 _ (.binOp .gtr _ _ _ _)); (refine wvv9 (V.gtr rfl rfl) ?_; go_step)) | ((with_reducible apply gt9 _ (.binOp .add _ _ _ _)); (refine wvv9 (V.addI rfl rfl (by omega)) ?_; go_step)) | ((with_reducible apply gt9 (some 39) (.buildSlice 100 _ _)); (refine wpl (by kernel_rfl) ?_; apply wp_buildSlice1 (o := ⟨some 39, _, _, _, _, _⟩) hS 100 1 _ rfl 69 3 24 el100 _ _; (case hvs => (repeat (first | exact Parts.nil | (apply Parts.agg; (rfl); (rfl)) | (apply Parts.one; exact isv9; (rfl); (rfl))))); (case hn => rfl); (case hn0 => decide); (case hns => decide); clear hS; intro g39 w hS; simp only [List.cons_append, List.nil_append] at hS; refine put_move ?_; go_step)) | ((with_reducible apply gt9 (some 40) (.call ⟨.builtin .append, _, _⟩)); (refine wpl (by kernel_rfl) ?_; apply wp_append (o := ⟨some 40, _, _, _, _, _⟩) hS _ _ 100 rfl 69 3 24 el100 _ _ _ _ rfl; (case hp => exact pl9); (case hx => exact rfl); (case hm => (first | exact hS.slBlk pl9 (by rfl) (by decide) | exact hS.sl pl9 | with_reducible assumption | exact Sl.ext (by with_reducible assumption) hS.1 | exact Sl.nil _ _ | exact Sl.ext (by assumption) hS.1 | assumption)); (case h1 => (first | exact oneAll rfl | exact oneMap _ _ | (intro u hu; cases hu))); (case h63 => unfold maxLen; omega); (case hb => omega); clear hS; intro ad40 c40 w hS; (first | simp only [mapk1] at hS | simp only [mapk2] at hS | simp only [mapk3] at hS | simp only [mapk4] at hS | simp only [mapkl] at hS | skip); refine put_move ?_; go_step)) | ((fail_if_success with_reducible apply ga9); go_step))
            go_roundg (gk1 - 1)
            case measure => omega
            case rel => exact ⟨k + 1, 0, m + 1, o ++ [tok gk n], ad40, c40, by omega, by go_num, rfl, rfl, by omega, hid (by rw [List.length_append, HO.out]; rfl), HA3, (by rw [HF.out]; exact hS.sub sb9)⟩
    · obtain rfl : k = 63 := by omega
      have ha := HA.out
      rw [show z.drop (63 + 1) = [] by rw [List.drop_eq_nil_iff, hzl.out]; omega, tks] at ha
      by_cases h0 : 0 < r
      · rw [if_pos h0] at ha
        have HL := hid (show all.length = m + 1 by rw [ha, List.length_append, HO.out]; rfl)
        have HF := hid (show flt all = flt o ++ [0, 0, 0] by rw [ha, flt_app]; rfl)
        clear ha HA
        repeat' (first
          | ((with_reducible apply gt9 _ (.move _)); (first | go_big_want | go_step); go_step) | ((with_reducible apply gt9 _ (.assign _)); (first | go_big_want | go_step); go_step) | ((with_reducible apply gt9 _ (.binOp .lss _ _ _ _)); (refine wvv9 (V.lss rfl rfl) ?_; go_step)) | ((with_reducible apply gt9 _ (.binOp .gtr _ _ _ _)); (refine wvv9 (V.gtr rfl rfl) ?_; go_step)) | ((with_reducible apply gt9 (some 45) (.build 69 _)); (refine wvv9 (V.build (vs := [(0, _)]) rfl (bl69_0 _)) ?_; go_step)) | ((with_reducible apply gt9 (some 46) (.buildSlice 100 _ _)); (refine wpl (by kernel_rfl) ?_; apply wp_buildSlice1 (o := ⟨some 46, _, _, _, _, _⟩) hS 100 1 _ rfl 69 3 24 el100 _ _; (case hvs => (repeat (first | exact Parts.nil | (apply Parts.agg; (rfl); (rfl)) | (apply Parts.one; exact isv9; (rfl); (rfl))))); (case hn => rfl); (case hn0 => decide); (case hns => decide); clear hS; intro g46 w hS; simp only [List.cons_append, List.nil_append] at hS; refine put_move ?_; go_step)) | ((with_reducible apply gt9 (some 47) (.call ⟨.builtin .append, _, _⟩)); (refine wpl (by kernel_rfl) ?_; apply wp_append (o := ⟨some 47, _, _, _, _, _⟩) hS _ _ 100 rfl 69 3 24 el100 _ _ _ _ rfl; (case hp => exact pl9); (case hx => exact rfl); (case hm => (first | exact hS.slBlk pl9 (by rfl) (by decide) | exact hS.sl pl9 | with_reducible assumption | exact Sl.ext (by with_reducible assumption) hS.1 | exact Sl.nil _ _ | exact Sl.ext (by assumption) hS.1 | assumption)); (case h1 => (first | exact oneAll rfl | exact oneMap _ _ | (intro u hu; cases hu))); (case h63 => unfold maxLen; omega); (case hb => omega); clear hS; intro ad47 c47 w hS; (first | simp only [mapk1] at hS | simp only [mapk2] at hS | simp only [mapk3] at hS | simp only [mapk4] at hS | simp only [mapkl] at hS | skip); refine put_move ?_; go_step)) | ((fail_if_success with_reducible apply ga9); go_step))
        go_ret
        refine ⟨ad47, c47, (by rw [HL.out]; first | done | rfl), ?_⟩
        rw [HL.out, HF.out]
        exact hS.sub sb9
      · rw [if_neg h0, List.append_nil] at ha
        have HL := hid (show all.length = m by rw [ha, HO.out])
        have HF := hid (show flt all = flt o by rw [ha])
        clear ha HA
        repeat' (first
          | ((with_reducible apply gt9 _ (.move _)); (first | go_big_want | go_step); go_step) | ((with_reducible apply gt9 _ (.assign _)); (first | go_big_want | go_step); go_step) | ((with_reducible apply gt9 _ (.binOp .lss _ _ _ _)); (refine wvv9 (V.lss rfl rfl) ?_; go_step)) | ((with_reducible apply gt9 _ (.binOp .gtr _ _ _ _)); (refine wvv9 (V.gtr rfl rfl) ?_; go_step)) | ((fail_if_success with_reducible apply ga9); go_step))
        go_ret
        refine ⟨a', c', (by rw [HL.out]; first | done | rfl), ?_⟩
        rw [HL.out, HF.out]
        exact hS.sub sb9
def blkIn (l : List Int) : Bool := allIn l (-2047) 2047
/-- What Tokens gives. -/
def tokE (before : Int) (l : List Int) : Int := if isC before = true ∧ blkIn l = true then 0 else 1
def tokL (before : Int) (l : List Int) : List Tok := if tokE before l = 0 then toksOf before (zto l) else []
theorem tokE_ok {before : Int} {l : List Int} (hl : l.length = 64) (h : tokE before l = 0) : (-2047 ≤ before ∧ before ≤ 2047) ∧ ∀ i, i < 64 → -2047 ≤ nth l i ∧ nth l i ≤ 2047 := by
  unfold tokE at h
  split at h
  · rename_i h1
    exact ⟨(isC_iff _).1 h1.1, fun i hi => (allIn_iff l (-2047) 2047).1 h1.2 i (by omega)⟩
  · cases h
theorem notCoef_any (n : Int) (w : World) : Calls Tryd.prog 77 #[.int .i64 n] w fun e w' => e = .returned (.bool (decide (n < -2047) || decide (2047 < n))) ∧ w = w' := by
  go_enter Tryd.func77, Tryd.ntmps77
  repeat' (first
    | ((with_reducible apply gt9 _ (.call ⟨.value (.func 72), _, _⟩)); refine wpl_call (f := 72) Tryd.call72 (by kernel_rfl) ?_; refine ⟨_, (isCoef_any n _), ?_⟩; rintro e w' ⟨rfl, rfl⟩; refine ⟨_, rfl, ?_⟩; refine put_move ?_; go_step) | ((with_reducible apply gt9 _ (.move _)); (first | go_big_want | go_step); go_step) | ((with_reducible apply gt9 _ (.assign _)); (first | go_big_want | go_step); go_step) | ((with_reducible apply gt9 _ (.unOp .not _ _)); (refine wvv9 (V.not rfl) ?_; go_step)) | ((fail_if_success with_reducible apply ga9); go_step))
  all_goals (go_ret; exact ⟨ret_bool (by rw [Bool.eq_iff_iff]; unfold isC; simp <;> omega), rfl⟩)
set_option maxRecDepth 100000 in
set_option maxHeartbeats 4000000 in
theorem tokensOf_any (w0 : World) (before : Int) (l : List Int) (hl : Len l 64) :
    Calls Tryd.prog 57 #[.int .i64 before, .agg (iv l)] w0 fun e w => ∃ ad c, e = .returned (.tuple #[.slice ad (tokL before l).length c, .int .i64 (tokE before l)]) ∧ St w0 w [own 69 3 ad (tokL before l).length c ((flt (tokL before l)).map (Value.int .i64))] := by
  have hll : l.length = 64 := hl
  have hS := St.start w0
  have hk := Tryd.call77
  obtain ⟨b1, hb1⟩ : ∃ b, isC before = b := ⟨_, rfl⟩
  obtain ⟨b2, hb2⟩ : ∃ b, blkIn l = b := ⟨_, rfl⟩
  have hnot : (l.any fun n => decide (n < -2047) || decide (2047 < n)) = !b2 := by rw [← hb2, blkIn, allIn, Bool.not_not]
  have HB1 := hid hb1
  have HN := hid hnot
  by_cases hbad : b1 = true ∧ b2 = true
  case neg =>
    have HE := hid (show tokE before l = 1 by unfold tokE; rw [if_neg (by rw [hb1, hb2]; exact hbad)])
    have HL := hid (show tokL before l = [] by unfold tokL; rw [if_neg (by rw [HE.out]; decide)])
    clear hb1 hb2 hnot
    cases b1
    case false =>
      clear hbad HN
      go_enter Tryd.func57, Tryd.ntmps57
      repeat' (first
        | ((with_reducible apply gt9 _ (.call ⟨.value (.func 72), _, _⟩)); refine wpl_call (f := 72) Tryd.call72 (by kernel_rfl) ?_; refine ⟨_, (isCoef_any before _), ?_⟩; rintro e w' ⟨rfl, rfl⟩; rw [HB1.out]; refine ⟨_, rfl, ?_⟩; refine put_move ?_; go_step) | go_skip | ((with_reducible apply gt9 _ (.move _)); (first | go_big_want | go_step); go_step) | ((with_reducible apply gt9 _ (.assign _)); (first | go_big_want | go_step); go_step) | ((with_reducible apply gt9 _ (.pick _ _ _)); (refine wplPickT rfl (by kernel_rfl) ?_; go_step)) | ((with_reducible apply gt9 (some 8) (.unOp .not _ _)); (refine wplB _ (V.not rfl) (by kernel_rfl) (fun hB => ?_) (fun hB => ?_) <;> (try (have hF : False := (absurd hB (by decide)); cases hF)) <;> go_step)) | ((with_reducible apply gt9 (some 3) (.box 52 _)); (refine wpl (by kernel_rfl) ?_; apply wp_boxA (o := ⟨some 3, _, _, _, _, _⟩) hS 52 _ rfl _ 64 rfl; (case hn => assumption); clear hS; intro g3 w hS; refine put_move ?_; go_step)) | ((fail_if_success with_reducible apply ga9); go_step))
      refine ret_all (xs := [_, _]) rfl (.cons (OneRes.tmp rfl) (.cons (OneRes.tmp rfl) (.nil))) (by simp) rfl ?_
      refine ⟨none, 0, (by rw [HE.out, HL.out]; first | done | rfl), ?_⟩
      rw [HL.out]
      exact (St.of_ext hS.1).nil _ _
    case true =>
      have hb2 : b2 = false := by cases b2 <;> simp_all
      subst hb2
      clear hbad
      go_enter Tryd.func57, Tryd.ntmps57
      repeat' (first
        | ((with_reducible apply gt9 _ (.call ⟨.value (.func 72), _, _⟩)); refine wpl_call (f := 72) Tryd.call72 (by kernel_rfl) ?_; refine ⟨_, (isCoef_any before _), ?_⟩; rintro e w' ⟨rfl, rfl⟩; rw [HB1.out]; refine ⟨_, rfl, ?_⟩; refine put_move ?_; go_step) | ((with_reducible apply gt9 _ (.call ⟨.value (.func 62), _, _⟩)); refine wpl_call (f := 62) Tryd.call62 (by kernel_rfl) ?_; refine ⟨_, (containsFunc_any _ _ l (hS.isl pl9 (by decide)) 77 #[] (fun n => decide (n < -2047) || decide (2047 < n)) hk (fun n => notCoef_any n _)), ?_⟩; rintro e w' ⟨rfl, rfl⟩; rw [HN.out]; refine ⟨_, rfl, ?_⟩; refine put_move ?_; go_step) | ((with_reducible apply gt9 _ (.move _)); (first | go_big_want | go_step); go_step) | ((with_reducible apply gt9 _ (.assign _)); (first | go_big_want | go_step); go_step) | ((with_reducible apply gt9 _ (.pick _ _ _)); (refine wplPickF rfl (by kernel_rfl) ?_; go_step)) | ((with_reducible apply gt9 (some 8) (.unOp .not _ _)); (refine wplB _ (V.not rfl) (by kernel_rfl) (fun hB => ?_) (fun hB => ?_) <;> (try (have hF : False := (absurd hB (by decide)); cases hF)) <;> go_step)) | ((with_reducible apply gt9 _ (.slice 52 _ _ _ _)); (refine wvv9 (V.sliceA Tryd.underlying52 isz3 rfl (by (first | exact Lo.none | exact Lo.some rfl isn9)) (by (first | exact Up.none | exact Up.some rfl isn9)) (by omega) (by omega) (by omega) rfl rfl rfl) ?_; go_step)) | ((with_reducible apply gt9 (some 3) (.box 52 _)); (refine wpl (by kernel_rfl) ?_; apply wp_boxA (o := ⟨some 3, _, _, _, _, _⟩) hS 52 _ rfl _ 64 rfl; (case hn => assumption); clear hS; intro g3 w hS; refine put_move ?_; go_step)) | ((fail_if_success with_reducible apply ga9); go_step))
      refine ret_all (xs := [_, _]) rfl (.cons (OneRes.tmp rfl) (.cons (OneRes.tmp rfl) (.nil))) (by simp) rfl ?_
      refine ⟨none, 0, (by rw [HE.out, HL.out]; first | done | rfl), ?_⟩
      rw [HL.out]
      exact (St.of_ext hS.1).nil _ _
  · obtain ⟨rfl, rfl⟩ := hbad
    have HE := hid (show tokE before l = 0 by unfold tokE; rw [if_pos ⟨hb1, hb2⟩])
    have HL := hid (show tokL before l = toksOf before (zto l) by unfold tokL; rw [if_pos HE.out])
    obtain ⟨q1, q2⟩ := tokE_ok hll HE.out
    have Q2 := hid q2
    clear hb1 hb2 hnot q2
    go_enter Tryd.func57, Tryd.ntmps57
    repeat' (first
      | ((with_reducible apply gt9 _ (.call ⟨.value (.func 72), _, _⟩)); refine wpl_call (f := 72) Tryd.call72 (by kernel_rfl) ?_; refine ⟨_, (isCoef_any before _), ?_⟩; rintro e w' ⟨rfl, rfl⟩; rw [HB1.out]; refine ⟨_, rfl, ?_⟩; refine put_move ?_; go_step) | ((with_reducible apply gt9 _ (.call ⟨.value (.func 62), _, _⟩)); refine wpl_call (f := 62) Tryd.call62 (by kernel_rfl) ?_; refine ⟨_, (containsFunc_any _ _ l (hS.isl pl9 (by decide)) 77 #[] (fun n => decide (n < -2047) || decide (2047 < n)) hk (fun n => notCoef_any n _)), ?_⟩; rintro e w' ⟨rfl, rfl⟩; rw [HN.out]; refine ⟨_, rfl, ?_⟩; refine put_move ?_; go_step) | ((with_reducible apply gt9 _ (.call ⟨.value (.func 75), _, _⟩)); refine wpl_call (f := 75) Tryd.call75 (by kernel_rfl) ?_; refine ⟨_, (tokens_any _ before l hl q1 Q2.out), ?_⟩; rintro e w ⟨ad2, c2, rfl, hS2⟩; replace hS := hS.call1 hS2; clear hS2; refine ⟨_, rfl, ?_⟩; refine put_move ?_; go_step) | ((with_reducible apply gt9 _ (.move _)); (first | go_big_want | go_step); go_step) | ((with_reducible apply gt9 _ (.assign _)); (first | go_big_want | go_step); go_step) | ((with_reducible apply gt9 _ (.pick _ _ _)); (refine wplPickF rfl (by kernel_rfl) ?_; go_step)) | ((with_reducible apply gt9 (some 8) (.unOp .not _ _)); (refine wplB _ (V.not rfl) (by kernel_rfl) (fun hB => ?_) (fun hB => ?_) <;> (try (have hF : False := (absurd hB (by decide)); cases hF)) <;> go_step)) | ((with_reducible apply gt9 _ (.slice 52 _ _ _ _)); (refine wvv9 (V.sliceA Tryd.underlying52 isz3 rfl (by (first | exact Lo.none | exact Lo.some rfl isn9)) (by (first | exact Up.none | exact Up.some rfl isn9)) (by omega) (by omega) (by omega) rfl rfl rfl) ?_; go_step)) | ((with_reducible apply gt9 (some 3) (.box 52 _)); (refine wpl (by kernel_rfl) ?_; apply wp_boxA (o := ⟨some 3, _, _, _, _, _⟩) hS 52 _ rfl _ 64 rfl; (case hn => assumption); clear hS; intro g3 w hS; refine put_move ?_; go_step)) | ((with_reducible apply gt9 _ (.load 52 _)); (refine wpl (by kernel_rfl) ?_; apply wp_loadA hS 52 _ rfl _ rfl 64 (row_of rfl) _; (case hp => exact pl9); refine put_move ?_; go_step)) | ((fail_if_success with_reducible apply ga9); go_step))
    refine ret_all (xs := [_, _]) rfl (.cons (OneRes.tmp rfl) (.cons (OneRes.tmp rfl) (.nil))) (by simp) rfl ?_
    refine ⟨ad2, c2, (by rw [HE.out, HL.out]; first | done | rfl), ?_⟩
    rw [HL.out]
    exact hS.sub sb9
end Go.Proofs.YtehbjhocgnfpmaaDoor

/- The walks of the reference's small functions: outside, power, SizeBits, token, ZigOrder, ZigTo, BlockWithin. -/
namespace Go.Proofs.YtehbjhocgnfpmaaDoor
open Go.RowKit
set_option linter.unusedVariables false
theorem bl69_  (w : World) : (Instr.build 69 #[]).run Tryd.prog w = .ok (.agg #[.int .i64 0, .int .i64 0, .int .i64 0]) w := by kernel_rfl
theorem outside_any (n lo hi : Int) (w : World) : Calls Tryd.prog 78 #[.int .i64 n, .int .i64 lo, .int .i64 hi] w fun e w' => e = .returned (.bool (decide (n < lo) || decide (hi < n))) ∧ w = w' := by
  go_enter Tryd.func78, Tryd.ntmps78
  repeat' (first
    | go_skip | ((with_reducible apply gt9 _ (.move _)); (first | go_big_want | go_step); go_step) | ((with_reducible apply gt9 _ (.assign _)); (first | go_big_want | go_step); go_step) | ((with_reducible apply gt9 _ (.pick _ _ _)); first | (refine wplPickT rfl (by kernel_rfl) ?_; go_step) | (refine wplPickF rfl (by kernel_rfl) ?_; go_step)) | ((with_reducible apply gt9 (some 9) (.binOp .lss _ _ _ _)); (refine wplD _ (V.lss rfl rfl) (by kernel_rfl) (fun hB => ?_) (fun hB => ?_) <;> (try (have hF : False := (by omega); cases hF)) <;> go_step)) | ((with_reducible apply gt9 _ (.binOp .gtr _ _ _ _)); (refine wvv9 (V.gtr rfl rfl) ?_; go_step)) | ((fail_if_success with_reducible apply ga9); go_step))
  all_goals (go_ret; exact ⟨ret_bool (by rw [Bool.eq_iff_iff]; simp <;> omega), rfl⟩)
theorem power_any (k P : Nat) (w : World) (hk : k ≤ 40) (hP : 2 ^ k = P) : Calls Tryd.prog 111 #[.int .i64 k] w fun e w' => e = .returned (.int .i64 (P : Int)) ∧ w = w' := by
  have HP : Hid ((2 : Int) ^ k = ((P : Nat) : Int)) := hid (by rw [← hP]; push_cast; rfl)
  have h1 : P ≤ 1099511627776 := by rw [← hP]; exact Nat.pow_le_pow_right (n := 2) (j := 40) (by omega) hk
  clear hP
  go_enter Tryd.func111, Tryd.ntmps111
  repeat' (first
    | ((with_reducible apply gt9 (some 4) (.binOp .shl _ _ _ _)); (refine wplV (.int _ (((P : Nat) : Int))) (V.as (V.shl1 rfl rfl isn9 (by omega)) (by exact HP.out)) rfl ?_; go_step)) | ((with_reducible apply gt9 _ (.move _)); (first | go_big_want | go_step); go_step) | ((with_reducible apply gt9 _ (.assign _)); (first | go_big_want | go_step); go_step) | ((fail_if_success with_reducible apply ga9); go_step))
  go_ret
  exact ⟨rfl, rfl⟩
theorem blen_iff (n k : Nat) (h : k = 0 ∨ 2 ^ (k - 1) ≤ n) (h2 : n < 2 ^ k) : blen n = k := by
  have h3 := blen_spec n
  rcases h with rfl | h
  · have : n = 0 := by omega
    rw [this]; rfl
  · by_cases hk : k = 0
    · subst hk
      have : n = 0 := by omega
      rw [this]; rfl
    · have hn : 0 < n := by have := Nat.two_pow_pos (k - 1); omega
      have h4 := h3.2 hn
      have a1 : k - 1 < blen n := by
        have : 2 ^ (k - 1) < 2 ^ blen n := by omega
        exact (Nat.pow_lt_pow_iff_right (by omega)).1 this
      have a2 : blen n - 1 < k := by
        have : 2 ^ (blen n - 1) < 2 ^ k := by omega
        exact (Nat.pow_lt_pow_iff_right (by omega)).1 this
      omega
set_option maxRecDepth 100000 in
set_option maxHeartbeats 2000000 in
theorem refBits_any (n : Int) (w0 : World) (h0 : -4096 < n) (h1 : n < 4096) :
    Calls Tryd.prog 108 #[.int .i64 n] w0 fun e w => e = .returned (.tuple #[.int .i64 (sz n), .int .i64 (sv n), .int .i64 0]) ∧ w0 = w := by
  obtain ⟨m, hm⟩ : ∃ m : Nat, m = n.natAbs := ⟨_, rfl⟩
  have hmax : max n (-n) = (m : Int) := by omega
  have hm4 : m < 4096 := by omega
  have HM := hid hm
  have HMX := hid hmax
  have HV := hid (show sv n = if n < 0 then n + (2 ^ sz n - 1 : Nat) else n from rfl)
  have HB := hid (fun k h1 h2 => show sz n = k by unfold sz; rw [← hm]; exact blen_iff m k h1 h2)
  clear hm hmax
  obtain ⟨W, hW⟩ : ∃ W, W = w0 := ⟨_, rfl⟩
  subst hW
  go_enter Tryd.func108, Tryd.ntmps108
  repeat' (first
    | ((with_reducible apply gt9 _ (.call ⟨.value (.func 78), _, _⟩)); refine wpl_call (f := 78) Tryd.call78 (by kernel_rfl) ?_; refine ⟨_, (outside_any n (-4095) 4095 _), ?_⟩; rintro e w' ⟨rfl, rfl⟩; refine ⟨_, rfl, ?_⟩; refine put_move ?_; go_step) | ((with_reducible apply gt9 _ (.move _)); (first | go_big_want | go_step); go_step) | ((with_reducible apply gt9 _ (.assign _)); (first | go_big_want | go_step); go_step) | ((fail_if_success with_reducible apply ga9); go_step))
  go_loopg [5] 13 (fun gk kv w => ∃ k : Nat, gk + k = 13 ∧ kv = .int .i64 k ∧ Hid (k = 0 ∨ 2 ^ (k - 1) ≤ m) ∧ w = W)
  case atStart => exact ⟨0, rfl, rfl, hid (.inl rfl), rfl⟩
  case round =>
    obtain ⟨k, hk, rfl, HKL, rfl⟩ := hrel
    have hk12 : k ≤ 12 := by
      by_cases h : k = 13
      · have := HKL.out; rw [h] at this; omega
      · omega
    obtain ⟨P, hP⟩ : ∃ P, 2 ^ k = P := ⟨_, rfl⟩
    have HP := hid hP
    have hP2 : P ≤ 4096 := by rw [← hP]; exact Nat.pow_le_pow_right (n := 2) (j := 12) (by omega) hk12
    have hP1 : 1 ≤ P := by rw [← hP]; exact Nat.two_pow_pos _
    clear hP
    have hmx : max n (-n) = (m : Int) := HMX.out
    by_cases hlt : P ≤ m
    · skip
      repeat' (first
        | ((with_reducible apply gt9 (some 13) _); refine wpl_call (f := 111) Tryd.call111 (by kernel_rfl) ?_; refine ⟨_, (power_any k P _ (by omega) HP.out), ?_⟩; rintro e w' ⟨rfl, rfl⟩; refine ⟨_, rfl, ?_⟩; refine put_move ?_; go_step) | ((with_reducible apply gt9 _ (.move _)); (first | go_big_want | go_step); go_step) | ((with_reducible apply gt9 _ (.assign _)); (first | go_big_want | go_step); go_step) | ((with_reducible apply gt9 _ (.unOp .neg _ _)); (refine wvv9 (V.neg rfl (by omega)) ?_; go_step)) | ((with_reducible apply gt9 _ (.call ⟨.builtin .max, _, _⟩)); (refine wvv9 (V.max rfl rfl) ?_; go_step)) | ((with_reducible apply gt9 _ (.binOp .geq _ _ _ _)); (refine wvv9 (V.geq rfl rfl) ?_; go_step)) | ((with_reducible apply gt9 _ (.binOp .add _ _ _ _)); (refine wvv9 (V.addI rfl rfl (by omega)) ?_; go_step)) | ((fail_if_success with_reducible apply ga9); go_step))
      all_goals (try (have hF : False := (by omega); cases hF))
      go_roundg (gk - 1)
      case measure => omega
      case rel => exact ⟨k + 1, by omega, by go_num, hid (.inr (by rw [Nat.add_sub_cancel, HP.out]; exact hlt)), rfl⟩
    · have hz := HB.out k HKL.out (by rw [HP.out]; omega)
      have hv := HV.out
      rw [hz, HP.out] at hv
      have HZ := hid hz
      have HV2 := hid hv
      clear hz hv
      by_cases hn : n < 0
      · skip
        repeat' (first
          | ((with_reducible apply gt9 (some 13) _); refine wpl_call (f := 111) Tryd.call111 (by kernel_rfl) ?_; refine ⟨_, (power_any k P _ (by omega) HP.out), ?_⟩; rintro e w' ⟨rfl, rfl⟩; refine ⟨_, rfl, ?_⟩; refine put_move ?_; go_step) | ((with_reducible apply gt9 _ (.move _)); (first | go_big_want | go_step); go_step) | ((with_reducible apply gt9 _ (.unOp .neg _ _)); (refine wvv9 (V.neg rfl (by omega)) ?_; go_step)) | ((with_reducible apply gt9 _ (.call ⟨.builtin .max, _, _⟩)); (refine wvv9 (V.max rfl rfl) ?_; go_step)) | ((with_reducible apply gt9 _ (.binOp .geq _ _ _ _)); (refine wvv9 (V.geq rfl rfl) ?_; go_step)) | ((fail_if_success with_reducible apply ga9); go_step))
        all_goals (try (have hF : False := (by omega); cases hF))
        repeat' (first
          | ((with_reducible apply gt9 (some 22) _); refine wpl_call (f := 111) Tryd.call111 (by kernel_rfl) ?_; refine ⟨_, (power_any k P _ (by omega) HP.out), ?_⟩; rintro e w' ⟨rfl, rfl⟩; refine ⟨_, rfl, ?_⟩; refine put_move ?_; go_step) | ((with_reducible apply gt9 _ (.move _)); (first | go_big_want | go_step); go_step) | ((with_reducible apply gt9 _ (.assign _)); (first | go_big_want | go_step); go_step) | ((with_reducible apply gt9 _ (.binOp .lss _ _ _ _)); (refine wvv9 (V.lss rfl rfl) ?_; go_step)) | ((with_reducible apply gt9 _ (.binOp .add _ _ _ _)); (refine wvv9 (V.addI rfl rfl (by omega)) ?_; go_step)) | ((with_reducible apply gt9 _ (.binOp .sub _ _ _ _)); (refine wvv9 (V.subI rfl rfl (by omega)) ?_; go_step)) | ((fail_if_success with_reducible apply ga9); go_step))
        refine bodyPost_ret (results_tmp3 rfl _ _ _) rfl ?_
        refine ⟨?_, rfl⟩
        rw [HZ.out, HV2.out, if_pos hn, show n + ((P - 1 : Nat) : Int) = n + (P : Int) - 1 by omega]
        rfl
      · skip
        repeat' (first
          | ((with_reducible apply gt9 (some 13) _); refine wpl_call (f := 111) Tryd.call111 (by kernel_rfl) ?_; refine ⟨_, (power_any k P _ (by omega) HP.out), ?_⟩; rintro e w' ⟨rfl, rfl⟩; refine ⟨_, rfl, ?_⟩; refine put_move ?_; go_step) | ((with_reducible apply gt9 _ (.move _)); (first | go_big_want | go_step); go_step) | ((with_reducible apply gt9 _ (.unOp .neg _ _)); (refine wvv9 (V.neg rfl (by omega)) ?_; go_step)) | ((with_reducible apply gt9 _ (.call ⟨.builtin .max, _, _⟩)); (refine wvv9 (V.max rfl rfl) ?_; go_step)) | ((with_reducible apply gt9 _ (.binOp .geq _ _ _ _)); (refine wvv9 (V.geq rfl rfl) ?_; go_step)) | ((fail_if_success with_reducible apply ga9); go_step))
        all_goals (try (have hF : False := (by omega); cases hF))
        repeat' (first
          | ((with_reducible apply gt9 _ (.move _)); (first | go_big_want | go_step); go_step) | ((with_reducible apply gt9 _ (.assign _)); (first | go_big_want | go_step); go_step) | ((with_reducible apply gt9 _ (.binOp .lss _ _ _ _)); (refine wvv9 (V.lss rfl rfl) ?_; go_step)) | ((fail_if_success with_reducible apply ga9); go_step))
        refine bodyPost_ret (results_tmp3 rfl _ _ _) rfl ?_
        refine ⟨?_, rfl⟩
        rw [HZ.out, HV2.out, if_neg hn]
        rfl
set_option maxRecDepth 100000 in
set_option maxHeartbeats 1000000 in
theorem refToken_any (w0 : World) (r : Nat) (n : Int) (hr : r ≤ 15) (h0 : -4096 < n) (h1 : n < 4096) :
    Calls Tryd.prog 99 #[.int .i64 r, .int .i64 n] w0 fun e w => e = .returned (.agg #[.int .i64 (tok r n).1, .int .i64 (tok r n).2.1, .int .i64 (tok r n).2.2]) ∧ Ext w0 w := by
  have hs := sz_le n ⟨h0, h1⟩
  have HT := hid (show tok r n = (((r * 16 + sz n : Nat) : Int), (sz n : Int), sv n) from rfl)
  obtain ⟨k, hk⟩ : ∃ k, sz n = k := ⟨_, rfl⟩
  obtain ⟨v, hv⟩ : ∃ v, sv n = v := ⟨_, rfl⟩
  rw [hk, hv] at HT
  have HK := hid hk
  have HV := hid hv
  rw [hk] at hs
  clear hk hv
  have hS := St.start w0
  go_enter Tryd.func99, Tryd.ntmps99
  repeat' (first
    | ((with_reducible apply gt9 _ (.call ⟨.value (.func 108), _, _⟩)); refine wpl_call (f := 108) Tryd.call108 (by kernel_rfl) ?_; refine ⟨_, (refBits_any n _ h0 h1), ?_⟩; rintro e w' ⟨rfl, rfl⟩; rw [HK.out, HV.out]; refine ⟨_, rfl, ?_⟩; refine put_move ?_; go_step) | ((with_reducible apply gt9 (some 17) (.binOp .add _ _ _ _)); (refine wplV (.int _ (((r * 16 + k : Nat) : Int))) (V.as (V.addI rfl rfl (by omega)) (by omega)) rfl ?_; go_step)) | ((with_reducible apply gt9 _ (.move _)); (first | go_big_want | go_step); go_step) | ((with_reducible apply gt9 _ (.assign _)); (first | go_big_want | go_step); go_step) | ((with_reducible apply gt9 _ (.extract _ _)); (refine wvv9 (V.extract rfl rfl) ?_; go_step)) | ((with_reducible apply gt9 _ (.binOp .mul _ _ _ _)); (refine wvv9 (V.mulI rfl rfl (by omega)) ?_; go_step)) | ((with_reducible apply gt9 (some 20) (.build 69 _)); (refine wvv9 (V.build (vs := [(0, _), (1, _), (2, _)]) rfl (bl69_0_1_2 _ _ _)) ?_; go_step)) | ((with_reducible apply gt9 (some 4) (.alloc 69)); (refine wpl (by kernel_rfl) ?_; apply wp_alloc (o := ⟨some 4, _, _, _, _, _⟩) hS 69 rfl (.agg #[.int .i64 0, .int .i64 0, .int .i64 0]) [.int .i64 0, .int .i64 0, .int .i64 0] (fun w => Tryd.zeroValue69 w) rfl; clear hS; intro g4 w hS; refine put_move ?_; go_step)) | ((with_reducible apply gt9 _ (.store 69 _ _)); (refine wpl (by kernel_rfl) ?_; apply wp_storeG hS 69 _ _ rfl _ rfl 3 (row_of rfl) _ _; (case hp => exact pl9); (case hy => rfl); (case hn => rfl); (case hn' => rfl); (case hv => rfl); (case hd => exact rfl); clear hS; intro w hS)) | ((fail_if_success with_reducible apply ga9); go_step))
  refine ret_one rfl (OneRes.blk hS rfl (row_of (n := 3) rfl) pl9 rfl) rfl ?_
  exact ⟨(by rw [HT.out]; first | done | rfl), hS.1⟩
end Go.Proofs.YtehbjhocgnfpmaaDoor

/- The walks of the reference's ZigOrder, ZigTo and BlockWithin. -/
namespace Go.Proofs.YtehbjhocgnfpmaaDoor
open Go.RowKit
set_option linter.unusedVariables false
theorem outside_in (n lo hi : Int) (w : World) (h : lo ≤ n ∧ n ≤ hi) : Calls Tryd.prog 78 #[.int .i64 n, .int .i64 lo, .int .i64 hi] w fun e w' => e = .returned (.bool false) ∧ w = w' := by
  refine (outside_any n lo hi w).mono ?_
  rintro e w' ⟨rfl, rfl⟩
  exact ⟨ret_bool (by simp; omega), rfl⟩
theorem outside_out (n lo hi : Int) (w : World) (h : n < lo ∨ hi < n) : Calls Tryd.prog 78 #[.int .i64 n, .int .i64 lo, .int .i64 hi] w fun e w' => e = .returned (.bool true) ∧ w = w' := by
  refine (outside_any n lo hi w).mono ?_
  rintro e w' ⟨rfl, rfl⟩
  exact ⟨ret_bool (by simp; omega), rfl⟩
/-- A slant of the order, place by place. -/
def zcell (s i : Nat) : List Int := let a := if s % 2 = 0 then 7 - i else i
  if a ≤ s ∧ s ≤ a + 7 then [((8 * a + (s - a) : Nat) : Int)] else []
def zslant (s : Nat) : Nat → List Int
  | 0 => []
  | i + 1 => zslant s i ++ zcell s i
def zslants : Nat → List Int
  | 0 => []
  | s + 1 => zslants s ++ zslant s 8
theorem zslants_all : zslants 15 = zi := by decide +kernel
theorem zslants_len : ∀ s, s < 16 → (zslants s).length ≤ 64 := by decide +kernel
theorem zslant_len : ∀ s, s < 15 → ∀ i, i < 9 → (zslants s ++ zslant s i).length ≤ 64 := by decide +kernel
set_option maxRecDepth 100000 in
set_option maxHeartbeats 4000000 in
theorem refOrder_any (w0 : World) : Calls Tryd.prog 107 #[] w0 fun e w => ∃ ad c, e = .returned (.slice ad 64 c) ∧ St w0 w [own 3 1 ad 64 c (zi.map (Value.int .i64))] := by
  have hS := St.start w0
  have HZL := hid zslant_len
  have HZL2 := hid zslants_len
  go_enter Tryd.func107, Tryd.ntmps107
  repeat' (first
    | ((with_reducible apply gt9 _ (.move _)); (first | go_big_want | go_step); go_step) | ((with_reducible apply gt9 _ (.assign _)); (first | go_big_want | go_step); go_step) | ((fail_if_success with_reducible apply ga9); go_step))
  replace hS := hS.nilk 3 1 .i64
  go_loopg [1, 6] 15 (fun gk ov kv w => ∃ (s m : Nat) (ad : Option Addr) (c : Nat), gk + s = 15 ∧ kv = .int .i64 s ∧ ov = .slice ad m c ∧ Hid ((zslants s).length = m) ∧ St w0 w [own 3 1 ad m c ((zslants s).map (Value.int .i64))])
  case atStart => exact ⟨0, 0, none, 0, rfl, rfl, rfl, hid rfl, hS⟩
  case round =>
    clear hS
    obtain ⟨s, m, ad, c, hs, rfl, rfl, HM, hS⟩ := hrel
    by_cases hlt : s < 15
    · skip
      repeat' (first
        | ((with_reducible apply gt9 _ (.move _)); (first | go_big_want | go_step); go_step) | ((with_reducible apply gt9 _ (.assign _)); (first | go_big_want | go_step); go_step) | ((with_reducible apply gt9 _ (.binOp .lss _ _ _ _)); (refine wvv9 (V.lss rfl rfl) ?_; go_step)) | ((fail_if_success with_reducible apply ga9); go_step))
      obtain ⟨gk1, hgk1⟩ : ∃ x, x = gk := ⟨_, rfl⟩
      subst hgk1
      go_loopg [1, 9] 8 (fun gk ov kv w => ∃ (i m : Nat) (ad : Option Addr) (c : Nat), gk + i = 8 ∧ kv = .int .i64 i ∧ ov = .slice ad m c ∧ Hid ((zslants s ++ zslant s i).length = m) ∧ St w0 w [own 3 1 ad m c ((zslants s ++ zslant s i).map (Value.int .i64))])
      case atStart => exact ⟨0, m, ad, c, rfl, rfl, rfl, hid (by rw [show zslant s 0 = [] from rfl, List.append_nil]; exact HM.out), by rw [show zslant s 0 = [] from rfl, List.append_nil]; exact hS⟩
      case round =>
        clear hS
        obtain ⟨i, m2, ad2, c2, hi, rfl, rfl, HM2, hS⟩ := hrel
        by_cases hlt2 : i < 8
        · have hm64 : m2 ≤ 64 := by rw [← HM2.out]; exact HZL.out s hlt i (by omega)
          have HSt := hid (show zslants s ++ zslant s (i + 1) = zslants s ++ zslant s i ++ zcell s i by rw [zslant, List.append_assoc])
          obtain ⟨a, ha⟩ : ∃ a, (if s % 2 = 0 then 7 - i else i) = a := ⟨_, rfl⟩
          have hzc : zcell s i = if a ≤ s ∧ s ≤ a + 7 then [((8 * a + (s - a) : Nat) : Int)] else [] := by unfold zcell; rw [ha]
          obtain ⟨L, hL⟩ : ∃ L, zslants s ++ zslant s i = L := ⟨_, rfl⟩
          rw [hL] at HM2 hS HSt
          clear hL
          have h8 : (s % 2 = 0 ∧ a = 7 - i) ∨ (s % 2 = 1 ∧ a = i) := by
            by_cases h : s % 2 = 0
            · rw [if_pos h] at ha; exact .inl ⟨h, ha.symm⟩
            · rw [if_neg h] at ha; exact .inr ⟨by omega, ha.symm⟩
          clear ha
          by_cases hin : a ≤ s ∧ s ≤ a + 7
          · rw [if_pos hin] at hzc
            rw [hzc] at HSt
            clear hzc
            rcases h8 with h8 | h8
            all_goals
              repeat' (first
                | ((with_reducible apply gt9 _ (.call ⟨.value (.func 78), _, _⟩)); refine wpl_call (f := 78) Tryd.call78 (by kernel_rfl) ?_; refine ⟨_, (outside_in _ _ _ _ (by omega)), ?_⟩; rintro e w' ⟨rfl, rfl⟩; refine ⟨_, rfl, ?_⟩; refine put_move ?_; go_step) | ((with_reducible apply gt9 (some 17) (.binOp .sub _ _ _ _)); (refine wplV (.int _ (((a : Nat) : Int))) (V.as (V.subI rfl rfl (by omega)) (by omega)) rfl ?_; go_step)) | ((with_reducible apply gt9 (some 20) (.binOp .sub _ _ _ _)); (refine wplV (.int _ (((s - a : Nat) : Int))) (V.as (V.subI rfl rfl (by omega)) (by omega)) rfl ?_; go_step)) | ((with_reducible apply gt9 (some 28) (.binOp .add _ _ _ _)); (refine wplV (.int _ (((8 * a + (s - a) : Nat) : Int))) (V.as (V.addI rfl rfl (by omega)) (by omega)) rfl ?_; go_step)) | ((with_reducible apply gt9 _ (.move _)); (first | go_big_want | go_step); go_step) | ((with_reducible apply gt9 _ (.assign _)); (first | go_big_want | go_step); go_step) | ((with_reducible apply gt9 _ (.binOp .lss _ _ _ _)); (refine wvv9 (V.lss rfl rfl) ?_; go_step)) | ((with_reducible apply gt9 _ (.binOp .rem _ _ _ _)); (refine wvv9 (V.rem rfl rfl (by omega) (by omega)) ?_; go_step)) | ((with_reducible apply gt9 _ (.binOp .eql 3 _ _ _)); (refine wvv9 (V.eql rfl rfl) ?_; go_step)) | ((with_reducible apply gt9 _ (.unOp .not _ _)); (refine wvv9 (V.not rfl) ?_; go_step)) | ((with_reducible apply gt9 _ (.binOp .mul _ _ _ _)); (refine wvv9 (V.mulI rfl rfl (by omega)) ?_; go_step)) | ((with_reducible apply gt9 _ (.binOp .add _ _ _ _)); (refine wvv9 (V.addI rfl rfl (by omega)) ?_; go_step)) | ((with_reducible apply gt9 (some 29) (.buildSlice 24 _ _)); (refine wpl (by kernel_rfl) ?_; apply wp_buildSlice1 (o := ⟨some 29, _, _, _, _, _⟩) hS 24 1 _ rfl 3 1 8 el24 _ _; (case hvs => (repeat (first | exact Parts.nil | (apply Parts.agg; (rfl); (rfl)) | (apply Parts.one; exact isv9; (rfl); (rfl))))); (case hn => rfl); (case hn0 => decide); (case hns => decide); clear hS; intro g29 w hS; refine put_move ?_; go_step)) | ((with_reducible apply gt9 (some 30) (.call ⟨.builtin .append, _, _⟩)); (refine wpl (by kernel_rfl) ?_; apply wp_append (o := ⟨some 30, _, _, _, _, _⟩) hS _ _ 24 rfl 3 1 8 el24 _ _ _ _ rfl; (case hp => exact pl9); (case hx => exact rfl); (case hm => (first | exact hS.slBlk pl9 (by rfl) (by decide) | exact hS.sl pl9 | with_reducible assumption | exact Sl.ext (by with_reducible assumption) hS.1 | exact Sl.nil _ _ | exact Sl.ext (by assumption) hS.1 | assumption)); (case h1 => (first | exact oneAll rfl | exact oneMap _ _ | (intro u hu; cases hu))); (case h63 => unfold maxLen; omega); (case hb => omega); clear hS; intro ad30 c30 w hS; (first | simp only [mapk1] at hS | simp only [mapk2] at hS | simp only [mapk3] at hS | simp only [mapk4] at hS | simp only [mapkl] at hS | skip); refine put_move ?_; go_step)) | ((fail_if_success with_reducible apply ga9); go_step))
              all_goals (try (have hF : False := (by omega); cases hF))
              go_roundg (gk - 1)
              case measure => omega
              case rel => exact ⟨i + 1, m2 + 1, ad30, c30, by omega, by go_num, rfl, hid (by rw [HSt.out, List.length_append, HM2.out]; rfl), by rw [HSt.out]; exact hS.sub sb9⟩
          · rw [if_neg hin] at hzc
            rw [hzc, List.append_nil] at HSt
            clear hzc
            rcases h8 with h8 | h8
            all_goals
              repeat' (first
                | ((with_reducible apply gt9 _ (.call ⟨.value (.func 78), _, _⟩)); refine wpl_call (f := 78) Tryd.call78 (by kernel_rfl) ?_; refine ⟨_, (outside_out _ _ _ _ (by omega)), ?_⟩; rintro e w' ⟨rfl, rfl⟩; refine ⟨_, rfl, ?_⟩; refine put_move ?_; go_step) | ((with_reducible apply gt9 _ (.move _)); (first | go_big_want | go_step); go_step) | ((with_reducible apply gt9 _ (.assign _)); (first | go_big_want | go_step); go_step) | ((with_reducible apply gt9 _ (.binOp .lss _ _ _ _)); (refine wvv9 (V.lss rfl rfl) ?_; go_step)) | ((with_reducible apply gt9 _ (.binOp .rem _ _ _ _)); (refine wvv9 (V.rem rfl rfl (by omega) (by omega)) ?_; go_step)) | ((with_reducible apply gt9 _ (.binOp .eql 3 _ _ _)); (refine wvv9 (V.eql rfl rfl) ?_; go_step)) | ((with_reducible apply gt9 _ (.binOp .sub _ _ _ _)); (refine wvv9 (V.subI rfl rfl (by omega)) ?_; go_step)) | ((with_reducible apply gt9 _ (.unOp .not _ _)); (refine wvv9 (V.not rfl) ?_; go_step)) | ((with_reducible apply gt9 _ (.binOp .add _ _ _ _)); (refine wvv9 (V.addI rfl rfl (by omega)) ?_; go_step)) | ((fail_if_success with_reducible apply ga9); go_step))
              all_goals (try (have hF : False := (by omega); cases hF))
              go_roundg (gk - 1)
              case measure => omega
              case rel => exact ⟨i + 1, m2, ad2, c2, by omega, by go_num, rfl, hid (by rw [HSt.out, HM2.out]), by rw [HSt.out]; exact hS⟩
        · obtain rfl : i = 8 := by omega
          repeat' (first
            | ((with_reducible apply gt9 _ (.binOp .lss _ _ _ _)); (refine wvv9 (V.lss rfl rfl) ?_; go_step)) | ((fail_if_success with_reducible apply ga9); go_step))
          repeat' (first
            | ((with_reducible apply gt9 _ (.move _)); (first | go_big_want | go_step); go_step) | ((with_reducible apply gt9 _ (.binOp .add _ _ _ _)); (refine wvv9 (V.addI rfl rfl (by omega)) ?_; go_step)) | ((fail_if_success with_reducible apply ga9); go_step))
          go_roundg (gk1 - 1)
          case measure => omega
          case rel => exact ⟨s + 1, m2, ad2, c2, by omega, by go_num, rfl, HM2, hS⟩
    · obtain rfl : s = 15 := by omega
      rw [zslants_all] at HM hS
      obtain rfl : 64 = m := HM.out
      repeat' (first
        | ((with_reducible apply gt9 _ (.move _)); (first | go_big_want | go_step); go_step) | ((with_reducible apply gt9 _ (.assign _)); (first | go_big_want | go_step); go_step) | ((with_reducible apply gt9 _ (.binOp .lss _ _ _ _)); (refine wvv9 (V.lss rfl rfl) ?_; go_step)) | ((fail_if_success with_reducible apply ga9); go_step))
      repeat' (first
        | ((fail_if_success with_reducible apply ga9); go_step))
      go_ret
      exact ⟨ad, c, rfl, hS.sub sb9⟩
end Go.Proofs.YtehbjhocgnfpmaaDoor

/- The walks of the reference's ZigTo, BlockWithin and Tokens. -/
namespace Go.Proofs.YtehbjhocgnfpmaaDoor
open Go.RowKit
set_option linter.unusedVariables false
theorem zi_nth (i : Nat) (h : i < 64) : nth zi i = (zn i : Int) := by
  have := zi_get i h
  rw [iv_get zi i (by rw [zi_len]; exact h)] at this
  simpa using this
set_option maxRecDepth 100000 in
set_option maxHeartbeats 4000000 in
theorem refTo_any (w0 : World) (l : List Int) (hl : Len l 64) : Calls Tryd.prog 98 #[.agg (iv l)] w0 fun e w => e = .returned (.agg (iv (zto l))) ∧ Ext w0 w := by
  have hS := St.start w0
  go_enter Tryd.func98, Tryd.ntmps98
  repeat' (first
    | ((with_reducible apply gt9 _ (.call ⟨.value (.func 107), _, _⟩)); refine wpl_call (f := 107) Tryd.call107 (by kernel_rfl) ?_; refine ⟨_, (refOrder_any _), ?_⟩; rintro e w ⟨ad, c, rfl, hS2⟩; replace hS := hS.call1 hS2; clear hS2; refine ⟨_, rfl, ?_⟩; refine put_move ?_; go_step) | ((with_reducible apply gt9 _ (.move _)); (first | go_big_want | go_step); go_step) | ((with_reducible apply gt9 _ (.call ⟨.builtin .len, _, _⟩)); (refine wvv9 (V.len Tryd.underlying24 rfl) ?_; go_step)) | ((with_reducible apply gt9 (some 1) (.box 52 _)); (refine wpl (by kernel_rfl) ?_; apply wp_boxA (o := ⟨some 1, _, _, _, _, _⟩) hS 52 _ rfl _ 64 rfl; (case hn => assumption); clear hS; intro g1 w hS; refine put_move ?_; go_step)) | ((with_reducible apply gt9 (some 2) (.alloc 52)); (refine wpl (by kernel_rfl) ?_; apply wp_allocA (o := ⟨some 2, _, _, _, _, _⟩) hS 52 rfl (List.replicate 64 0) 64 List.length_replicate za52; clear hS; intro g2 w hS; refine put_move ?_; go_step)) | ((with_reducible apply gt9 (some 3) (.alloc 52)); (refine wpl (by kernel_rfl) ?_; apply wp_allocA (o := ⟨some 3, _, _, _, _, _⟩) hS 52 rfl (List.replicate 64 0) 64 List.length_replicate za52; clear hS; intro g3 w hS; refine put_move ?_; go_step)) | ((fail_if_success with_reducible apply ga9); go_step))
  go_loopg [8] 64 (fun gk kv w => ∃ (k : Nat) (L : List Int), gk + k = 64 ∧ kv = .int .i64 k ∧ Len L 64 ∧ Hid (∀ j, j < k → nth L j = nth l (zn j)) ∧ St w0 w [own 3 1 ad 64 c (zi.map (Value.int .i64)), arr g3 64 L, arr g1 64 l, arr g2 64 (List.replicate 64 0)])
  case atStart => exact ⟨0, _, rfl, rfl, List.length_replicate, hid (fun j hj => by omega), hS.sub sb9⟩
  case round =>
    clear hS
    obtain ⟨k, L, hk, rfl, hLL, HL, hS⟩ := hrel
    by_cases hlt : k < 64
    · have hq := zn_lt k hlt
      have hz := zi_nth k hlt
      obtain ⟨q, hqe⟩ : ∃ q, zn k = q := ⟨_, rfl⟩
      rw [hqe] at hq hz
      have HQ := hid hqe
      have HZ := hid hz
      clear hqe hz
      obtain ⟨b2, rfl⟩ := own_some hS pl9 (by omega)
      repeat' (first
        | ((with_reducible apply gt9 _ (.move _)); (first | go_big_want | go_step); go_step) | ((with_reducible apply gt9 _ (.assign _)); (first | go_big_want | go_step); go_step) | ((with_reducible apply gt9 _ (.binOp .lss _ _ _ _)); (refine wvv9 (V.lss rfl rfl) ?_; go_step)) | ((with_reducible apply gt9 (some 11) (.indexAddr 24 _ _)); (refine wvv9 (V.indexSl Tryd.underlying24 isz3 rfl rfl isn9 (by omega) (Nat.mul_one _) nq9) ?_; go_step)) | ((with_reducible apply gt9 _ (.load 3 _)); (refine wpl (by kernel_rfl) ?_; apply wp_load1OI hS 3 _ rfl _ _ rfl (one_of rfl) _ _ _ _ _; (case hp => exact pl9); (case hi => omega); refine put_move ?_; go_step)) | ((fail_if_success with_reducible apply ga9); go_step))
      rw [HZ.out]
      repeat' (first
        | ((with_reducible apply gt9 _ (.move _)); (first | go_big_want | go_step); go_step) | ((with_reducible apply gt9 (some 15) (.indexAddr 52 _ _)); (refine wvv9 (V.indexAr Tryd.underlying52 isz3 rfl rfl isn9 (by omega) (Nat.mul_one _) nq9) ?_; go_step)) | ((with_reducible apply gt9 (some 17) (.indexAddr 52 _ _)); (refine wvv9 (V.indexAr Tryd.underlying52 isz3 rfl rfl isn9 (by omega) (Nat.mul_one _) nq9) ?_; go_step)) | ((with_reducible apply gt9 _ (.binOp .add _ _ _ _)); (refine wvv9 (V.addI rfl rfl (by omega)) ?_; go_step)) | ((with_reducible apply gt9 _ (.load 3 _)); (refine wpl (by kernel_rfl) ?_; apply wp_load1A hS 3 _ rfl _ _ rfl (one_of rfl) _ _; (case hp => exact pl9); (case hi => omega); refine put_move ?_; go_step)) | ((with_reducible apply gt9 _ (.store 3 _ _)); (refine wpl (by kernel_rfl) ?_; apply wp_store1A hS 3 _ _ rfl _ _ rfl (one_of rfl) _ _; (case hp => exact pl9); (case hy => rfl); (case hi => omega); (case hd => exact rfl); clear hS; intro w hS)) | ((fail_if_success with_reducible apply ga9); go_step))
      go_roundg (gk - 1)
      case measure => omega
      case rel =>
        refine ⟨k + 1, L.set k (nth l q), by omega, by go_num, Len.set hLL, hid (fun j hj => ?_), hS.sub sb9⟩
        rw [nth_set _ _ _ _ (by rw [show L.length = 64 from hLL]; exact hlt)]
        by_cases hj2 : j = k
        · subst hj2; simp [HQ.out]
        · have := HL.out j (by omega)
          rw [if_neg (by omega)]; exact this
    · obtain rfl : k = 64 := by omega
      have hz : L = zto l := by
        refine List.ext_getElem (by rw [zto_len]; exact hLL) fun j h1 h2 => ?_
        have hj : j < 64 := by have : L.length = 64 := hLL; omega
        have h3 := HL.out j hj
        rw [← zto_get l j hj] at h3
        simp only [nth, List.getD, List.getElem?_eq_getElem h1, List.getElem?_eq_getElem h2, Option.getD_some] at h3
        exact h3
      have HZ := hid hz
      clear hz
      repeat' (first
        | ((with_reducible apply gt9 _ (.binOp .lss _ _ _ _)); (refine wvv9 (V.lss rfl rfl) ?_; go_step)) | ((fail_if_success with_reducible apply ga9); go_step))
      repeat' (first
        | ((with_reducible apply gt9 _ (.load 52 _)); (refine wpl (by kernel_rfl) ?_; apply wp_loadA hS 52 _ rfl _ rfl 64 (row_of rfl) _; (case hp => exact pl9); refine put_move ?_; go_step)) | ((with_reducible apply gt9 _ (.store 52 _ _)); (refine wpl (by kernel_rfl) ?_; apply wp_storeA hS 52 _ _ rfl _ rfl 64 (row_of rfl) _ _; (case hp => exact pl9); (case hy => rfl); (case hm => (repeat (first | assumption | exact Len.rep | apply Len.set | ((with_reducible show Len (_ :: _) _); exact rfl)))); (case hd => exact rfl); clear hS; intro w hS)) | ((fail_if_success with_reducible apply ga9); go_step))
      refine ret_one rfl (OneRes.arr hS rfl (row_of (n := 64) rfl) pl9) rfl ?_
      exact ⟨by rw [← HZ.out], hS.1⟩
set_option maxRecDepth 100000 in
set_option maxHeartbeats 4000000 in
theorem within_any (w0 : World) (l : List Int) (lo hi : Int) (hl : Len l 64) : Calls Tryd.prog 58 #[.agg (iv l), .int .i64 lo, .int .i64 hi] w0 fun e w => e = .returned (.bool (allIn l lo hi)) ∧ Ext w0 w := by
  have hS := St.start w0
  have HIff := hid (allIn_iff l lo hi)
  have HLl := hid (show l.length = 64 from hl)
  obtain ⟨B, hB⟩ : ∃ B, allIn l lo hi = B := ⟨_, rfl⟩
  rw [hB] at HIff ⊢
  clear hB
  go_enter Tryd.func58, Tryd.ntmps58
  repeat' (first
    | ((with_reducible apply gt9 _ (.move _)); (first | go_big_want | go_step); go_step) | ((with_reducible apply gt9 _ (.assign _)); (first | go_big_want | go_step); go_step) | ((with_reducible apply gt9 (some 3) (.box 52 _)); (refine wpl (by kernel_rfl) ?_; apply wp_boxA (o := ⟨some 3, _, _, _, _, _⟩) hS 52 _ rfl _ 64 rfl; (case hn => assumption); clear hS; intro g3 w hS; refine put_move ?_; go_step)) | ((with_reducible apply gt9 _ (.load 52 _)); (refine wpl (by kernel_rfl) ?_; apply wp_loadA hS 52 _ rfl _ rfl 64 (row_of rfl) _; (case hp => exact pl9); refine put_move ?_; go_step)) | ((fail_if_success with_reducible apply ga9); go_step))
  go_loopg [10] 64 (fun gk kv w => ∃ (k : Nat), gk + k = 64 ∧ kv = .int .i64 k ∧ Hid (∀ j, j < k → lo ≤ nth l j ∧ nth l j ≤ hi) ∧ St w0 w [])
  case atStart => exact ⟨0, rfl, rfl, hid (fun j hj => by omega), hS.sub sb9⟩
  case round =>
    clear hS
    obtain ⟨k, hk, rfl, HL, hS⟩ := hrel
    by_cases hlt : k < 64
    · obtain ⟨x, hx⟩ : ∃ x, nth l k = x := ⟨_, rfl⟩
      have HX := hid hx
      clear hx
      by_cases hin : lo ≤ x ∧ x ≤ hi
      · skip
        repeat' (first
          | ((with_reducible apply gt9 _ (.move _)); (first | go_big_want | go_step); go_step) | ((with_reducible apply gt9 _ (.assign _)); (first | go_big_want | go_step); go_step) | ((with_reducible apply gt9 _ (.binOp .lss _ _ _ _)); (refine wvv9 (V.lss rfl rfl) ?_; go_step)) | ((with_reducible apply gt9 (some 12) (.index 52 _ _)); (refine wplV _ (V.indexIv Tryd.underlying52 Tryd.underlying3 isz3 rfl rfl (by (repeat (first | assumption | exact Len.rep | apply Len.set | ((with_reducible show Len (_ :: _) _); exact rfl)))) isn9 (by omega)) (by kernel_rfl) ?_; go_step)) | ((fail_if_success with_reducible apply ga9); go_step))
        rw [HX.out]
        repeat' (first
          | ((with_reducible apply gt9 _ (.call ⟨.value (.func 78), _, _⟩)); refine wpl_call (f := 78) Tryd.call78 (by kernel_rfl) ?_; refine ⟨_, (outside_in _ _ _ _ (by omega)), ?_⟩; rintro e w' ⟨rfl, rfl⟩; refine ⟨_, rfl, ?_⟩; refine put_move ?_; go_step) | ((with_reducible apply gt9 _ (.move _)); (first | go_big_want | go_step); go_step) | ((with_reducible apply gt9 _ (.binOp .add _ _ _ _)); (refine wvv9 (V.addI rfl rfl (by omega)) ?_; go_step)) | ((fail_if_success with_reducible apply ga9); go_step))
        go_roundg (gk - 1)
        case measure => omega
        case rel =>
          refine ⟨k + 1, by omega, by go_num, hid (fun j hj => ?_), hS⟩
          by_cases hj2 : j = k
          · subst hj2; rw [HX.out]; exact hin
          · exact HL.out j (by omega)
      · have HB : Hid (B = false) := hid (by
          cases B
          · rfl
          · have := HIff.out.1 rfl k (by rw [HLl.out]; exact hlt)
            rw [HX.out] at this
            exact absurd this hin)
        repeat' (first
          | ((with_reducible apply gt9 _ (.move _)); (first | go_big_want | go_step); go_step) | ((with_reducible apply gt9 _ (.assign _)); (first | go_big_want | go_step); go_step) | ((with_reducible apply gt9 _ (.binOp .lss _ _ _ _)); (refine wvv9 (V.lss rfl rfl) ?_; go_step)) | ((with_reducible apply gt9 (some 12) (.index 52 _ _)); (refine wplV _ (V.indexIv Tryd.underlying52 Tryd.underlying3 isz3 rfl rfl (by (repeat (first | assumption | exact Len.rep | apply Len.set | ((with_reducible show Len (_ :: _) _); exact rfl)))) isn9 (by omega)) (by kernel_rfl) ?_; go_step)) | ((fail_if_success with_reducible apply ga9); go_step))
        rw [HX.out]
        repeat' (first
          | ((with_reducible apply gt9 _ (.call ⟨.value (.func 78), _, _⟩)); refine wpl_call (f := 78) Tryd.call78 (by kernel_rfl) ?_; refine ⟨_, (outside_out _ _ _ _ (by omega)), ?_⟩; rintro e w' ⟨rfl, rfl⟩; refine ⟨_, rfl, ?_⟩; refine put_move ?_; go_step) | ((with_reducible apply gt9 _ (.assign _)); (first | go_big_want | go_step); go_step) | ((fail_if_success with_reducible apply ga9); go_step))
        go_ret
        exact ⟨by rw [HB.out]; rfl, hS.1⟩
    · obtain rfl : k = 64 := by omega
      have HB : Hid (B = true) := hid (HIff.out.2 fun i hi => HL.out i (by rw [← HLl.out]; exact hi))
      repeat' (first
        | ((with_reducible apply gt9 _ (.assign _)); (first | go_big_want | go_step); go_step) | ((with_reducible apply gt9 _ (.binOp .lss _ _ _ _)); (refine wvv9 (V.lss rfl rfl) ?_; go_step)) | ((fail_if_success with_reducible apply ga9); go_step))
      repeat' (first
        | ((fail_if_success with_reducible apply ga9); go_step))
      go_ret
      exact ⟨by rw [HB.out]; rfl, hS.1⟩
end Go.Proofs.YtehbjhocgnfpmaaDoor

/- The walk of the reference's Tokens: it gives what run.Tokens gives. -/
namespace Go.Proofs.YtehbjhocgnfpmaaDoor
open Go.RowKit
set_option linter.unusedVariables false
set_option maxRecDepth 100000 in
set_option maxHeartbeats 8000000 in
theorem refTokens_any (w0 : World) (before : Int) (l : List Int) (hl : Len l 64) :
    Calls Tryd.prog 83 #[.int .i64 before, .agg (iv l)] w0 fun e w => ∃ ad c, e = .returned (.tuple #[.slice ad (tokL before l).length c, .int .i64 (tokE before l)]) ∧ St w0 w [own 69 3 ad (tokL before l).length c ((flt (tokL before l)).map (Value.int .i64))] := by
  have hS := St.start w0
  obtain ⟨E, hE⟩ : ∃ E, tokE before l = E := ⟨_, rfl⟩
  by_cases h0 : E = 0
  case neg =>
    have hne : tokE before l ≠ 0 := by rw [hE]; exact h0
    have he1 : E = 1 := by
      rw [← hE] at h0 ⊢
      unfold tokE at h0 ⊢
      split
      · rename_i h; rw [if_pos h] at h0; exact absurd rfl h0
      · rfl
    subst he1
    have HE := hid hE
    have HTL := hid (show tokL before l = [] by unfold tokL; rw [if_neg hne])
    by_cases hb : -2047 ≤ before ∧ before ≤ 2047
    · have hin : allIn l (-2047) 2047 = false := by
        cases e : allIn l (-2047) 2047
        · rfl
        · exfalso; apply hne; unfold tokE; rw [if_pos ⟨(isC_iff _).2 hb, e⟩]
      have HIN := hid hin
      clear hne hin hE
      go_enter Tryd.func83, Tryd.ntmps83
      repeat' (first
        | ((with_reducible apply gt9 _ (.call ⟨.value (.func 78), _, _⟩)); refine wpl_call (f := 78) Tryd.call78 (by kernel_rfl) ?_; refine ⟨_, (outside_in _ _ _ _ hb), ?_⟩; rintro e w' ⟨rfl, rfl⟩; refine ⟨_, rfl, ?_⟩; refine put_move ?_; go_step) | ((with_reducible apply gt9 _ (.call ⟨.value (.func 58), _, _⟩)); refine wpl_call (f := 58) Tryd.call58 (by kernel_rfl) ?_; refine ⟨_, (within_any _ l _ _ hl), ?_⟩; rintro e w' ⟨rfl, hE2⟩; rw [HIN.out]; replace hS := hS.ext hE2; clear hE2; refine ⟨_, rfl, ?_⟩; refine put_move ?_; go_step) | ((with_reducible apply gt9 _ (.move _)); (first | go_big_want | go_step); go_step) | ((with_reducible apply gt9 _ (.assign _)); (first | go_big_want | go_step); go_step) | ((with_reducible apply gt9 _ (.pick _ _ _)); (refine wplPickF rfl (by kernel_rfl) ?_; go_step)) | ((with_reducible apply gt9 _ (.unOp .not _ _)); (refine wvv9 (V.not rfl) ?_; go_step)) | ((with_reducible apply gt9 (some 3) (.box 52 _)); (refine wpl (by kernel_rfl) ?_; apply wp_boxA (o := ⟨some 3, _, _, _, _, _⟩) hS 52 _ rfl _ 64 rfl; (case hn => assumption); clear hS; intro g3 w hS; refine put_move ?_; go_step)) | ((with_reducible apply gt9 _ (.load 52 _)); (refine wpl (by kernel_rfl) ?_; apply wp_loadA hS 52 _ rfl _ rfl 64 (row_of rfl) _; (case hp => exact pl9); refine put_move ?_; go_step)) | ((fail_if_success with_reducible apply ga9); go_step))
      all_goals (try (have hF : False := (by omega); cases hF))
      refine ret_all (xs := [_, _]) rfl (.cons (OneRes.tmp rfl) (.cons (OneRes.tmp rfl) (.nil))) (by simp) rfl ?_
      refine ⟨none, 0, by rw [HTL.out, HE.out]; rfl, ?_⟩
      rw [HTL.out]
      exact (St.of_ext hS.1).nil _ _
    · clear hne hE
      go_enter Tryd.func83, Tryd.ntmps83
      repeat' (first
        | ((with_reducible apply gt9 _ (.call ⟨.value (.func 78), _, _⟩)); refine wpl_call (f := 78) Tryd.call78 (by kernel_rfl) ?_; refine ⟨_, (outside_out _ _ _ _ (by omega)), ?_⟩; rintro e w' ⟨rfl, rfl⟩; refine ⟨_, rfl, ?_⟩; refine put_move ?_; go_step) | go_skip | ((with_reducible apply gt9 _ (.move _)); (first | go_big_want | go_step); go_step) | ((with_reducible apply gt9 _ (.assign _)); (first | go_big_want | go_step); go_step) | ((with_reducible apply gt9 _ (.pick _ _ _)); (refine wplPickT rfl (by kernel_rfl) ?_; go_step)) | ((with_reducible apply gt9 (some 3) (.box 52 _)); (refine wpl (by kernel_rfl) ?_; apply wp_boxA (o := ⟨some 3, _, _, _, _, _⟩) hS 52 _ rfl _ 64 rfl; (case hn => assumption); clear hS; intro g3 w hS; refine put_move ?_; go_step)) | ((fail_if_success with_reducible apply ga9); go_step))
      all_goals (try (have hF : False := (by omega); cases hF))
      refine ret_all (xs := [_, _]) rfl (.cons (OneRes.tmp rfl) (.cons (OneRes.tmp rfl) (.nil))) (by simp) rfl ?_
      refine ⟨none, 0, by rw [HTL.out, HE.out]; rfl, ?_⟩
      rw [HTL.out]
      exact (St.of_ext hS.1).nil _ _
  subst h0
  obtain ⟨hb, hz⟩ := tokE_ok (show l.length = 64 from hl) hE
  have HIN : Hid (allIn l (-2047) 2047 = true) := hid ((allIn_iff l (-2047) 2047).2 fun i hi => hz i (by have : l.length = 64 := hl; omega))
  have hTL : tokL before l = toksOf before (zto l) := by unfold tokL; rw [if_pos hE]
  have hlz := zto_len l
  have hzz : ∀ i, i < 64 → -2047 ≤ nth (zto l) i ∧ nth (zto l) i ≤ 2047 := fun i hi => by rw [zto_get _ i hi]; exact hz _ (zn_lt i hi)
  rw [hTL, hE]
  obtain ⟨z, hze⟩ : ∃ z, zto l = z := ⟨_, rfl⟩
  have HZ := hid hze
  rw [hze] at hlz hzz ⊢
  have HZl : Len z 64 := hlz
  have HZZ := hid hzz
  have hz0 := hzz 0 (by omega)
  obtain ⟨all, hall⟩ : ∃ a, toksOf before z = a := ⟨_, rfl⟩
  rw [hall]
  have HAll := hid hall
  have hzl := hid hlz
  clear hze hlz hzz hall hz hTL hE
  go_enter Tryd.func83, Tryd.ntmps83
  repeat' (first
    | ((with_reducible apply gt9 _ (.call ⟨.value (.func 78), _, _⟩)); refine wpl_call (f := 78) Tryd.call78 (by kernel_rfl) ?_; refine ⟨_, (outside_in _ _ _ _ hb), ?_⟩; rintro e w' ⟨rfl, rfl⟩; refine ⟨_, rfl, ?_⟩; refine put_move ?_; go_step) | ((with_reducible apply gt9 _ (.call ⟨.value (.func 58), _, _⟩)); refine wpl_call (f := 58) Tryd.call58 (by kernel_rfl) ?_; refine ⟨_, (within_any _ l _ _ hl), ?_⟩; rintro e w' ⟨rfl, hE2⟩; rw [HIN.out]; replace hS := hS.ext hE2; clear hE2; refine ⟨_, rfl, ?_⟩; refine put_move ?_; go_step) | ((with_reducible apply gt9 _ (.call ⟨.value (.func 98), _, _⟩)); refine wpl_call (f := 98) Tryd.call98 (by kernel_rfl) ?_; refine ⟨_, (refTo_any _ l hl), ?_⟩; rintro e w ⟨rfl, hE⟩; rw [HZ.out]; replace hS := hS.ext hE; clear hE; refine ⟨_, rfl, ?_⟩; refine put_move ?_; go_step) | ((with_reducible apply gt9 _ (.call ⟨.value (.func 99), _, _⟩)); refine wpl_call (f := 99) Tryd.call99 (by kernel_rfl) ?_; refine ⟨_, (refToken_any _ 0 (nth z 0 - before) (by omega) (by omega) (by omega)), ?_⟩; rintro e w ⟨rfl, hE⟩; replace hS := hS.ext hE; clear hE; refine ⟨_, rfl, ?_⟩; refine put_move ?_; go_step) | ((with_reducible apply gt9 (some 25) (.buildSlice _ _ _)); (refine wpl (by kernel_rfl) ?_; apply wp_buildSliceO (o := ⟨some 25, _, _, _, _, _⟩) hS 100 1 _ rfl 69 3 24 el100 _ _; (case hvs => (repeat (first | exact Parts.nil | (apply Parts.agg; (rfl); (rfl)) | (apply Parts.one; exact isv9; (rfl); (rfl))))); (case hn => rfl); (case hn0 => decide); (case hns => decide); clear hS; intro g25 w hS; simp only [List.cons_append, List.nil_append] at hS; refine put_move ?_; go_step)) | ((with_reducible apply gt9 _ (.move _)); (first | go_big_want | go_step); go_step) | ((with_reducible apply gt9 _ (.assign _)); (first | go_big_want | go_step); go_step) | ((with_reducible apply gt9 _ (.pick _ _ _)); (refine wplPickF rfl (by kernel_rfl) ?_; go_step)) | ((with_reducible apply gt9 _ (.unOp .not _ _)); (refine wvv9 (V.not rfl) ?_; go_step)) | ((with_reducible apply gt9 (some 20) (.indexAddr 52 _ _)); (refine wvv9 (V.indexAr Tryd.underlying52 isz3 rfl rfl (show IsN 0 0 from rfl) (by omega) (show 0 * 1 = 0 from rfl) nq9) ?_; go_step)) | ((with_reducible apply gt9 _ (.binOp .sub _ _ _ _)); (refine wvv9 (V.subI rfl rfl (by omega)) ?_; go_step)) | ((with_reducible apply gt9 (some 3) (.box 52 _)); (refine wpl (by kernel_rfl) ?_; apply wp_boxA (o := ⟨some 3, _, _, _, _, _⟩) hS 52 _ rfl _ 64 rfl; (case hn => assumption); clear hS; intro g3 w hS; refine put_move ?_; go_step)) | ((with_reducible apply gt9 _ (.load 52 _)); (refine wpl (by kernel_rfl) ?_; apply wp_loadA hS 52 _ rfl _ rfl 64 (row_of rfl) _; (case hp => exact pl9); refine put_move ?_; go_step)) | ((with_reducible apply gt9 (some 6) (.alloc 52)); (refine wpl (by kernel_rfl) ?_; apply wp_allocA (o := ⟨some 6, _, _, _, _, _⟩) hS 52 rfl (List.replicate 64 0) 64 List.length_replicate za52; clear hS; intro g6 w hS; refine put_move ?_; go_step)) | ((with_reducible apply gt9 _ (.store 52 _ _)); (refine wpl (by kernel_rfl) ?_; apply wp_storeA hS 52 _ _ rfl _ rfl 64 (row_of rfl) _ _; (case hp => exact pl9); (case hy => rfl); (case hm => (repeat (first | assumption | exact Len.rep | apply Len.set | ((with_reducible show Len (_ :: _) _); exact rfl)))); (case hd => exact rfl); clear hS; intro w hS)) | ((with_reducible apply gt9 _ (.load 3 _)); (refine wpl (by kernel_rfl) ?_; apply wp_load1A hS 3 _ rfl _ _ rfl (one_of rfl) _ _; (case hp => exact pl9); (case hi => omega); refine put_move ?_; go_step)) | ((fail_if_success with_reducible apply ga9); go_step))
  replace hS : St w0 w [own 69 3 (some ⟨g25, 0, none⟩) 1 1 ((flt [tok 0 (nth z 0 - before)]).map (Value.int .i64)), arr g6 64 z] := hS.sub (xs := [own 69 3 (some ⟨g25, 0, none⟩) 1 1 [.int .i64 (tok 0 (nth z 0 - before)).1, .int .i64 (tok 0 (nth z 0 - before)).2.1, .int .i64 (tok 0 (nth z 0 - before)).2.2], arr g6 64 z]) sb9
  go_loopg [7, 8, 9] 63 (fun gk ov lv kv w => ∃ (i la r m : Nat) (o : List Tok) (a' : Option Addr) (c' : Nat), gk + i = 64 ∧ kv = .int .i64 i ∧ lv = .int .i64 la ∧ i = la + 1 + r ∧ ov = .slice a' m c' ∧ m + r ≤ i ∧ Hid (o.length = m) ∧ Hid (all = o ++ tks r (z.drop i)) ∧ St w0 w [own 69 3 a' m c' ((flt o).map (Value.int .i64)), arr g6 64 z])
  case atStart => exact ⟨1, 0, 0, 1, [tok 0 (nth z 0 - before)], _, _, rfl, rfl, rfl, rfl, rfl, by omega, hid rfl, hid (by rw [← HAll.out]; rfl), hS⟩
  case round =>
    clear hS
    obtain ⟨i, la, r, m, o, a', c', hk, rfl, rfl, hir, rfl, hmr, HO, HA, hS⟩ := hrel
    by_cases hlt : i < 64
    · have hdrop : z.drop i = nth z i :: z.drop (i + 1) := by
        rw [List.drop_eq_getElem_cons (by rw [hzl.out]; omega)]
        simp [nth, List.getD, hzl.out, hlt]
      have hn := HZZ.out i hlt
      have ha := HA.out
      rw [hdrop, tks] at ha
      obtain ⟨n, hne⟩ : ∃ n, nth z i = n := ⟨_, rfl⟩
      rw [hne] at ha hn
      have HN := hid hne
      clear hdrop hne HA
      by_cases h0 : n = 0
      · subst h0
        rw [if_pos rfl] at ha
        have HA2 := hid ha
        clear ha
        repeat' (first
          | ((with_reducible apply gt9 (some 32) _); refine wpl (by kernel_rfl) ?_; apply wp_load1A hS 3 _ rfl _ _ rfl (one_of rfl) _ _; (case hp => exact pl9); (case hi => omega); rw [HN.out]; refine put_move ?_; go_step) | ((with_reducible apply gt9 _ (.move _)); (first | go_big_want | go_step); go_step) | ((with_reducible apply gt9 _ (.assign _)); (first | go_big_want | go_step); go_step) | ((with_reducible apply gt9 _ (.binOp .lss _ _ _ _)); (refine wvv9 (V.lss rfl rfl) ?_; go_step)) | ((with_reducible apply gt9 _ (.binOp .add _ _ _ _)); (refine wvv9 (V.addI rfl rfl (by omega)) ?_; go_step)) | ((with_reducible apply gt9 (some 31) (.indexAddr 52 _ _)); (refine wvv9 (V.indexAr Tryd.underlying52 isz3 rfl rfl isn9 (by omega) (Nat.mul_one _) nq9) ?_; go_step)) | ((with_reducible apply gt9 _ (.binOp .eql 3 _ _ _)); (refine wvv9 (V.eql rfl rfl) ?_; go_step)) | ((fail_if_success with_reducible apply ga9); go_step))
        go_roundg (gk - 1)
        case measure => omega
        case rel => exact ⟨i + 1, la, r + 1, m, o, a', c', by omega, by go_num, rfl, by omega, rfl, by omega, HO, HA2, hS⟩
      · rw [if_neg h0] at ha
        have HA2 := hid ha
        clear ha
        repeat' (first
          | ((with_reducible apply gt9 _ (.move _)); (first | go_big_want | go_step); go_step) | ((with_reducible apply gt9 _ (.binOp .lss _ _ _ _)); (refine wvv9 (V.lss rfl rfl) ?_; go_step)) | ((fail_if_success with_reducible apply ga9); go_step))
        repeat' (first
          | ((with_reducible apply gt9 (some 32) _); refine wpl (by kernel_rfl) ?_; apply wp_load1A hS 3 _ rfl _ _ rfl (one_of rfl) _ _; (case hp => exact pl9); (case hi => omega); rw [HN.out]; refine put_move ?_; go_step) | ((with_reducible apply gt9 (some 37) (.binOp .sub _ _ _ _)); (refine wplV (.int _ (((r : Nat) : Int))) (V.as (V.subI rfl rfl (by omega)) (by omega)) rfl ?_; go_step)) | ((with_reducible apply gt9 (some 39) (.binOp .quo _ _ _ _)); (refine wplV (.int _ (((r / 16 : Nat) : Int))) (V.as (V.quo rfl rfl (by omega) (by omega)) (by omega)) rfl ?_; go_step)) | ((with_reducible apply gt9 _ (.move _)); (first | go_big_want | go_step); go_step) | ((with_reducible apply gt9 _ (.assign _)); (first | go_big_want | go_step); go_step) | ((with_reducible apply gt9 (some 31) (.indexAddr 52 _ _)); (refine wvv9 (V.indexAr Tryd.underlying52 isz3 rfl rfl isn9 (by omega) (Nat.mul_one _) nq9) ?_; go_step)) | ((with_reducible apply gt9 _ (.binOp .eql 3 _ _ _)); (refine wvv9 (V.eql rfl rfl) ?_; go_step)) | ((with_reducible apply gt9 _ (.binOp .sub _ _ _ _)); (refine wvv9 (V.subI rfl rfl (by omega)) ?_; go_step)) | ((fail_if_success with_reducible apply ga9); go_step))
        obtain ⟨gk1, hgk1⟩ : ∃ x, x = gk := ⟨_, rfl⟩
        subst hgk1
        go_loopg [7, 40] (r / 16) (fun gk ov kv w => ∃ (j m : Nat) (o : List Tok) (a' : Option Addr) (c' : Nat), gk + j = r / 16 ∧ kv = .int .i64 j ∧ ov = .slice a' m c' ∧ m + r ≤ i + j ∧ Hid (o.length = m) ∧ Hid (all = o ++ (List.replicate gk longT ++ (tok (r % 16) n :: tks 0 (z.drop (i + 1))))) ∧ St w0 w [own 69 3 a' m c' ((flt o).map (Value.int .i64)), arr g6 64 z])
        case atStart => exact ⟨0, m, o, a', c', rfl, rfl, rfl, hmr, HO, HA2, hS⟩
        case round =>
          clear hS HO HA2
          obtain ⟨j, m, o, a', c', hj, rfl, rfl, hmr, HO, HA2, hS⟩ := hrel
          by_cases hbig : j < r / 16
          · have HA3 : Hid (all = (o ++ [longT]) ++ (List.replicate (gk - 1) longT ++ (tok (r % 16) n :: tks 0 (z.drop (i + 1))))) := hid (by
              rw [HA2.out, show gk = (gk - 1) + 1 by omega, List.replicate_succ]; simp)
            have HF := hid (show flt (o ++ [longT]) = flt o ++ [240, 0, 0] from flt_snoc o longT)
            clear HA2
            repeat' (first
              | ((with_reducible apply gt9 _ (.move _)); (first | go_big_want | go_step); go_step) | ((with_reducible apply gt9 _ (.assign _)); (first | go_big_want | go_step); go_step) | ((with_reducible apply gt9 _ (.binOp .lss _ _ _ _)); (refine wvv9 (V.lss rfl rfl) ?_; go_step)) | ((with_reducible apply gt9 (some 43) (.build 69 _)); (refine wvv9 (V.build (vs := [(0, _)]) rfl (bl69_0 _)) ?_; go_step)) | ((with_reducible apply gt9 _ (.binOp .add _ _ _ _)); (refine wvv9 (V.addI rfl rfl (by omega)) ?_; go_step)) | ((with_reducible apply gt9 (some 44) (.buildSlice 100 _ _)); (refine wpl (by kernel_rfl) ?_; apply wp_buildSlice1 (o := ⟨some 44, _, _, _, _, _⟩) hS 100 1 _ rfl 69 3 24 el100 _ _; (case hvs => (repeat (first | exact Parts.nil | (apply Parts.agg; (rfl); (rfl)) | (apply Parts.one; exact isv9; (rfl); (rfl))))); (case hn => rfl); (case hn0 => decide); (case hns => decide); clear hS; intro g44 w hS; simp only [List.cons_append, List.nil_append] at hS; refine put_move ?_; go_step)) | ((with_reducible apply gt9 (some 45) (.call ⟨.builtin .append, _, _⟩)); (refine wpl (by kernel_rfl) ?_; apply wp_append (o := ⟨some 45, _, _, _, _, _⟩) hS _ _ 100 rfl 69 3 24 el100 _ _ _ _ rfl; (case hp => exact pl9); (case hx => exact rfl); (case hm => (first | exact hS.slBlk pl9 (by rfl) (by decide) | exact hS.sl pl9 | with_reducible assumption | exact Sl.ext (by with_reducible assumption) hS.1 | exact Sl.nil _ _ | exact Sl.ext (by assumption) hS.1 | assumption)); (case h1 => (first | exact oneAll rfl | exact oneMap _ _ | (intro u hu; cases hu))); (case h63 => unfold maxLen; omega); (case hb => omega); clear hS; intro ad45 c45 w hS; (first | simp only [mapk1] at hS | simp only [mapk2] at hS | simp only [mapk3] at hS | simp only [mapk4] at hS | simp only [mapkl] at hS | skip); refine put_move ?_; go_step)) | ((fail_if_success with_reducible apply ga9); go_step))
            go_roundg (gk - 1)
            case measure => omega
            case rel => exact ⟨j + 1, m + 1, o ++ [longT], ad45, c45, by omega, by go_num, rfl, by omega, hid (by rw [List.length_append, HO.out]; rfl), HA3, (by rw [HF.out]; exact hS.sub sb9)⟩
          · obtain rfl : gk = 0 := by omega
            have HA3 : Hid (all = (o ++ [tok (r % 16) n]) ++ tks 0 (z.drop (i + 1))) := hid (by rw [HA2.out]; simp)
            have HF := hid (flt_snoc o (tok (r % 16) n))
            have hr15 : r % 16 ≤ 15 := by omega
            obtain ⟨q, hq⟩ : ∃ q, r % 16 = q := ⟨_, rfl⟩
            have HQ := hid hq
            rw [hq] at HA3 HF hr15
            clear HA2 hq
            repeat' (first
              | ((with_reducible apply gt9 _ (.move _)); (first | go_big_want | go_step); go_step) | ((with_reducible apply gt9 _ (.binOp .lss _ _ _ _)); (refine wvv9 (V.lss rfl rfl) ?_; go_step)) | ((fail_if_success with_reducible apply ga9); go_step))
            repeat' (first
              | ((with_reducible apply gt9 (some 52) _); refine wpl (by kernel_rfl) ?_; apply wp_load1A hS 3 _ rfl _ _ rfl (one_of rfl) _ _; (case hp => exact pl9); (case hi => omega); rw [HN.out]; refine put_move ?_; go_step) | ((with_reducible apply gt9 (some 49) (.binOp .rem _ _ _ _)); (refine wplV (.int _ (((q : Nat) : Int))) (V.as (V.rem rfl rfl (by omega) (by omega)) (by (have := HQ.out; omega))) rfl ?_; go_step)) | ((with_reducible apply gt9 (some 53) _); refine wpl_call (f := 99) Tryd.call99 (by kernel_rfl) ?_; refine ⟨_, (refToken_any _ q n hr15 (by omega) (by omega)), ?_⟩; rintro e w ⟨rfl, hE⟩; replace hS := hS.ext hE; clear hE; refine ⟨_, rfl, ?_⟩; refine put_move ?_; go_step) | ((with_reducible apply gt9 _ (.move _)); (first | go_big_want | go_step); go_step) | ((with_reducible apply gt9 _ (.assign _)); (first | go_big_want | go_step); go_step) | ((with_reducible apply gt9 (some 51) (.indexAddr 52 _ _)); (refine wvv9 (V.indexAr Tryd.underlying52 isz3 rfl rfl isn9 (by omega) (Nat.mul_one _) nq9) ?_; go_step)) | ((with_reducible apply gt9 (some 54) (.buildSlice 100 _ _)); (refine wpl (by kernel_rfl) ?_; apply wp_buildSlice1 (o := ⟨some 54, _, _, _, _, _⟩) hS 100 1 _ rfl 69 3 24 el100 _ _; (case hvs => (repeat (first | exact Parts.nil | (apply Parts.agg; (rfl); (rfl)) | (apply Parts.one; exact isv9; (rfl); (rfl))))); (case hn => rfl); (case hn0 => decide); (case hns => decide); clear hS; intro g54 w hS; simp only [List.cons_append, List.nil_append] at hS; refine put_move ?_; go_step)) | ((with_reducible apply gt9 (some 55) (.call ⟨.builtin .append, _, _⟩)); (refine wpl (by kernel_rfl) ?_; apply wp_append (o := ⟨some 55, _, _, _, _, _⟩) hS _ _ 100 rfl 69 3 24 el100 _ _ _ _ rfl; (case hp => exact pl9); (case hx => exact rfl); (case hm => (first | exact hS.slBlk pl9 (by rfl) (by decide) | exact hS.sl pl9 | with_reducible assumption | exact Sl.ext (by with_reducible assumption) hS.1 | exact Sl.nil _ _ | exact Sl.ext (by assumption) hS.1 | assumption)); (case h1 => (first | exact oneAll rfl | exact oneMap _ _ | (intro u hu; cases hu))); (case h63 => unfold maxLen; omega); (case hb => omega); clear hS; intro ad55 c55 w hS; (first | simp only [mapk1] at hS | simp only [mapk2] at hS | simp only [mapk3] at hS | simp only [mapk4] at hS | simp only [mapkl] at hS | skip); refine put_move ?_; go_step)) | ((fail_if_success with_reducible apply ga9); go_step))
            repeat' (first
              | ((with_reducible apply gt9 _ (.assign _)); (first | go_big_want | go_step); go_step) | ((with_reducible apply gt9 _ (.binOp .add _ _ _ _)); (refine wvv9 (V.addI rfl rfl (by omega)) ?_; go_step)) | ((fail_if_success with_reducible apply ga9); go_step))
            go_roundg (gk1 - 1)
            case measure => omega
            case rel => exact ⟨i + 1, i, 0, m + 1, o ++ [tok q n], ad55, c55, by omega, by go_num, rfl, by omega, rfl, by omega, hid (by rw [List.length_append, HO.out]; rfl), HA3, (by rw [HF.out]; exact hS.sub sb9)⟩
    · obtain rfl : i = 64 := by omega
      have ha := HA.out
      rw [show z.drop 64 = [] by rw [List.drop_eq_nil_iff, hzl.out]; omega, tks] at ha
      by_cases h0 : 0 < r
      · rw [if_pos h0] at ha
        have HL := hid (show all.length = m + 1 by rw [ha, List.length_append, HO.out]; rfl)
        have HF := hid (show flt all = flt o ++ [0, 0, 0] by rw [ha, flt_app]; rfl)
        clear ha HA
        repeat' (first
          | ((with_reducible apply gt9 _ (.move _)); (first | go_big_want | go_step); go_step) | ((with_reducible apply gt9 _ (.binOp .lss _ _ _ _)); (refine wvv9 (V.lss rfl rfl) ?_; go_step)) | ((fail_if_success with_reducible apply ga9); go_step))
        repeat' (first
          | ((with_reducible apply gt9 _ (.move _)); (first | go_big_want | go_step); go_step) | ((with_reducible apply gt9 _ (.assign _)); (first | go_big_want | go_step); go_step) | ((with_reducible apply gt9 (some 60) (.build 69 _)); (refine wvv9 (V.build (vs := []) rfl (bl69_)) ?_; go_step)) | ((with_reducible apply gt9 (some 61) (.buildSlice 100 _ _)); (refine wpl (by kernel_rfl) ?_; apply wp_buildSlice1 (o := ⟨some 61, _, _, _, _, _⟩) hS 100 1 _ rfl 69 3 24 el100 _ _; (case hvs => (repeat (first | exact Parts.nil | (apply Parts.agg; (rfl); (rfl)) | (apply Parts.one; exact isv9; (rfl); (rfl))))); (case hn => rfl); (case hn0 => decide); (case hns => decide); clear hS; intro g61 w hS; simp only [List.cons_append, List.nil_append] at hS; refine put_move ?_; go_step)) | ((with_reducible apply gt9 (some 62) (.call ⟨.builtin .append, _, _⟩)); (refine wpl (by kernel_rfl) ?_; apply wp_append (o := ⟨some 62, _, _, _, _, _⟩) hS _ _ 100 rfl 69 3 24 el100 _ _ _ _ rfl; (case hp => exact pl9); (case hx => exact rfl); (case hm => (first | exact hS.slBlk pl9 (by rfl) (by decide) | exact hS.sl pl9 | with_reducible assumption | exact Sl.ext (by with_reducible assumption) hS.1 | exact Sl.nil _ _ | exact Sl.ext (by assumption) hS.1 | assumption)); (case h1 => (first | exact oneAll rfl | exact oneMap _ _ | (intro u hu; cases hu))); (case h63 => unfold maxLen; omega); (case hb => omega); clear hS; intro ad62 c62 w hS; (first | simp only [mapk1] at hS | simp only [mapk2] at hS | simp only [mapk3] at hS | simp only [mapk4] at hS | simp only [mapkl] at hS | skip); refine put_move ?_; go_step)) | ((fail_if_success with_reducible apply ga9); go_step))
        refine ret_all (xs := [_, _]) rfl (.cons (OneRes.tmp rfl) (.cons (OneRes.tmp rfl) (.nil))) (by simp) rfl ?_
        refine ⟨ad62, c62, (by rw [HL.out]; first | done | rfl), ?_⟩
        rw [HL.out, HF.out]
        exact hS.sub sb9
      · rw [if_neg h0, List.append_nil] at ha
        have HL := hid (show all.length = m by rw [ha, HO.out])
        have HF := hid (show flt all = flt o by rw [ha])
        clear ha HA
        repeat' (first
          | ((with_reducible apply gt9 _ (.move _)); (first | go_big_want | go_step); go_step) | ((with_reducible apply gt9 _ (.assign _)); (first | go_big_want | go_step); go_step) | ((with_reducible apply gt9 _ (.binOp .lss _ _ _ _)); (refine wvv9 (V.lss rfl rfl) ?_; go_step)) | ((fail_if_success with_reducible apply ga9); go_step))
        repeat' (first
          | ((fail_if_success with_reducible apply ga9); go_step))
        refine ret_all (xs := [_, _]) rfl (.cons (OneRes.tmp rfl) (.cons (OneRes.tmp rfl) (.nil))) (by simp) rfl ?_
        refine ⟨a', c', (by rw [HL.out]; first | done | rfl), ?_⟩
        rw [HL.out, HF.out]
        exact hS.sub sb9
end Go.Proofs.YtehbjhocgnfpmaaDoor

/- The walks of the reference's BlocksCheck and Counts. -/
namespace Go.Proofs.YtehbjhocgnfpmaaDoor
open Go.RowKit
set_option linter.unusedVariables false
/-- Blocks that may be. -/
def allBlk (l : List Int) (n : Nat) : Bool := (List.range n).all fun k => blkIn (seg l 64 k)
theorem allBlk_succ (l : List Int) (n : Nat) : allBlk l (n + 1) = (allBlk l n && blkIn (seg l 64 n)) := by
  unfold allBlk; rw [List.range_succ, List.all_append]; simp
theorem allBlk_at {l : List Int} {n k : Nat} (h : allBlk l n = true) (hk : k < n) : blkIn (seg l 64 k) = true := by
  unfold allBlk at h
  rw [List.all_eq_true] at h
  exact h k (List.mem_range.2 hk)
theorem allBlk_not {l : List Int} {n k : Nat} (hk : k < n) (h : blkIn (seg l 64 k) = false) : allBlk l n = false := by
  cases e : allBlk l n
  · rfl
  · rw [allBlk_at e hk] at h; cases h
def blkE (l : List Int) (n : Nat) : Int := if 400 < n then 2 else if allBlk l n then 0 else 1
end Go.Proofs.YtehbjhocgnfpmaaDoor
