/- The law ScanOne: what its proof needs, part 1. -/
import Derived.WalkKit
import Derived.WalkLawsBesides
import Derived.WalkSpells
import Derived.BigQuiet
import Derived.Deep.QuietTactic
import Derived.Deep.LoopGhost
import Derived.Deep.DeepFit
import Derived.Laws.Tables
import Derived.Laws.Rows
import Derived.Deep.WholeRow
import Derived.Deep.MidRow
import Derived.Deep.RegionHeld3
import Derived.Orders
import Derived.Maps.AppendAt
import Derived.Deep.AppendLies
import Derived.Laws.OwnMore
import Derived.OwnWalk
import Derived.Great.BuildSlice
import Derived.Test.YtehbjhocgnfpmaaDoorProg
import Derived.WideKeyRuns
/- General lemmas over the model, for any program: array indexing, min and max, results of four values, small arithmetic. -/
namespace Go
@[go_sem] theorem run_index_arr {P : Program} (w : World) (t : TypeId) (cs : Array Value) (k : IntKind) (i : Int) (h : P.underlying t = some (.array (P.arrayLen t) (P.elem t))) :
    (Instr.index t (.agg cs) (.int k i)).run P w =
      if 0 ≤ i ∧ i < P.arrayLen t then ((sizeOf (P.elem t)).run P w).andThen fun s w => (part (P.elem t) cs (i.toNat * s)).run P w
      else (boundsPanic k i (P.arrayLen t) .index).run P w := by
  simp [Instr.index, run_underlying h, asIntOf]
@[go_sem] theorem run_part {P : Program} (w : World) (t : TypeId) (cs : Array Value) (off : Nat) :
    (part t cs off).run P w = ((isAgg t).run P w).andThen fun b w => if b then ((sizeOf t).run P w).andThen fun s w => .ok (.agg (cs.extract off (off + s))) w else
      match cs[off]? with | some v => .ok v w | none => .halt (.stuck "part: no such cell") w := by
  simp only [part, Sem.run_bind]
  congr 1
  funext b w
  cases b
  · simp only [Bool.false_eq_true, if_false]
    cases cs[off]? <;> rfl
  · simp
@[go_sem high] theorem run_max_int2' {P : Program} (w : World) (ts : Array TypeId) (t : TypeId) (k k' : IntKind) (x y : Int) : (Builtin.max_ ts t #[.int k x, .int k' y]).run P w = .ok (.int k (max x y)) w := by
  rw [run_max_int2]
  congr 2
  omega
@[go_sem high] theorem run_min_int2' {P : Program} (w : World) (ts : Array TypeId) (t : TypeId) (k k' : IntKind) (x y : Int) : (Builtin.min_ ts t #[.int k x, .int k' y]).run P w = .ok (.int k (min x y)) w := by
  rw [run_min_int2]
  congr 2
  omega
@[go_sem high] theorem run_max_int3' {P : Program} (w : World) (ts : Array TypeId) (t : TypeId) (k k' k'' : IntKind) (x y z : Int) : (Builtin.max_ ts t #[.int k x, .int k' y, .int k'' z]).run P w = .ok (.int k (max (max x y) z)) w := by
  rw [run_max_int3]
  congr 2
  omega
@[go_sem high] theorem run_min_int3' {P : Program} (w : World) (ts : Array TypeId) (t : TypeId) (k k' k'' : IntKind) (x y z : Int) : (Builtin.min_ ts t #[.int k x, .int k' y, .int k'' z]).run P w = .ok (.int k (min (min x y) z)) w := by
  rw [run_min_int3]
  congr 2
  omega
end Go
namespace Go.Proofs.YtehbjhocgnfpmaaDoor
open Go.RowKit
/-- A fact kept from the walk. -/
theorem hid {p : Prop} (h : p) : Hid p := h
/-- The world w' is W with new blocks behind it, and draws made: of what was there nothing has turned. -/
def Ext (W w' : World) : Prop := Below W.heap.size W w'
theorem Ext.refl (W : World) : Ext W W := Below.refl _ _
theorem Ext.trans {a b c : World} (h : Ext a b) (k : Ext b c) : Ext a c := Below.trans h (Below.mono k h.size)
theorem Ext.drew {W w : World} (h : Ext W w) : Ext W w.drew := Below.drew h
theorem Ext.drewN {W w : World} {n : Nat} (h : Ext W w) : Ext W (w.drewN n) := ⟨h.os, h.tape, h.output, h.size, h.block⟩
theorem Ext.alloc {W w : World} (h : Ext W w) (o : Obj) : Ext W (w.alloc o) := Below.alloc h h.size o
theorem Ext.setCell {W w : World} (h : Ext W w) {a : Addr} (ha : W.heap.size ≤ a.block) (v : Value) : Ext W (w.setCell a v) := Below.setCell h ha v
theorem Ext.sz {W w : World} (h : Ext W w) : W.heap.size ≤ w.heap.size := h.size
theorem Ext.at {W w : World} (h : Ext W w) {k : Nat} (hk : k < W.heap.size) : w.heap[k]? = W.heap[k]? := h.block k hk
theorem Ext.cell {W w : World} (h : Ext W w) {p : Addr} {v : Value} (hp : W.cell? p = some v) : w.cell? p = some v :=
  (Below.cell h (World.block_lt_of_cell? W p hp)).trans hp
theorem ret_int {k : IntKind} {a b : Int} (h : a = b) : Ending.returned (.int k a) = .returned (.int k b) := by rw [h]
theorem ret_bool {a b : Bool} (h : a = b) : Ending.returned (.bool a) = .returned (.bool b) := by rw [h]

theorem emod_of_tmod_neg (n m : Int) (hm : 0 < m) (h : n.tmod m < 0) : n.tmod m + m = n % m := by
  have := Int.tmod_eq_emod (a := n) (b := m)
  have h2 := Int.emod_nonneg n (b := m) (by omega)
  split at this <;> omega
theorem emod_of_tmod_pos (n m : Int) (hm : 0 < m) (h : 0 ≤ n.tmod m) : n.tmod m = n % m := by
  have := Int.tmod_eq_emod (a := n) (b := m)
  have h2 := Int.emod_nonneg n (b := m) (by omega)
  have h3 := Int.emod_lt_of_pos n hm
  split at this <;> omega

end Go.Proofs.YtehbjhocgnfpmaaDoor

/- Lists of bits, the numbers that they write, and bytes: plain mathematics. -/
namespace Go.Proofs.YtehbjhocgnfpmaaDoor
/-- The number that a list of bits writes, the highest bit first. -/
def num (l : List Bool) : Nat := l.foldl (fun a b => 2 * a + b.toNat) 0
theorem num_from (l : List Bool) : ∀ a, l.foldl (fun a b => 2 * a + b.toNat) a = a * 2 ^ l.length + num l := by
  induction l with
  | nil => intro a; simp [num]
  | cons b l ih =>
    intro a
    simp only [num, List.foldl_cons, List.length_cons]
    rw [ih, ih (2 * 0 + b.toNat), Nat.pow_succ, Nat.add_mul, Nat.mul_assoc, Nat.mul_zero, Nat.zero_add]
    have e : a * (2 ^ l.length * 2) = 2 * (a * 2 ^ l.length) := by rw [← Nat.mul_assoc, Nat.mul_comm]
    rw [e]
    omega
theorem num_append (xs ys : List Bool) : num (xs ++ ys) = num xs * 2 ^ ys.length + num ys := by
  unfold num
  rw [List.foldl_append]
  exact num_from ys _
theorem num_snoc (xs : List Bool) (b : Bool) : num (xs ++ [b]) = 2 * num xs + b.toNat := by
  rw [num_append]; simp [num, Nat.mul_comm]
theorem num_lt (l : List Bool) : num l < 2 ^ l.length := by
  induction l with
  | nil => simp [num]
  | cons b l ih =>
    have h := num_append [b] l
    simp only [List.singleton_append] at h
    rw [h, List.length_cons, Nat.pow_succ]
    have : num [b] ≤ 1 := by cases b <;> simp [num]
    have h2 : num [b] * 2 ^ l.length ≤ 1 * 2 ^ l.length := Nat.mul_le_mul_right _ this
    omega
/-- The lowest w bits of v, the highest first. -/
def bitsOf : Nat → Nat → List Bool
  | 0, _ => []
  | w + 1, v => bitsOf w (v / 2) ++ [v % 2 == 1]
theorem bitsOf_len (w : Nat) : ∀ v, (bitsOf w v).length = w := by
  induction w with
  | zero => intro v; rfl
  | succ w ih => intro v; simp [bitsOf, ih]
theorem num_bitsOf (w : Nat) : ∀ v, num (bitsOf w v) = v % 2 ^ w := by
  induction w with
  | zero => intro v; simp [bitsOf, num, Nat.mod_one]
  | succ w ih =>
    intro v
    simp only [bitsOf, num_snoc, ih]
    have h1 : (v % 2 == 1).toNat = v % 2 := by
      rcases Nat.mod_two_eq_zero_or_one v with h | h <;> simp [h]
    rw [h1, Nat.pow_succ, Nat.mul_comm (2 ^ w) 2, Nat.mod_mul]
    omega
theorem num_bitsOf_lt (w v : Nat) (h : v < 2 ^ w) : num (bitsOf w v) = v := by rw [num_bitsOf, Nat.mod_eq_of_lt h]
theorem bitsOf_num (l : List Bool) : bitsOf l.length (num l) = l := by
  generalize hn : l.length = n
  induction n generalizing l with
  | zero => have := List.eq_nil_of_length_eq_zero hn; subst this; rfl
  | succ n ih =>
    obtain ⟨l, b, rfl⟩ : ∃ m b, l = m ++ [b] := by
      have hne : l ≠ [] := by intro h; subst h; simp at hn
      exact ⟨l.dropLast, l.getLast hne, (List.dropLast_concat_getLast hne).symm⟩
    rw [num_snoc, bitsOf]
    have h1 : (2 * num l + b.toNat) / 2 = num l := by cases b <;> simp <;> omega
    have h2 : ((2 * num l + b.toNat) % 2 == 1) = b := by cases b <;> simp <;> omega
    rw [h1, h2, ih l (by simpa using hn)]
theorem num_inj (xs ys : List Bool) (hl : xs.length = ys.length) (h : num xs = num ys) : xs = ys := by
  rw [← bitsOf_num xs, ← bitsOf_num ys, hl, h]
/-- A window of a list of bits, off its number. -/
theorem num_window (l : List Bool) (i n : Nat) (h : i + n ≤ l.length) : num ((l.drop i).take n) = num l / 2 ^ (l.length - i - n) % 2 ^ n := by
  have e1 : l = l.take i ++ ((l.drop i).take n ++ l.drop (i + n)) := by
    rw [← List.drop_drop, List.take_append_drop, List.take_append_drop]
  have hl3 : (l.drop (i + n)).length = l.length - i - n := by simp; omega
  have hl2 : ((l.drop i).take n).length = n := by simp; omega
  have hlt := num_lt (l.drop (i + n))
  have hlt2 := num_lt ((l.drop i).take n)
  rw [hl3] at hlt
  rw [hl2] at hlt2
  conv => rhs; rw [e1]
  have hl0 : (l.take i ++ ((l.drop i).take n ++ l.drop (i + n))).length = l.length := by rw [← e1]
  rw [hl0, num_append, num_append, List.length_append, hl2, hl3]
  generalize num (l.drop (i + n)) = z at *
  generalize num ((l.drop i).take n) = y at *
  generalize num (l.take i) = x at *
  generalize l.length - i - n = m at *
  have hp : 0 < 2 ^ m := Nat.two_pow_pos _
  rw [Nat.pow_add, ← Nat.mul_assoc, ← Nat.add_assoc, ← Nat.add_mul, Nat.add_comm, Nat.add_mul_div_right _ _ hp, Nat.div_eq_of_lt hlt, Nat.zero_add, Nat.add_comm, Nat.add_mul_mod_self_right, Nat.mod_eq_of_lt hlt2]
/-- k whole bytes of a list of bits. -/
def packs : Nat → List Bool → List Nat
  | 0, _ => []
  | k + 1, bs => num (bs.take 8) :: packs k (bs.drop 8)
theorem packs_len (k : Nat) : ∀ bs, (packs k bs).length = k := by
  induction k with
  | zero => intro; rfl
  | succ k ih => intro; simp [packs, ih]
theorem packs_succ (k : Nat) : ∀ bs : List Bool, packs (k + 1) bs = packs k bs ++ [num ((bs.drop (8 * k)).take 8)] := by
  induction k with
  | zero => intro bs; simp [packs]
  | succ k ih =>
    intro bs
    rw [packs, ih, packs, List.cons_append, List.drop_drop]
    congr 3
    rw [show 8 + 8 * k = 8 * (k + 1) by omega]
theorem packs_append (k : Nat) : ∀ (bs cs : List Bool), 8 * k ≤ bs.length → packs k (bs ++ cs) = packs k bs := by
  induction k with
  | zero => intros; rfl
  | succ k ih =>
    intro bs cs h
    rw [packs, packs, List.take_append_of_le_length (by omega), List.drop_append_of_le_length (by omega), ih _ _ (by simp; omega)]
theorem packs_lt (k : Nat) : ∀ bs, ∀ x ∈ packs k bs, x < 256 := by
  induction k with
  | zero => intro bs x hx; simp [packs] at hx
  | succ k ih =>
    intro bs x hx
    rw [packs, List.mem_cons] at hx
    rcases hx with rfl | hx
    · have h := num_lt (bs.take 8)
      have h2 : (bs.take 8).length ≤ 8 := by simp; omega
      have h3 : 2 ^ (bs.take 8).length ≤ 2 ^ 8 := Nat.pow_le_pow_right (by omega) h2
      omega
    · exact ih _ x hx
/-- The bits of bytes. -/
def unpack (l : List Nat) : List Bool := l.flatMap (bitsOf 8)
theorem unpack_len (l : List Nat) : (unpack l).length = 8 * l.length := by
  induction l with
  | nil => rfl
  | cons x l ih => simp [unpack, bitsOf_len] at *; omega
theorem unpack_append (a b : List Nat) : unpack (a ++ b) = unpack a ++ unpack b := by simp [unpack]
theorem unpack_packs (k : Nat) : ∀ bs : List Bool, 8 * k ≤ bs.length → unpack (packs k bs) = bs.take (8 * k) := by
  induction k with
  | zero => intro bs _; rfl
  | succ k ih =>
    intro bs h
    have h8 : (bs.take 8).length = 8 := by simp; omega
    have e : bitsOf 8 (num (bs.take 8)) = bs.take 8 := by
      have := bitsOf_num (bs.take 8)
      rwa [h8] at this
    simp only [packs, unpack, List.flatMap_cons] at *
    rw [e, ih _ (by simp; omega), show 8 * (k + 1) = 8 + 8 * k by omega, List.take_add]
theorem packs_unpack (l : List Nat) (h : ∀ x ∈ l, x < 256) : packs l.length (unpack l) = l := by
  induction l with
  | nil => rfl
  | cons x l ih =>
    have hx := h x (by simp)
    simp only [unpack, List.flatMap_cons, List.length_cons, packs] at *
    rw [List.take_left' (bitsOf_len 8 x), List.drop_left' (bitsOf_len 8 x), num_bitsOf, ih (fun y hy => h y (by simp [hy])), Nat.mod_eq_of_lt (by omega)]
/-- The bytes of a list of bits: the rest is ones. -/
def padding (bs : List Bool) : List Bool := List.replicate ((8 - bs.length % 8) % 8) true
def bytesOf (bs : List Bool) : List Nat := packs ((bs.length + 7) / 8) (bs ++ padding bs)
theorem padding_len (bs : List Bool) : (bs ++ padding bs).length = 8 * ((bs.length + 7) / 8) := by
  simp [padding]; omega
theorem bytesOf_len (bs : List Bool) : (bytesOf bs).length = (bs.length + 7) / 8 := packs_len _ _
theorem unpack_bytesOf (bs : List Bool) : unpack (bytesOf bs) = bs ++ padding bs := by
  rw [bytesOf, unpack_packs _ _ (by rw [padding_len]; exact Nat.le_refl _), ← padding_len, List.take_length]
theorem bytesOf_lt (bs : List Bool) : ∀ x ∈ bytesOf bs, x < 256 := packs_lt _ _
/-- The bit at a place of bytes. -/
theorem bitsOf_get (w v i : Nat) (h : i < w) : (bitsOf w v)[i]? = some (v / 2 ^ (w - 1 - i) % 2 == 1) := by
  induction w generalizing v i with
  | zero => omega
  | succ w ih =>
    rw [bitsOf]
    by_cases hi : i < w
    · rw [List.getElem?_append_left (by rw [bitsOf_len]; exact hi), ih _ _ hi, Nat.div_div_eq_div_mul, ← Nat.pow_succ']
      rw [show (w - 1 - i).succ = w + 1 - 1 - i by omega]
    · have : i = w := by omega
      subst this
      rw [List.getElem?_append_right (by rw [bitsOf_len]; exact Nat.le_refl _), bitsOf_len]
      simp
theorem unpack_get (l : List Nat) (i : Nat) (h : i < 8 * l.length) : (unpack l)[i]? = some (l.getD (i / 8) 0 / 2 ^ (7 - i % 8) % 2 == 1) := by
  induction l generalizing i with
  | nil => simp at h
  | cons x l ih =>
    simp only [unpack, List.flatMap_cons] at *
    by_cases hi : i < 8
    · rw [List.getElem?_append_left (by rw [bitsOf_len]; exact hi), bitsOf_get 8 x i hi]
      have h1 : i / 8 = 0 := by omega
      have h2 : i % 8 = i := by omega
      simp [h1, h2]
    · rw [List.getElem?_append_right (by rw [bitsOf_len]; omega), bitsOf_len, ih (i - 8) (by simp at h; omega)]
      have h1 : i / 8 = (i - 8) / 8 + 1 := by omega
      have h2 : (i - 8) % 8 = i % 8 := by omega
      rw [h1, h2, List.getD_cons_succ]

end Go.Proofs.YtehbjhocgnfpmaaDoor
/- Rows of ints as values: the cells of an array or of a block of ints, read, written and handed on whole. -/
namespace Go.Proofs.YtehbjhocgnfpmaaDoor
open Go.RowKit
/-- The number at a place. (Its own word: the walk's simp turns getD into other forms.) -/
def nth (l : List Int) (i : Nat) : Int := l.getD i 0
/-- A row of ints, as cells. -/
def iv (l : List Int) : Array Value := (l.map (Value.int .i64)).toArray
theorem iv_size (l : List Int) : (iv l).size = l.length := by simp [iv]
theorem iv_get (l : List Int) (i : Nat) (h : i < l.length) : (iv l)[i]? = some (.int .i64 (nth l i)) := by
  simp [iv, nth, List.getElem?_eq_getElem h]
theorem iv_set (l : List Int) (i : Nat) (x : Int) : (iv l).setIfInBounds i (.int .i64 x) = iv (l.set i x) := by
  simp [iv, List.map_set]
theorem iv_one (l : List Int) : (iv l).all (·.oneCell') = true := by
  rw [Array.all_eq_true_iff_forall_mem]
  intro v hv
  simp only [iv, List.mem_toArray, List.mem_map] at hv
  obtain ⟨n, _, rfl⟩ := hv
  rfl
theorem all_nth (l m : List Int) (h : l.length = m.length) : ((List.range l.length).all fun i => nth l i == nth m i) = (l == m) := by
  rw [Bool.eq_iff_iff, List.all_eq_true]
  simp only [List.mem_range, beq_iff_eq]
  constructor
  · intro hall
    apply List.ext_getElem h
    intro i h1 h2
    have := hall i h1
    simpa [nth, List.getD, List.getElem?_eq_getElem h1, List.getElem?_eq_getElem h2] using this
  · intro e i _; rw [e]
/-- '==' of two arrays of ints. -/
theorem run_equalIn_iv {P : Program} (w : World) (d : Nat) (t e : TypeId) (n : Nat) (ht : P.underlying t = some (.array n e)) (he : P.underlying e = some (.int .i64)) (hsz : ∀ w, (sizeOf e).run P w = .ok 1 w)
    (xs ys : List Int) (hx : xs.length = n) (hy : ys.length = n) :
    (Op.equalIn (d + 2) t (.agg (iv xs)) (.agg (iv ys))).run P w = .ok (xs == ys) w := by
  rw [← all_nth xs ys (hx.trans hy.symm), hx, List.range_eq_range', Op.equalIn]
  simp only [Sem.run_bind, run_underlying ht, Result.andThen_ok, hsz, Std.Legacy.Range.forIn_eq_forIn_range', Std.Legacy.Range.size, Nat.sub_zero, Nat.add_sub_cancel, Nat.div_one]
  have hl : ∀ i ∈ List.range' 0 n 1, i < n := fun i hi => by simpa using (List.mem_range'_1.1 hi).2
  generalize List.range' 0 n 1 = l at hl ⊢
  induction l with
  | nil => simp
  | cons i l ih =>
    have hi : i < n := hl i (by simp)
    have px : (part e (iv xs) (i * 1)).run P w = .ok (.int .i64 (nth xs i)) w := by
      rw [run_part, Nat.mul_one, iv_get xs i (by omega)]
      simp [isAgg, run_underlying he]
    have py : (part e (iv ys) (i * 1)).run P w = .ok (.int .i64 (nth ys i)) w := by
      rw [run_part, Nat.mul_one, iv_get ys i (by omega)]
      simp [isAgg, run_underlying he]
    have pe : (Op.equalIn (d + 1) e (.int .i64 (nth xs i)) (.int .i64 (nth ys i))).run P w = .ok (nth xs i == nth ys i) w :=
      run_equalIn_int w d e .i64 .i64 _ _ he
    simp only [List.forIn_cons, Sem.run_bind, px, py, pe, Result.andThen_ok, List.all_cons]
    cases hb : (nth xs i == nth ys i)
    · simp
    · simp only [Bool.not_true, Bool.false_eq_true, if_false, Sem.run_pure, Result.andThen_ok, Bool.true_and]
      exact ih fun j hj => hl j (by simp [hj])
/-- Block g of the world holds the row of ints l; it may be written. -/
def Row (w : World) (g : Nat) (l : List Int) : Prop := ∃ t, w.heap[g]? = some (.cells (iv l) t (0, 0))
theorem Row.cell {w : World} {g : Nat} {l : List Int} (h : Row w g l) (i : Nat) (hi : i < l.length) : w.cell? ⟨g, i, none⟩ = some (.int .i64 (nth l i)) := by
  obtain ⟨t, h⟩ := h
  rw [cell_of_row w g i _ t _ h, iv_get l i hi]
theorem Row.free {w : World} {g : Nat} {l : List Int} (h : Row w g l) (i : Nat) : w.frozen? ⟨g, i, none⟩ = false := by
  obtain ⟨t, h⟩ := h
  exact frozen_of_row w g i _ t h
theorem Row.set {w : World} {g : Nat} {l : List Int} (h : Row w g l) (i : Nat) (x : Int) : Row (w.setCell ⟨g, i, none⟩ (.int .i64 x)) g (l.set i x) := by
  obtain ⟨t, h⟩ := h
  exact ⟨t, by rw [heap_setCell_same w g i _ t _ h, iv_set]⟩
theorem Row.setOther {w : World} {g : Nat} {l : List Int} (h : Row w g l) (a : Addr) (v : Value) (hne : g ≠ a.block) : Row (w.setCell a v) g l := by
  obtain ⟨t, h⟩ := h
  exact ⟨t, by rw [heap_setCell_other w a g v hne]; exact h⟩
theorem Row.lt {w : World} {g : Nat} {l : List Int} (h : Row w g l) : g < w.heap.size := by
  obtain ⟨t, h⟩ := h
  exact (Array.getElem?_eq_some_iff.1 h).1
theorem Row.ext {w w' : World} {g : Nat} {l : List Int} (h : Row w g l) (hE : Ext w w') : Row w' g l := by
  have hl := h.lt
  obtain ⟨t, h⟩ := h
  exact ⟨t, by rw [hE.at hl]; exact h⟩
theorem Row.of_heap {w w' : World} {g : Nat} {l : List Int} (h : Row w g l) (hh : w'.heap[g]? = w.heap[g]?) : Row w' g l := by
  obtain ⟨t, h⟩ := h
  exact ⟨t, by rw [hh]; exact h⟩
theorem Row.alloc {w : World} {g : Nat} {l : List Int} (h : Row w g l) (o : Obj) : Row (w.alloc o) g l := h.ext ((Ext.refl w).alloc o)
theorem Row.new (w : World) (l : List Int) (t : TypeId) : Row (w.alloc (.cells (iv l) t)) w.heap.size l := ⟨t, heap_alloc_new w _⟩
/-- A row that is being filled, place by place. -/
def filling (L : List Int) (k : Nat) : List Int := L.take k ++ List.replicate (L.length - k) 0
theorem filling_zero (L : List Int) : filling L 0 = List.replicate L.length 0 := by simp [filling]
theorem filling_len (L : List Int) (k : Nat) (h : k ≤ L.length) : (filling L k).length = L.length := by simp [filling]; omega
theorem filling_all (L : List Int) : filling L L.length = L := by simp [filling]
theorem filling_set (L : List Int) (k : Nat) (h : k < L.length) : (filling L k).set k (nth L k) = filling L (k + 1) := by
  unfold filling
  rw [List.set_append_right _ _ (by simp; omega)]
  have e1 : (List.take k L).length = k := by simp; omega
  rw [e1, Nat.sub_self, List.take_add_one, List.getElem?_eq_getElem h]
  have e2 : L.length - k = (L.length - (k + 1)) + 1 := by omega
  rw [e2, List.replicate_succ, List.set_cons_zero, List.append_assoc]
  simp [nth, List.getD, List.getElem?_eq_getElem h]
/-- The slice value v has n elements of s cells each, which read as the cells cs. -/
def Sl (w : World) (s : Nat) (v : Value) (n : Nat) (cs : List Value) : Prop :=
  cs.length = n * s ∧ ∃ a c, v = .slice a n c ∧ n ≤ c ∧ c ≤ maxLen ∧ (n = 0 ∨ ∃ b off, a = some ⟨b, off, none⟩ ∧ ∀ k, k < n * s → w.cell? ⟨b, off + k, none⟩ = cs[k]?)
theorem Sl.ext {w w' : World} {s : Nat} {v : Value} {n : Nat} {cs : List Value} (h : Sl w s v n cs) (hE : Ext w w') : Sl w' s v n cs := by
  obtain ⟨hl, a, c, hv, h1, h2, h3⟩ := h
  refine ⟨hl, a, c, hv, h1, h2, ?_⟩
  rcases h3 with h3 | ⟨b, off, ha, hc⟩
  · exact .inl h3
  · refine .inr ⟨b, off, ha, fun k hk => ?_⟩
    have h := hc k hk
    rw [List.getElem?_eq_getElem (by omega)] at h ⊢
    exact hE.cell h
theorem Sl.nil (w : World) (s : Nat) : Sl w s (.slice none 0 0) 0 [] := ⟨by simp, none, 0, rfl, Nat.le_refl _, by unfold maxLen; omega, .inl rfl⟩
/-- A row that the call owns, read as a slice. -/
theorem Sl.ofOwn {w : World} {base : Nat} {e : TypeId} {s : Nat} {v : Value} {n : Nat} {xs : List Value} (h : w.ownsRow base e s v n xs) : Sl w s v n xs := by
  obtain ⟨hl, h⟩ := h
  refine ⟨hl, ?_⟩
  rcases h with ⟨rfl, rfl⟩ | ⟨g, cap, cur, rfl, hb, hg, hn, hc, hsz, htake⟩
  · exact ⟨none, 0, rfl, Nat.le_refl _, by unfold maxLen; omega, .inl rfl⟩
  · refine ⟨_, _, rfl, hn, hc, .inr ⟨g, 0, rfl, fun k hk => ?_⟩⟩
    rw [Nat.zero_add, cell_of_row w g k cur e _ hg, ← htake, List.getElem?_take, if_pos hk]
    simp
theorem Sl.of_row {w : World} {g : Nat} {l : List Int} (h : Row w g l) (hn : l.length ≤ maxLen) : Sl w 1 (.slice (some ⟨g, 0, none⟩) l.length l.length) l.length (l.map (Value.int .i64)) := by
  refine ⟨by simp, _, _, rfl, Nat.le_refl _, hn, .inr ⟨g, 0, rfl, fun k hk => ?_⟩⟩
  rw [Nat.zero_add, h.cell k (by omega), List.getElem?_map, List.getElem?_eq_getElem (by omega)]
  simp [nth, List.getElem?_eq_getElem (show k < l.length by omega)]
/-- A slice of ints. -/
def ISl (w : World) (v : Value) (xs : List Int) : Prop := Sl w 1 v xs.length (xs.map (Value.int .i64))
theorem ISl.open {w : World} {v : Value} {xs : List Int} (h : ISl w v xs) : ∃ a c, v = .slice a xs.length c ∧ xs.length ≤ c ∧ c ≤ 9223372036854775807 ∧
    (∀ i, i < xs.length → ∃ b off, a = some ⟨b, off, none⟩ ∧ ∀ k, k < xs.length → w.cell? ⟨b, off + k, none⟩ = some (.int .i64 (nth xs k))) := by
  obtain ⟨_, a, c, hv, h1, h2, h3⟩ := h
  refine ⟨a, c, hv, h1, by unfold maxLen at h2; exact h2, fun i hi => ?_⟩
  rcases h3 with h3 | ⟨b, off, ha, hc⟩
  · omega
  · refine ⟨b, off, ha, fun k hk => ?_⟩
    rw [hc k (by omega), List.getElem?_map, List.getElem?_eq_getElem hk]
    simp [nth, List.getD, List.getElem?_eq_getElem hk]
theorem ISl.of_row {w : World} {g : Nat} {l : List Int} {n : Nat} (h : Row w g l) (hl : l.length = n) (hn : n ≤ maxLen) : ISl w (.slice (some ⟨g, 0, none⟩) n n) l := by
  subst hl; exact Sl.of_row h hn
theorem take_eq_succ (xs ys : List Int) (i : Nat) (h1 : i < xs.length) (h2 : i < ys.length) (h : xs.take i = ys.take i) (he : nth xs i = nth ys i) : xs.take (i + 1) = ys.take (i + 1) := by
  rw [List.take_add_one, List.take_add_one, h, List.getElem?_eq_getElem h1, List.getElem?_eq_getElem h2]
  simp [nth, List.getD, List.getElem?_eq_getElem h1, List.getElem?_eq_getElem h2] at he
  rw [he]
theorem nth_take (xs : List Int) (n i : Nat) (h : i < n) : nth (xs.take n) i = nth xs i := by
  simp [nth, List.getD, h]
theorem nth_drop (xs : List Int) (n i : Nat) : nth (xs.drop n) i = nth xs (n + i) := by
  simp [nth, List.getD]
theorem rangeAt_ext {w w' : World} {b o : Nat} {cs : List Value} (h : w.rangeAt b o cs) (hE : Ext w w') : w'.rangeAt b o cs := fun j v hv => hE.cell (h j v hv)
theorem Row.range {w : World} {g : Nat} {l : List Int} (h : Row w g l) : w.rangeAt g 0 (l.map (Value.int .i64)) := fun j v hv => by
  obtain ⟨t, h⟩ := h
  rw [cell_of_row w g _ _ t _ h, Nat.zero_add]
  simpa [iv] using hv

end Go.Proofs.YtehbjhocgnfpmaaDoor
/- A region that draws its order, walked once, in the order of the text: each operation gives one and the same value in every world that meets an invariant, keeps the invariant, and looks only at slots that its own edges fix. -/
namespace Go
section
variable {P : Program} {Q : Exit → Act → World → Prop}
/-- What one operation comes to: the act a1, in a world that meets I. -/
def FreeOne (I : World → Prop) (a1 : Act) : Exit → Act → World → Prop
  | .normal, a', w' => a' = a1 ∧ I w'
  | _, _, _ => False
theorem freeOne_out (I : World → Prop) (a1 : Act) : ¬ LetsOut (FreeOne I a1) := fun ⟨_, _, h⟩ => h
theorem put_inj {a : Act} {dst : Option Tmp} {v u : Value} (h : a.put dst v = a.put dst u) (b : Act) (hb : b.tmps.size = a.tmps.size) : b.put dst v = b.put dst u := by
  cases dst with
  | none => rfl
  | some d =>
    by_cases hd : d < a.tmps.size
    · have h1 : (a.put (some d) v).tmps[d]? = (a.put (some d) u).tmps[d]? := by rw [h]
      simp [Act.put, hd] at h1
      rw [h1]
    · simp only [Act.put]
      have hd2 : b.tmps.size ≤ d := by rw [hb]; exact Nat.le_of_not_lt hd
      rw [Array.setIfInBounds_eq_of_size_le hd2, Array.setIfInBounds_eq_of_size_le hd2]
theorem put_defers_ne {a : Act} {dst : Option Tmp} {v u : Value} {d : Deferred} (h : ({ a with defers := d :: a.defers } : Act).put dst v = a.put dst u) : False := by
  have h1 : (({ a with defers := d :: a.defers } : Act).put dst v).defers = (a.put dst u).defers := by rw [h]
  cases dst <;> simp [Act.put] at h1
/-- One operation at an act that looks the same to it. -/
theorem free_op {ops : Array Oper} {o : Oper} {I : World → Prop} {a b : Act} {v : Value} {w : World} {i : Nat} (ho : ops[i]? = some o)
    (h : wpList P ops (FreeOne I (a.put o.dst v)) [o] a w) (he : execOp b.eval o = execOp a.eval o)
    (hw : Region.wanted o (yielded ops b.tmps) = Region.wanted o (yielded ops a.tmps)) (hb : b.tmps.size = a.tmps.size)
    {K : Act → World → Prop} (hK : ∀ w', I w' → K (b.put o.dst v) w') : wpOp P ops Q i K b w := by
  unfold wpOp
  rw [ho]
  dsimp only
  rw [hw]
  simp only [wpList] at h
  split
  · rename_i hwt
    rw [if_pos hwt] at h
    rcases h with h | ⟨_, h⟩
    · left
      unfold Oper.wp at h ⊢
      rw [he]
      generalize (execOp a.eval o).run P w = r at h ⊢
      cases r with
      | ok n w' =>
        cases n <;> simp only [Oper.upon] at h ⊢
        case value u => rw [put_inj h.1 b hb]; exact hK _ h.2
        case skip => rw [put_inj h.1 b hb]; exact hK _ h.2
        case defer d => exact (put_defers_ne h.1).elim
        case enter f args =>
          refine Calls.mono h fun e w'' q => ?_
          cases e with
          | returned u => dsimp only at q ⊢; rw [put_inj q.1 b hb]; exact hK _ q.2
          | panicked chain => exact q.elim
          | outgrown => exact (freeOne_out _ _ q).elim
        case row row args => exact Rows.mono h fun u w'' q => by rw [put_inj q.1 b hb]; exact hK _ q.2
      | halt x w' => cases x <;> simp only [Oper.upon] at h ⊢ <;> exact h.elim
    · exact (freeOne_out _ _ h).elim
  · rename_i hwt
    rw [if_neg hwt] at h
    rw [put_inj h.1 b hb]
    exact hK _ h.2
/-- What an operation comes to is a put. -/
theorem free_put {ops : Array Oper} {o : Oper} {I : World → Prop} {a a1 : Act} {w : World} (h : wpList P ops (FreeOne I a1) [o] a w) : (∃ v, a1 = a.put o.dst v) ∨ (∃ d, a1 = ({ a with defers := d :: a.defers } : Act).put o.dst undef) := by
  simp only [wpList] at h
  split at h
  · rcases h with h | ⟨_, h⟩
    · unfold Oper.wp at h
      generalize (execOp a.eval o).run P w = r at h
      cases r with
      | ok n w' =>
        cases n <;> simp only [Oper.upon] at h
        case value u => exact .inl ⟨u, h.1.symm⟩
        case skip => exact .inl ⟨_, h.1.symm⟩
        case defer d => exact .inr ⟨d, h.1.symm⟩
        case enter f args =>
          obtain ⟨e, w'', fr, q, _⟩ := h []
          cases e with
          | returned u => exact .inl ⟨u, q.1.symm⟩
          | panicked chain => exact q.elim
          | outgrown => exact (freeOne_out _ _ q).elim
        case row row args =>
          obtain ⟨u, w'', q, _⟩ := h default []
          exact .inl ⟨u, q.1.symm⟩
      | halt x w' => cases x <;> simp only [Oper.upon] at h <;> exact h.elim
    · exact (freeOne_out _ _ h).elim
  · exact .inl ⟨_, h.1.symm⟩
end
section
variable {P : Program} {Q : Exit → Act → World → Prop}
end
section
variable {P : Program} {ops : Array Oper} {rest : List Oper} {o : Oper} {a : Act} {w : World} {Q : Exit → Act → World → Prop}
end
end Go

/- Blocks known whole, of whatever cells; a byte's and a struct's row that the call owns. -/
namespace Go.Proofs.YtehbjhocgnfpmaaDoor
open Go.RowKit
/-- Block g of the world holds the cells cs; it may be written. -/
def Blk (w : World) (g : Nat) (cs : Array Value) : Prop := ∃ t, w.heap[g]? = some (.cells cs t (0, 0))
theorem Blk.cell {w : World} {g : Nat} {cs : Array Value} (h : Blk w g cs) (i : Nat) : w.cell? ⟨g, i, none⟩ = cs[i]? := by
  obtain ⟨t, h⟩ := h
  rw [cell_of_row w g i _ t _ h]
theorem Blk.free {w : World} {g : Nat} {cs : Array Value} (h : Blk w g cs) (i : Nat) : w.frozen? ⟨g, i, none⟩ = false := by
  obtain ⟨t, h⟩ := h
  exact frozen_of_row w g i _ t h
theorem Blk.set {w : World} {g : Nat} {cs : Array Value} (h : Blk w g cs) (i : Nat) (x : Value) : Blk (w.setCell ⟨g, i, none⟩ x) g (cs.setIfInBounds i x) := by
  obtain ⟨t, h⟩ := h
  exact ⟨t, by rw [heap_setCell_same w g i _ t _ h]⟩
theorem Blk.lt {w : World} {g : Nat} {cs : Array Value} (h : Blk w g cs) : g < w.heap.size := by
  obtain ⟨t, h⟩ := h
  exact (Array.getElem?_eq_some_iff.1 h).1
theorem Blk.of_heap {w w' : World} {g : Nat} {cs : Array Value} (h : Blk w g cs) (hh : w'.heap[g]? = w.heap[g]?) : Blk w' g cs := by
  obtain ⟨t, h⟩ := h
  exact ⟨t, by rw [hh]; exact h⟩
theorem Blk.new (w : World) (cs : Array Value) (t : TypeId) : Blk (w.alloc (.cells cs t)) w.heap.size cs := ⟨t, heap_alloc_new w _⟩
/-- Bytes as cells. -/
def bv (l : List Nat) : List Value := l.map fun (x : Nat) => .int .u8 (x : Int)
theorem bv_append (a b : List Nat) : bv (a ++ b) = bv a ++ bv b := by simp [bv]

/-- Of what was there, only the blocks f may have turned. -/
structure Only (f : List Nat) (w w' : World) : Prop where
  os : w'.os = w.os
  tape : w'.tape = w.tape
  output : w'.output = w.output
  size : w.heap.size ≤ w'.heap.size
  block : ∀ k, k < w.heap.size → k ∉ f → w'.heap[k]? = w.heap[k]?
theorem Only.ext {f : List Nat} {W w w' : World} (h : Only f w w') (hE : Ext W w) (hf : ∀ b ∈ f, W.heap.size ≤ b) : Ext W w' :=
  ⟨h.os.trans hE.os, h.tape.trans hE.tape, h.output.trans hE.output, Nat.le_trans hE.size h.size, fun k hk => by
    rw [h.block k (Nat.lt_of_lt_of_le hk hE.size) (fun hm => by have := hf k hm; omega)]; exact hE.block k hk⟩
theorem Only.setCell (w : World) (a : Addr) (v : Value) : Only [a.block] w (w.setCell a v) :=
  ⟨rfl, rfl, rfl, by simp, fun k _ hm => heap_setCell_other w a k v (by simpa using hm)⟩
theorem Only.setRow (w : World) (g : Nat) (cs : Array Value) : Only [g] w (w.setRow g cs) :=
  ⟨rfl, rfl, rfl, by simp, fun k _ hm => setRow_other w g k cs (by simpa using hm)⟩
theorem Only.grown {w w' : World} {row : Option Nat} (h : w.grownBy w' row) : Only row.toList w w' :=
  ⟨h.os, h.tape, h.output, h.size, fun k hk hm => h.block k hk (fun e => hm (by simp [← e]))⟩
/-- A thing that is owned: what holds of the world at the blocks of a footprint, and of nothing else. -/
structure Res where
  holds : World → List Nat → Prop
  lt : ∀ {w f}, holds w f → ∀ b ∈ f, b < w.heap.size
  loc : ∀ {w w' f}, holds w f → (∀ b ∈ f, w'.heap[b]? = w.heap[b]?) → holds w' f
def Hold (w : World) : List Res → List Nat → Prop
  | [], f => f = []
  | r :: rs, f => ∃ f1 f2, f = f1 ++ f2 ∧ r.holds w f1 ∧ Hold w rs f2
theorem Hold.lt {w : World} : ∀ {rs : List Res} {f : List Nat}, Hold w rs f → ∀ b ∈ f, b < w.heap.size
  | [], f, h, b, hb => by rw [show f = [] from h] at hb; cases hb
  | r :: rs, f, ⟨f1, f2, e, h1, h2⟩, b, hb => by
    rw [e, List.mem_append] at hb
    rcases hb with hb | hb
    · exact r.lt h1 b hb
    · exact Hold.lt h2 b hb
theorem Hold.loc {w w' : World} : ∀ {rs : List Res} {f : List Nat}, Hold w rs f → (∀ b ∈ f, w'.heap[b]? = w.heap[b]?) → Hold w' rs f
  | [], f, h, _ => h
  | r :: rs, f, ⟨f1, f2, e, h1, h2⟩, hs => ⟨f1, f2, e, r.loc h1 fun b hb => hs b (by rw [e]; exact List.mem_append_left _ hb), Hold.loc h2 fun b hb => hs b (by rw [e]; exact List.mem_append_right _ hb)⟩
theorem Hold.append {w : World} : ∀ {rs : List Res} {ss : List Res} {f g : List Nat}, Hold w rs f → Hold w ss g → Hold w (rs ++ ss) (f ++ g)
  | [], ss, f, g, h, k => by rw [show f = [] from h]; exact k
  | r :: rs, ss, f, g, ⟨f1, f2, e, h1, h2⟩, k => ⟨f1, f2 ++ g, by rw [e, List.append_assoc], h1, Hold.append h2 k⟩
theorem Hold.split {w : World} : ∀ {rs : List Res} {ss : List Res} {f : List Nat}, Hold w (rs ++ ss) f → ∃ f1 f2, f = f1 ++ f2 ∧ Hold w rs f1 ∧ Hold w ss f2
  | [], ss, f, h => ⟨[], f, rfl, rfl, h⟩
  | r :: rs, ss, f, ⟨f1, f2, e, h1, h2⟩ => by
    obtain ⟨g1, g2, e2, k1, k2⟩ := Hold.split h2
    exact ⟨f1 ++ g1, g2, by rw [e, e2, List.append_assoc], ⟨f1, g1, rfl, h1, k1⟩, k2⟩
/-- r is among them; without it these are left. -/
inductive Pull (r : Res) : List Res → List Res → Prop
  | head {rs : List Res} : Pull r (r :: rs) rs
  | tail {x : Res} {rs rs' : List Res} (h : Pull r rs rs') : Pull r (x :: rs) (x :: rs')
theorem Hold.pull {w : World} {r : Res} {rs rs' : List Res} (p : Pull r rs rs') : ∀ {f : List Nat}, Hold w rs f → ∃ f', f'.Perm f ∧ Hold w (r :: rs') f' := by
  induction p with
  | head => intro f h; exact ⟨f, List.Perm.refl f, h⟩
  | @tail x rs rs' p ih =>
    intro f h
    obtain ⟨f1, f2, e, h1, h2⟩ := h
    obtain ⟨f', hp, g1, g2, e2, k1, k2⟩ := ih h2
    refine ⟨g1 ++ (f1 ++ g2), ?_, g1, f1 ++ g2, rfl, k1, f1, g2, rfl, h1, k2⟩
    rw [e]
    have p1 : (g1 ++ (f1 ++ g2)).Perm (f1 ++ (g1 ++ g2)) := by
      rw [← List.append_assoc, ← List.append_assoc]
      exact List.Perm.append_right g2 List.perm_append_comm
    exact p1.trans (List.Perm.append_left f1 (by rw [← e2]; exact hp))
/-- The world w is W with new blocks, among them all these, each apart from the others. -/
def St (W w : World) (rs : List Res) : Prop := Ext W w ∧ ∃ f, f.Nodup ∧ (∀ b ∈ f, W.heap.size ≤ b) ∧ Hold w rs f
theorem St.start (W : World) : St W W [] := ⟨Ext.refl W, [], List.nodup_nil, fun b hb => (by cases hb), rfl⟩
theorem St.of_ext {W w : World} (h : Ext W w) : St W w [] := ⟨h, [], List.nodup_nil, fun b hb => (by cases hb), rfl⟩
theorem St.ext {W w w' : World} {rs : List Res} (h : St W w rs) (hE : Ext w w') : St W w' rs := by
  obtain ⟨h1, f, h2, h3, h4⟩ := h
  exact ⟨h1.trans hE, f, h2, h3, h4.loc fun b hb => hE.at (h4.lt b hb)⟩
theorem St.drew {W w : World} {rs : List Res} (h : St W w rs) : St W w.drew rs := h.ext (Ext.refl w).drew
theorem St.pull {W w : World} {r : Res} {rs rs' : List Res} (h : St W w rs) (p : Pull r rs rs') : St W w (r :: rs') := by
  obtain ⟨h1, f, h2, h3, h4⟩ := h
  obtain ⟨f', hp, h5⟩ := h4.pull p
  exact ⟨h1, f', hp.nodup_iff.2 h2, fun b hb => h3 b (hp.mem_iff.1 hb), h5⟩
/-- What is in front has turned, and nothing else. -/
theorem St.change {W w w' : World} {r : Res} {rs rs1 : List Res} (h : St W w (r :: rs))
    (hw : ∀ f1, r.holds w f1 → (∀ b ∈ f1, W.heap.size ≤ b) → f1.Nodup → ∃ f', Hold w' rs1 f' ∧ f'.Nodup ∧ (∀ b ∈ f', b ∈ f1 ∨ w.heap.size ≤ b) ∧ Only f1 w w') : St W w' (rs1 ++ rs) := by
  obtain ⟨h1, f, h2, h3, f1, f2, e, h4, h5⟩ := h
  subst e
  obtain ⟨hn1, hn2, hdis⟩ := List.nodup_append.1 h2
  obtain ⟨f', k1, k2, k3, k4⟩ := hw f1 h4 (fun b hb => h3 b (List.mem_append_left _ hb)) hn1
  have hE := k4.ext h1 (fun b hb => h3 b (List.mem_append_left _ hb))
  refine ⟨hE, f' ++ f2, List.nodup_append.2 ⟨k2, hn2, fun a ha b hb hab => ?_⟩, fun b hb => ?_, Hold.append k1 (h5.loc fun b hb => k4.block b (h5.lt b hb) fun hm => hdis b hm b hb rfl)⟩
  · subst hab
    rcases k3 a ha with h | h
    · exact hdis a h a hb rfl
    · have := h5.lt a hb; omega
  · rcases List.mem_append.1 hb with h | h
    · rcases k3 b h with h' | h'
      · exact h3 b (List.mem_append_left _ h')
      · have := h1.sz; omega
    · exact h3 b (List.mem_append_right _ h)
theorem St.drop {W w : World} {r : Res} {rs : List Res} (h : St W w (r :: rs)) : St W w rs := by
  obtain ⟨h1, f, h2, h3, f1, f2, e, h4, h5⟩ := h
  subst e
  exact ⟨h1, f2, (List.nodup_append.1 h2).2.1, fun b hb => h3 b (List.mem_append_right _ hb), h5⟩
/-- All of xs are among them. -/
inductive Sub : List Res → List Res → Prop
  | nil {rs : List Res} : Sub [] rs
  | refl {rs : List Res} : Sub rs rs
  | skip {x : Res} {xs rs : List Res} (h : Sub xs rs) : Sub xs (x :: rs)
  | cons {r : Res} {xs rs rs' : List Res} (p : Pull r rs rs') (h : Sub xs rs') : Sub (r :: xs) rs
theorem Hold.sub {w : World} {xs rs : List Res} (s : Sub xs rs) : ∀ {f : List Nat}, f.Nodup → Hold w rs f → ∃ f', f'.Nodup ∧ (∀ b ∈ f', b ∈ f) ∧ Hold w xs f' := by
  induction s with
  | nil => intro f _ _; exact ⟨[], List.nodup_nil, fun b hb => (by cases hb), rfl⟩
  | refl => intro f hn h; exact ⟨f, hn, fun b hb => hb, h⟩
  | skip s ih =>
    intro f hn h
    obtain ⟨f1, f2, e, h1, h2⟩ := h
    subst e
    obtain ⟨f3, k1, k2, k3⟩ := ih (List.nodup_append.1 hn).2.1 h2
    exact ⟨f3, k1, fun b hb => List.mem_append_right _ (k2 b hb), k3⟩
  | cons p s ih =>
    intro f hn h
    obtain ⟨f', hp, f1, f2, e, h1, h2⟩ := h.pull p
    have hn' := hp.nodup_iff.2 hn
    subst e
    obtain ⟨n1, n2, hdis⟩ := List.nodup_append.1 hn'
    obtain ⟨f3, k1, k2, k3⟩ := ih n2 h2
    refine ⟨f1 ++ f3, List.nodup_append.2 ⟨n1, k1, fun a ha b hb => hdis a ha b (k2 b hb)⟩, fun b hb => hp.mem_iff.1 ?_, f1, f3, rfl, h1, k3⟩
    rcases List.mem_append.1 hb with h | h
    · exact List.mem_append_left _ h
    · exact List.mem_append_right _ (k2 b h)
theorem St.sub {W w : World} {xs rs : List Res} (h : St W w rs) (s : Sub xs rs) : St W w xs := by
  obtain ⟨h1, f, h2, h3, h4⟩ := h
  obtain ⟨f', k1, k2, k3⟩ := h4.sub s h2
  exact ⟨h1, f', k1, fun b hb => h3 b (k2 b hb), k3⟩
/-- Behind a call that hands on what it has made. -/
theorem St.call {W w w' : World} {rs rs' : List Res} (h : St W w rs) (h' : St w w' rs') : St W w' (rs' ++ rs) := by
  obtain ⟨h1, f, h2, h3, h4⟩ := h
  obtain ⟨k1, g, k2, k3, k4⟩ := h'
  refine ⟨h1.trans k1, g ++ f, List.nodup_append.2 ⟨k2, h2, fun a ha b hb hab => ?_⟩, fun b hb => ?_, Hold.append k4 (h4.loc fun b hb => k1.at (h4.lt b hb))⟩
  · subst hab; have := k3 a ha; have := h4.lt a hb; omega
  · rcases List.mem_append.1 hb with h | h
    · have := k3 b h; have := h1.sz; omega
    · exact h3 b h
theorem St.call1 {W w w' : World} {rs : List Res} {r : Res} (h : St W w rs) (h' : St w w' [r]) : St W w' (r :: rs) := h.call h'
/-- Some things under one word. -/
def bag {ι : Type} (F : ι → List Res) : Res where
  holds w f := ∃ i, Hold w (F i) f
  lt := fun ⟨_, h⟩ => h.lt
  loc := fun ⟨i, h⟩ hs => ⟨i, h.loc hs⟩
theorem St.open {W w : World} {ι : Type} {F : ι → List Res} {rs : List Res} (h : St W w (bag F :: rs)) : ∃ i, St W w (F i ++ rs) := by
  obtain ⟨h1, f, h2, h3, f1, f2, e, ⟨i, h4⟩, h5⟩ := h
  exact ⟨i, h1, f, h2, h3, e ▸ Hold.append h4 h5⟩
theorem St.close {W w : World} {ι : Type} {F : ι → List Res} {rs : List Res} (i : ι) (h : St W w (F i ++ rs)) : St W w (bag F :: rs) := by
  obtain ⟨h1, f, h2, h3, h4⟩ := h
  obtain ⟨f1, f2, e, k1, k2⟩ := h4.split
  exact ⟨h1, f, h2, h3, f1, f2, e, ⟨i, k1⟩, k2⟩
/-- Block g holds these cells. -/
def blk (g : Nat) (cs : List Value) : Res where
  holds w f := f = [g] ∧ Blk w g cs.toArray
  lt := fun ⟨e, h⟩ b hb => by rw [e, List.mem_singleton] at hb; rw [hb]; exact h.lt
  loc := fun ⟨e, h⟩ hs => ⟨e, h.of_heap (hs _ (by rw [e]; simp))⟩
/-- Block g holds n integers. -/
def arr (g n : Nat) (l : List Int) : Res where
  holds w f := f = [g] ∧ Row w g l ∧ l.length = n
  lt := fun ⟨e, h, _⟩ b hb => by rw [e, List.mem_singleton] at hb; rw [hb]; exact h.lt
  loc := fun ⟨e, h, hn⟩ hs => ⟨e, h.of_heap (hs _ (by rw [e]; simp)), hn⟩
/-- The slice at a, of n elements of type e, is the call's own, and its cells are xs. -/
def own (e : TypeId) (s : Nat) (a : Option Addr) (n c : Nat) (xs : List Value) : Res where
  holds w f := f = (Value.slice a n c).ownBlock.toList ∧ w.ownsRow 0 e s (.slice a n c) n xs
  lt := fun ⟨e, h⟩ b hb => (h.lt b (by rw [e] at hb; simpa using hb)).2
  loc := fun {w w' f} ⟨e', h⟩ hs => ⟨e', h.1, h.2.elim .inl fun ⟨g, cap, cur, k1, k2, k3, k4⟩ => .inr ⟨g, cap, cur, k1, k2, (hs g (by rw [e', k1]; simp [Value.ownBlock])).trans k3, k4⟩⟩
theorem St.blk {W w : World} {g : Nat} {cs : List Value} {rs rs' : List Res} (h : St W w rs) (p : Pull (blk g cs) rs rs') : Blk w g cs.toArray ∧ W.heap.size ≤ g := by
  obtain ⟨_, f, _, h3, f1, f2, e, ⟨e1, h4⟩, _⟩ := h.pull p
  exact ⟨h4, h3 g (by rw [e, e1]; simp)⟩
theorem St.arr {W w : World} {g n : Nat} {l : List Int} {rs rs' : List Res} (h : St W w rs) (p : Pull (arr g n l) rs rs') : Row w g l ∧ l.length = n := by
  obtain ⟨_, f, _, h3, f1, f2, e, ⟨e1, h4⟩, _⟩ := h.pull p
  exact h4
theorem St.own {W w : World} {e : TypeId} {s n c : Nat} {a : Option Addr} {xs : List Value} {rs rs' : List Res} (h : St W w rs) (p : Pull (own e s a n c xs) rs rs') : w.ownsRow 0 e s (.slice a n c) n xs := by
  obtain ⟨_, f, _, h3, f1, f2, e, ⟨e1, h4⟩, _⟩ := h.pull p
  exact h4
theorem St.sl {W w : World} {e : TypeId} {s n c : Nat} {a : Option Addr} {xs : List Value} {rs rs' : List Res} (h : St W w rs) (p : Pull (Go.Proofs.YtehbjhocgnfpmaaDoor.own e s a n c xs) rs rs') : Sl w s (.slice a n c) n xs := Sl.ofOwn (h.own p)
theorem St.alloc {W w : World} {rs : List Res} (h : St W w rs) (cs : List Value) (t : TypeId) : St W (w.alloc (.cells cs.toArray t)) (Go.Proofs.YtehbjhocgnfpmaaDoor.blk w.heap.size cs :: rs) := by
  obtain ⟨h1, f, h2, h3, h4⟩ := h
  refine ⟨h1.alloc _, w.heap.size :: f, List.nodup_cons.2 ⟨fun hm => by have := h4.lt _ hm; omega, h2⟩, fun b hb => ?_, [w.heap.size], f, rfl, ⟨rfl, Blk.new w _ t⟩, h4.loc fun b hb => ?_⟩
  · rcases List.mem_cons.1 hb with h | h
    · rw [h]; exact h1.sz
    · exact h3 b h
  · exact heap_alloc_old w _ (h4.lt b hb)
theorem blk_arr {W w : World} {g n : Nat} {l : List Int} {rs : List Res} (hn : l.length = n) (h : St W w (blk g (l.map (Value.int .i64)) :: rs)) : St W w (arr g n l :: rs) := by
  obtain ⟨h1, f, h2, h3, f1, f2, e, ⟨e1, h4⟩, h5⟩ := h
  exact ⟨h1, f, h2, h3, f1, f2, e, ⟨e1, h4, hn⟩, h5⟩
theorem St.allocArr {W w : World} {rs : List Res} (h : St W w rs) (l : List Int) (n : Nat) (hn : l.length = n) (t : TypeId) : St W (w.alloc (.cells (iv l) t)) (Go.Proofs.YtehbjhocgnfpmaaDoor.arr w.heap.size n l :: rs) :=
  blk_arr hn (h.alloc (l.map (Value.int .i64)) t)
/-- A nil slice is everybody's own. -/
theorem St.nil {W w : World} {rs : List Res} (h : St W w rs) (e : TypeId) (s : Nat) : St W w (Go.Proofs.YtehbjhocgnfpmaaDoor.own e s none 0 0 [] :: rs) := by
  obtain ⟨h1, f, h2, h3, h4⟩ := h
  exact ⟨h1, f, h2, h3, [], f, rfl, ⟨rfl, by simp, .inl ⟨rfl, rfl⟩⟩, h4⟩
/-- What a place of a list is turned to. -/
inductive SetAt (v : Value) : Nat → List Value → List Value → Prop
  | head {x : Value} {l : List Value} : SetAt v 0 (x :: l) (v :: l)
  | tail {x : Value} {i : Nat} {l l' : List Value} (h : SetAt v i l l') : SetAt v (i + 1) (x :: l) (x :: l')
theorem SetAt.eq {v : Value} {i : Nat} {l l' : List Value} (h : SetAt v i l l') : i < l.length ∧ l' = l.set i v := by
  induction h with
  | head => exact ⟨by simp, rfl⟩
  | tail h ih => exact ⟨by simp; exact ih.1, by rw [List.set_cons_succ, ih.2]⟩

section
variable {P : Program} {ops : Array Oper} {Q : Exit → Act → World → Prop} {rest : List Oper} {o : Oper} {a : Act} {w : World}
theorem wpl (hw : Region.wanted o (yielded ops a.tmps) = true) (h : o.wp P a w (wpList P ops Q rest) Q) : wpList P ops Q (o :: rest) a w := by
  unfold wpList
  rw [if_pos hw]
  exact .inl h
/-- Where no arm fits the walk stands still. -/
def Stopped (p : Prop) : Prop := p
theorem stop_load {d : Option Tmp} {t : TypeId} {x : Operand} {ty : TypeId} {pos : String} {af : Array Edge} {g : Option (Nat × Bool)} (h : Stopped (wpList P ops Q (⟨d, .load t x, ty, pos, af, g⟩ :: rest) a w)) : wpList P ops Q (⟨d, .load t x, ty, pos, af, g⟩ :: rest) a w := h
theorem stop_store {d : Option Tmp} {t : TypeId} {x y : Operand} {ty : TypeId} {pos : String} {af : Array Edge} {g : Option (Nat × Bool)} (h : Stopped (wpList P ops Q (⟨d, .store t x y, ty, pos, af, g⟩ :: rest) a w)) : wpList P ops Q (⟨d, .store t x y, ty, pos, af, g⟩ :: rest) a w := h
theorem stop_alloc {d : Option Tmp} {t : TypeId} {ty : TypeId} {pos : String} {af : Array Edge} {g : Option (Nat × Bool)} (h : Stopped (wpList P ops Q (⟨d, .alloc t, ty, pos, af, g⟩ :: rest) a w)) : wpList P ops Q (⟨d, .alloc t, ty, pos, af, g⟩ :: rest) a w := h
theorem stop_box {d : Option Tmp} {t : TypeId} {x : Operand} {ty : TypeId} {pos : String} {af : Array Edge} {g : Option (Nat × Bool)} (h : Stopped (wpList P ops Q (⟨d, .box t x, ty, pos, af, g⟩ :: rest) a w)) : wpList P ops Q (⟨d, .box t x, ty, pos, af, g⟩ :: rest) a w := h
/-- The frame behind an operation, written out. -/
theorem wpl_put {l : List Oper} {a1 : Act} (h : a = a1) (k : wpList P ops Q l a1 w) : wpList P ops Q l a w := h ▸ k
end
/-- A type of one cell. -/
def One (P : Program) (ty : TypeId) : Prop := (P.underlying ty).map TypeDesc.isRow = some false ∧ (P.info? ty).map (·.size) = some 1
/-- A type of n cells, an array's or a struct's. -/
def RowN (P : Program) (ty : TypeId) (n : Nat) : Prop := (P.underlying ty).map TypeDesc.isRow = some true ∧ (P.info? ty).map (·.size) = some n
/-- A slice's type, its elements of s cells and b bytes. -/
structure ElemT (P : Program) (t e : TypeId) (s b : Nat) : Prop where
  ht : P.underlying t = some (.slice e)
  ex : ∃ i z, P.info? e = some i ∧ i.zero = some z ∧ i.size = s ∧ i.bytes = b ∧ z.cells.size = s
  pos : 0 < s
theorem ElemT.mk' {P : Program} {t e : TypeId} {s b : Nat} (z : Value) (ht : P.underlying t = some (.slice e)) (hi : (P.info? e).map (fun i => (i.zero, i.size, i.bytes)) = some (some z, s, b)) (hz : z.cells.size = s) (hp : 0 < s) : ElemT P t e s b := by
  obtain ⟨i, h1, h2, h3, h4⟩ := info_parts hi
  exact ⟨ht, ⟨i, z, h1, h2, h3, h4, hz⟩, hp⟩
/-- The length of a list, as a word that the walk lets be. -/
def Len {α : Type} (l : List α) (n : Nat) : Prop := l.length = n
theorem Len.out {α : Type} {l : List α} {n : Nat} (h : Len l n) : l.length = n := h
theorem Len.rep {α : Type} {z : α} {n : Nat} : Len (List.replicate n z) n := List.length_replicate
theorem Len.set {α : Type} {l : List α} {z : α} {n i : Nat} (h : Len l n) : Len (l.set i z) n := by unfold Len at *; simpa using h
/-- A value is written out. -/
inductive IsV (u : Value) : Value → Prop
  | int {k : IntKind} {n : Int} (h : u = .int k n) : IsV u (.int k n)
  | bool {b : Bool} (h : u = .bool b) : IsV u (.bool b)
  | slice {a : Option Addr} {n c : Nat} (h : u = .slice a n c) : IsV u (.slice a n c)
  | pointer {p : Option Addr} (h : u = .pointer p) : IsV u (.pointer p)
  | string {s : ByteArray} (h : u = .string s) : IsV u (.string s)
  | map {m : Option Nat} (h : u = .map m) : IsV u (.map m)
  | func {f : Fn} {x y : Array Value} (h : u = .func f x y) : IsV u (.func f x y)
  | agg {cs : List Value} (h : u = .agg cs.toArray) : IsV u (.agg cs.toArray)
theorem IsV.eq {u v : Value} (h : IsV u v) : u = v := by cases h <;> assumption
section
variable {P : Program} {W w : World} {rs rs' : List Res} {Q : Exit → Act → World → Prop} {K : Act → World → Prop} {o : Oper} {a : Act}
theorem run_isAgg (w : World) {ty : TypeId} {b : Bool} (h : (P.underlying ty).map TypeDesc.isRow = some b) : (isAgg ty).run P w = .ok b w := by
  cases hu : P.underlying ty with
  | none => simp [hu] at h
  | some d =>
    rw [hu, Option.map_some, Option.some.injEq] at h
    unfold isAgg
    rw [Sem.run_bind, run_underlying hu w]
    subst h
    cases d <;> rfl
theorem run_sizeOf' (w : World) {ty : TypeId} {n : Nat} (h : (P.info? ty).map (·.size) = some n) : (sizeOf ty).run P w = .ok n w := by
  cases hq : P.info? ty with
  | none => simp [hq] at h
  | some i => simp [hq] at h; simp [sizeOf, typeInfo, hq, h]
theorem run_load1 (w : World) {ty : TypeId} {v : Value} {p : Addr} (h1 : One P ty) (hc : w.cell? p = some v) : (Instr.loadAt ty (.pointer (some p))).run P w = .ok v w := by
  simp only [Instr.loadAt, Instr.sureAddr, Sem.run_bind, Sem.run_pure, Result.andThen_ok, loadVar, run_isAgg w h1.1, Bool.false_eq_true, if_false, run_load, hc]
theorem run_store1 (w : World) {ty : TypeId} {u v : Value} {p : Addr} (h1 : One P ty) (hc : w.cell? p = some u) (hf : w.frozen? p = false) (ho : v.oneCell' = true) :
    (Instr.storeAt ty (.pointer (some p)) v).run P w = .ok () (w.setCell p v) := by
  have hcs : v.cells = #[v] := by cases v <;> first | rfl | cases ho
  have ha : p.add 0 = p := by simp [Addr.add]
  simp only [Instr.storeAt, Instr.sureAddr, Sem.run_bind, Sem.run_pure, Result.andThen_ok, storeVar, run_sizeOf' w h1.2, hcs]
  simp only [List.size_toArray, List.length_cons, List.length_nil, Nat.zero_add, ne_eq, not_true_eq_false, if_false, storeCells, Sem.run_bind, ha, run_store P w p v _ ho, hc, hf, Bool.false_eq_true, Result.andThen_ok, Sem.run_pure]
/-- A variable. -/
theorem wp_alloc (hS : St W w rs) (ty : TypeId) (ho : o.op = .alloc ty) (v : Value) (cs : List Value) (hz : ∀ w, (zeroValue ty).run P w = .ok v w) (hc : v.cells = cs.toArray)
    (h : ∀ g w', St W w' (blk g cs :: rs) → K (a.put o.dst (.pointer (some ⟨g, 0, none⟩))) w') : o.wp P a w K Q := by
  have hh := h _ _ (hS.alloc cs ty)
  rw [← hc] at hh
  unfold Oper.wp execOp
  simp only [ho]
  simp [go_sem, hz, newVar, newRow]
  exact hh
theorem wp_allocA (hS : St W w rs) (ty : TypeId) (ho : o.op = .alloc ty) (l : List Int) (n : Nat) (hn : Len l n) (hz : ∀ w, (zeroValue ty).run P w = .ok (.agg (iv l)) w)
    (h : ∀ g w', St W w' (arr g n l :: rs) → K (a.put o.dst (.pointer (some ⟨g, 0, none⟩))) w') : o.wp P a w K Q := by
  have hh := h _ _ (hS.allocArr l n hn ty)
  unfold Oper.wp execOp
  simp only [ho]
  simp [go_sem, hz, newVar, newRow, Value.cells]
  exact hh
theorem wp_boxG (hS : St W w rs) (ty : TypeId) (x : Operand) (ho : o.op = .box ty x) (cs : List Value) (hx : a.eval x = .agg cs.toArray)
    (h : ∀ g w', St W w' (blk g cs :: rs) → K (a.put o.dst (.pointer (some ⟨g, 0, none⟩))) w') : o.wp P a w K Q := by
  have hh := h _ _ (hS.alloc cs ty)
  unfold Oper.wp execOp
  simp only [ho, hx]
  simp [go_sem, newVar, newRow, Value.cells]
  exact hh
theorem wp_boxA (hS : St W w rs) (ty : TypeId) (x : Operand) (ho : o.op = .box ty x) (l : List Int) (n : Nat) (hx : a.eval x = .agg (iv l)) (hn : Len l n)
    (h : ∀ g w', St W w' (arr g n l :: rs) → K (a.put o.dst (.pointer (some ⟨g, 0, none⟩))) w') : o.wp P a w K Q := by
  have hh := h _ _ (hS.allocArr l n hn ty)
  unfold Oper.wp execOp
  simp only [ho, hx]
  simp [go_sem, newVar, newRow, Value.cells]
  exact hh
/-- A load of one cell, whatever is known of it. -/
theorem wp_load (ty : TypeId) (x : Operand) (ho : o.op = .load ty x) (p : Addr) (hx : a.eval x = .pointer (some p)) (h1 : One P ty) (v : Value) (hc : w.cell? p = some v)
    (h : K (a.put o.dst v) w) : o.wp P a w K Q := by
  unfold Oper.wp execOp
  simp only [ho, hx, Sem.run_bind, run_load1 w h1 hc, Result.andThen_ok, Sem.run_pure]
  exact h
/-- A cell that was there when the call began. -/
theorem wp_loadW (hS : St W w rs) (ty : TypeId) (x : Operand) (ho : o.op = .load ty x) (p : Addr) (hx : a.eval x = .pointer (some p)) (h1 : One P ty) (v : Value) (hc : W.cell? p = some v)
    (h : K (a.put o.dst v) w) : o.wp P a w K Q := wp_load ty x ho p hx h1 v (hS.1.cell hc) h
theorem wp_load1 (hS : St W w rs) (ty : TypeId) (x : Operand) (ho : o.op = .load ty x) (g off : Nat) (hx : a.eval x = .pointer (some ⟨g, off, none⟩)) (h1 : One P ty) (cs : List Value) (hp : Pull (blk g cs) rs rs')
    (v : Value) (hc : cs[off]? = some v) (h : K (a.put o.dst v) w) : o.wp P a w K Q :=
  wp_load ty x ho _ hx h1 v (by rw [(hS.blk hp).1.cell]; simpa using hc) h
theorem wp_load1A (hS : St W w rs) (ty : TypeId) (x : Operand) (ho : o.op = .load ty x) (g off : Nat) (hx : a.eval x = .pointer (some ⟨g, off, none⟩)) (h1 : One P ty) (n : Nat) (l : List Int) (hp : Pull (arr g n l) rs rs')
    (hi : off < n) (h : K (a.put o.dst (.int .i64 (nth l off))) w) : o.wp P a w K Q := by
  obtain ⟨hr, hn⟩ := hS.arr hp
  exact wp_load ty x ho _ hx h1 _ (hr.cell off (by omega)) h
/-- A cell of a row of its own. -/
theorem own_cell {e : TypeId} {s n c g k : Nat} {xs : List Value} {v : Value} (hS : St W w rs) (hp : Pull (own e s (some ⟨g, 0, none⟩) n c xs) rs rs') (hv : xs[k]? = some v) : w.cell? ⟨g, k, none⟩ = some v := by
  rcases (hS.own hp).2 with ⟨h1, h2⟩ | ⟨g', cap, cur, h1, _, hg, _, _, _, htake⟩
  · cases h1
  · cases h1
    rw [cell_of_row w g k cur e _ hg]
    rw [← htake, List.getElem?_take] at hv
    split at hv
    · simpa using hv
    · cases hv
theorem own_some {e : TypeId} {s n c : Nat} {a : Option Addr} {xs : List Value} (hS : St W w rs) (hp : Pull (own e s a n c xs) rs rs') (hn : 0 < n) : ∃ g, a = some ⟨g, 0, none⟩ := by
  rcases (hS.own hp).2 with ⟨h1, h2⟩ | ⟨g', cap, cur, h1, _⟩
  · omega
  · cases h1; exact ⟨_, rfl⟩
theorem wp_load1O (hS : St W w rs) (ty : TypeId) (x : Operand) (ho : o.op = .load ty x) (g off : Nat) (hx : a.eval x = .pointer (some ⟨g, off, none⟩)) (h1 : One P ty) (e : TypeId) (s n c : Nat) (xs : List Value) (hp : Pull (own e s (some ⟨g, 0, none⟩) n c xs) rs rs')
    (v : Value) (hv : xs[off]? = some v) (h : K (a.put o.dst v) w) : o.wp P a w K Q := wp_load ty x ho _ hx h1 v (own_cell hS hp hv) h
/-- A load of cells that lie together. -/
theorem wp_loadR (ty : TypeId) (x : Operand) (ho : o.op = .load ty x) (g off : Nat) (hx : a.eval x = .pointer (some ⟨g, off, none⟩)) (n : Nat) (h1 : RowN P ty n) (cs : List Value) (hn : cs.length = n) (hc : w.rangeAt g off cs)
    (h : K (a.put o.dst (.agg cs.toArray)) w) : o.wp P a w K Q := by
  obtain ⟨h2, h3⟩ := h1
  cases hu : P.underlying ty with
  | none => simp [hu] at h2
  | some d =>
    rw [hu, Option.map_some, Option.some.injEq] at h2
    exact wp_load_mid ty x ho g off hx cs d hc hu h2 (by rw [h3, hn]) h
/-- Cells that were there when the call began. -/
theorem wp_loadRW (hS : St W w rs) (ty : TypeId) (x : Operand) (ho : o.op = .load ty x) (g off : Nat) (hx : a.eval x = .pointer (some ⟨g, off, none⟩)) (n : Nat) (h1 : RowN P ty n) (cs : List Value) (hc : W.rangeAt g off cs) (hn : cs.length = n)
    (h : K (a.put o.dst (.agg cs.toArray)) w) : o.wp P a w K Q := wp_loadR ty x ho g off hx n h1 cs hn (rangeAt_ext hc hS.1) h
theorem Blk.range {w : World} {g : Nat} {cs : List Value} (h : Blk w g cs.toArray) : w.rangeAt g 0 cs := fun j v hv => by rw [Nat.zero_add, h.cell]; simpa using hv
theorem wp_loadG (hS : St W w rs) (ty : TypeId) (x : Operand) (ho : o.op = .load ty x) (g : Nat) (hx : a.eval x = .pointer (some ⟨g, 0, none⟩)) (n : Nat) (h1 : RowN P ty n) (cs : List Value) (hp : Pull (blk g cs) rs rs') (hn : cs.length = n)
    (h : K (a.put o.dst (.agg cs.toArray)) w) : o.wp P a w K Q := wp_loadR ty x ho g 0 hx n h1 cs hn (hS.blk hp).1.range h
theorem wp_loadA (hS : St W w rs) (ty : TypeId) (x : Operand) (ho : o.op = .load ty x) (g : Nat) (hx : a.eval x = .pointer (some ⟨g, 0, none⟩)) (n : Nat) (h1 : RowN P ty n) (l : List Int) (hp : Pull (arr g n l) rs rs')
    (h : K (a.put o.dst (.agg (iv l))) w) : o.wp P a w K Q := by
  obtain ⟨hr, hn⟩ := hS.arr hp
  exact wp_loadR ty x ho g 0 hx n h1 (l.map (Value.int .i64)) (by simpa using hn) hr.range h
/-- Stores. -/
theorem wp_storeC (ty : TypeId) (x y : Operand) (ho : o.op = .store ty x y) (p : Addr) (hx : a.eval x = .pointer (some p)) (h1 : One P ty) (v u : Value) (hy : a.eval y = v) (hv : v.oneCell' = true)
    (hc : w.cell? p = some u) (hf : w.frozen? p = false) (hd : o.dst = none) (h : K a (w.setCell p v)) : o.wp P a w K Q := by
  unfold Oper.wp execOp
  simp only [ho, hx, hy, Sem.run_bind, run_store1 w h1 hc hf hv, Result.andThen_ok, Sem.run_pure]
  show K (a.put o.dst undef) _
  rw [hd]
  exact h
theorem wp_store1 (hS : St W w rs) (ty : TypeId) (x y : Operand) (ho : o.op = .store ty x y) (g off : Nat) (hx : a.eval x = .pointer (some ⟨g, off, none⟩)) (h1 : One P ty) (cs cs' : List Value) (hp : Pull (blk g cs) rs rs')
    (v : Value) (hy : IsV (a.eval y) v) (hv : v.oneCell' = true) (hc : SetAt v off cs cs') (hd : o.dst = none) (h : ∀ w', St W w' (blk g cs' :: rs') → K a w') : o.wp P a w K Q := by
  obtain ⟨hl, hcs⟩ := hc.eq
  have hb := (hS.blk hp).1
  refine wp_storeC ty x y ho _ hx h1 v (cs[off]) hy.eq hv (by rw [hb.cell]; simp [hl]) (hb.free off) hd (h _ ?_)
  refine St.change (rs1 := [blk g cs']) (hS.pull hp) fun f1 h1 _ _ => ?_
  obtain ⟨rfl, h1⟩ := h1
  refine ⟨[g], ⟨[g], [], rfl, ⟨rfl, ?_⟩, rfl⟩, by simp, fun b hb => .inl hb, Only.setCell w ⟨g, off, none⟩ v⟩
  have := h1.set off v
  rw [hcs]
  simpa using this
theorem wp_store1A (hS : St W w rs) (ty : TypeId) (x y : Operand) (ho : o.op = .store ty x y) (g off : Nat) (hx : a.eval x = .pointer (some ⟨g, off, none⟩)) (h1 : One P ty) (n : Nat) (l : List Int) (hp : Pull (arr g n l) rs rs')
    (z : Int) (hy : a.eval y = .int .i64 z) (hi : off < n) (hd : o.dst = none) (h : ∀ w', St W w' (arr g n (l.set off z) :: rs') → K a w') : o.wp P a w K Q := by
  obtain ⟨hr, hn⟩ := hS.arr hp
  refine wp_storeC ty x y ho _ hx h1 (.int .i64 z) _ hy rfl (hr.cell off (by omega)) (hr.free off) hd (h _ ?_)
  refine St.change (rs1 := [arr g n (l.set off z)]) (hS.pull hp) fun f1 h1 _ _ => ?_
  obtain ⟨rfl, h1, h2⟩ := h1
  exact ⟨[g], ⟨[g], [], rfl, ⟨rfl, h1.set off z, by simpa using h2⟩, rfl⟩, by simp, fun b hb => .inl hb, Only.setCell w ⟨g, off, none⟩ _⟩
/-- A whole block. -/
theorem wp_storeG (hS : St W w rs) (ty : TypeId) (x y : Operand) (ho : o.op = .store ty x y) (g : Nat) (hx : a.eval x = .pointer (some ⟨g, 0, none⟩)) (n : Nat) (h1 : RowN P ty n) (cs cs' : List Value) (hp : Pull (blk g cs) rs rs')
    (hy : a.eval y = .agg cs'.toArray) (hn : cs.length = n) (hn' : cs'.length = n) (hv : cs'.all (·.oneCell') = true) (hd : o.dst = none) (h : ∀ w', St W w' (blk g cs' :: rs') → K a w') : o.wp P a w K Q := by
  obtain ⟨t, hb⟩ := (hS.blk hp).1
  refine wp_store_row ty x y ho g cs'.toArray hx hy t cs.toArray hb (by rw [h1.2]; simp [hn']) (by simp [hn, hn']) (by simpa using hv) ?_
  rw [show a.put o.dst undef = a by rw [hd]; rfl]
  refine h _ ?_
  refine St.change (rs1 := [blk g cs']) (hS.pull hp) fun f1 h1 _ _ => ?_
  obtain ⟨rfl, t, h1⟩ := h1
  exact ⟨[g], ⟨[g], [], rfl, ⟨rfl, t, setRow_heap w g _ _ t _ h1⟩, rfl⟩, by simp, fun b hb => .inl hb, Only.setRow w g _⟩
theorem wp_storeA (hS : St W w rs) (ty : TypeId) (x y : Operand) (ho : o.op = .store ty x y) (g : Nat) (hx : a.eval x = .pointer (some ⟨g, 0, none⟩)) (n : Nat) (h1 : RowN P ty n) (l m : List Int) (hp : Pull (arr g n l) rs rs')
    (hy : a.eval y = .agg (iv m)) (hm : Len m n) (hd : o.dst = none) (h : ∀ w', St W w' (arr g n m :: rs') → K a w') : o.wp P a w K Q := by
  obtain ⟨⟨t, hb⟩, hn⟩ := hS.arr hp
  have hm' : m.length = n := hm
  refine wp_store_row ty x y ho g (iv m) hx hy t (iv l) hb (by rw [h1.2, iv_size, hm']) (by rw [iv_size, iv_size, hn, hm']) (iv_one m) ?_
  rw [show a.put o.dst undef = a by rw [hd]; rfl]
  refine h _ ?_
  refine St.change (rs1 := [arr g n m]) (hS.pull hp) fun f1 h1 _ _ => ?_
  obtain ⟨rfl, ⟨t, h1⟩, h2⟩ := h1
  exact ⟨[g], ⟨[g], [], rfl, ⟨rfl, ⟨t, setRow_heap w g _ _ t _ h1⟩, hm⟩, rfl⟩, by simp, fun b hb => .inl hb, Only.setRow w g _⟩
/-- The operands of a literal, in their order, and their cells. -/
inductive Parts (a : Act) (s : Nat) : Nat → List (Nat × Operand) → List Value → List Value → Prop
  | nil {k : Nat} : Parts a s k [] [] []
  | one {k : Nat} {x : Operand} {v : Value} {ps : List (Nat × Operand)} {vs cs : List Value} (h : IsV (a.eval x) v) (h1 : v.oneCell' = true) (hs : s = 1) (t : Parts a s (k + 1) ps vs cs) : Parts a s k ((k, x) :: ps) (v :: vs) (v :: cs)
  | agg {k : Nat} {x : Operand} {l : List Value} {ps : List (Nat × Operand)} {vs cs : List Value} (h : a.eval x = .agg l.toArray) (hs : l.length = s) (t : Parts a s (k + 1) ps vs cs) : Parts a s k ((k, x) :: ps) (.agg l.toArray :: vs) (l ++ cs)
theorem fill_parts (s : Nat) : ∀ (vs : List Value) (k : Nat) (done zs : List Value), done.length = k * s → zs.length = vs.length * s → (∀ v ∈ vs, v.cells.size = s) →
    Instr.fill (fun i => some (i * s, s)) (done ++ zs).toArray ((vs.zipIdx k).map fun x => (x.2, x.1)) = some (done ++ vs.flatMap (·.cells.toList)).toArray := by
  intro vs
  induction vs with
  | nil => intro k done zs _ hz _; simp at hz; simp [Instr.fill, hz]
  | cons v vs ih =>
    intro k done zs hd hz hv
    have hvs := hv v (by simp)
    have hlen : zs.length = s + vs.length * s := by rw [hz, List.length_cons, Nat.add_mul, Nat.one_mul, Nat.add_comm]
    simp only [List.zipIdx_cons, List.map_cons, Instr.fill, hvs, ne_eq, not_true_eq_false]
    rw [if_neg (by simp [hd, hlen])]
    have key : ∀ (us : List Value) (j : Nat) (d z : List Value), d.length = k * s + j → us.length ≤ z.length →
        List.foldl (fun cs (x : Value × Nat) => cs.setIfInBounds (k * s + x.2) x.1) (d ++ z).toArray (us.zipIdx j) = (d ++ us ++ z.drop us.length).toArray := by
      intro us
      induction us with
      | nil => intro j d z _ _; simp
      | cons u us ih2 =>
        intro j d z hd2 hz2
        cases z with
        | nil => simp at hz2
        | cons y z =>
          simp only [List.zipIdx_cons, List.foldl_cons]
          have e1 : (d ++ y :: z).toArray.setIfInBounds (k * s + j) u = ((d ++ [u]) ++ z).toArray := by
            rw [List.setIfInBounds_toArray, List.set_append_right _ _ (by omega), hd2, Nat.sub_self, List.set_cons_zero, List.append_assoc]
            rfl
          rw [e1, ih2 (j + 1) (d ++ [u]) z (by simp [hd2]; omega) (by simpa using hz2)]
          simp
    have e2 : v.cells.zipIdx.foldl (fun cs (x : Value × Nat) => cs.setIfInBounds (k * s + x.2) x.1) (done ++ zs).toArray = ((done ++ v.cells.toList) ++ zs.drop s).toArray := by
      have := key v.cells.toList 0 done zs (by simpa using hd) (by simp [hvs, hlen])
      rw [← Array.foldl_toList]
      simpa [hvs] using this
    rw [show (Array.foldl (fun cs (x : Value × Nat) => cs.setIfInBounds (k * s + x.2) x.1) (done ++ zs).toArray v.cells.zipIdx) = ((done ++ v.cells.toList) ++ zs.drop s).toArray from e2]
    rw [ih (k + 1) (done ++ v.cells.toList) (zs.drop s) (by simp [hd, hvs, Nat.add_mul]) (by rw [List.length_drop, hlen]; omega) (fun u hu => hv u (by simp [hu]))]
    simp
theorem Parts.vals {a : Act} {s : Nat} : ∀ {k : Nat} {ps : List (Nat × Operand)} {vs cs : List Value}, Parts a s k ps vs cs →
    (ps.map fun (i, x) => (i, a.eval x)) = ((vs.zipIdx k).map fun x => (x.2, x.1)) ∧ ps.length = vs.length ∧ (vs.flatMap (·.cells.toList)) = cs ∧ ∀ v ∈ vs, v.cells.size = s := by
  intro k ps vs cs h
  induction h with
  | nil => exact ⟨rfl, rfl, rfl, fun v hv => by cases hv⟩
  | @one k x v ps vs cs h h1 hs t ih =>
    have hc : v.cells = #[v] := by cases v <;> first | rfl | cases h1
    refine ⟨by simp only [List.map_cons, List.zipIdx_cons, ih.1, h.eq], by simp [ih.2.1], by rw [List.flatMap_cons, ih.2.2.1, hc]; rfl, fun u hu => ?_⟩
    rcases List.mem_cons.1 hu with rfl | hu
    · rw [hc, hs]; rfl
    · exact ih.2.2.2 u hu
  | @agg k x l ps vs cs h hs t ih =>
    refine ⟨by simp only [List.map_cons, List.zipIdx_cons, ih.1, h], by simp [ih.2.1], by rw [List.flatMap_cons, ih.2.2.1]; rfl, fun u hu => ?_⟩
    rcases List.mem_cons.1 hu with rfl | hu
    · simpa [Value.cells] using hs
    · exact ih.2.2.2 u hu
/-- A slice that is written out: a new block. -/
theorem wp_buildSlice1 (hS : St W w rs) (t : TypeId) (n : Nat) (ps : List (Nat × Operand)) (ho : o.op = .buildSlice t n ps.toArray) (e : TypeId) (s b : Nat) (el : ElemT P t e s b) (vs cs : List Value) (hvs : Parts a s 0 ps vs cs) (hn : vs.length = n) (hn0 : 0 < n) (hns : n * s ≤ 2 ^ 24)
    (h : ∀ g w', St W w' (blk g cs :: rs) → K (a.put o.dst (.slice (some ⟨g, 0, none⟩) n n)) w') : o.wp P a w K Q := by
  obtain ⟨ht, ⟨i, z, hi, hz, rfl, hb, hzs⟩, hp⟩ := el
  obtain ⟨h1, h2, hcs, hsz⟩ := hvs.vals
  have hns' : 0 < n * i.size := Nat.mul_pos hn0 hp
  refine Go.wp_buildSlice t e n ps.toArray ho (cs.toArray) i z ht hi hz (by omega) (by omega) ?_ (h _ _ (hS.alloc cs e))
  have h3 := fill_parts i.size vs 0 [] (((List.range (n * i.size)).map (fun j => z.cells[j % z.cells.size]!))) (by simp) (by simp [hn]) hsz
  simp only [List.nil_append] at h3
  rw [← hcs]
  have e1 : (Array.map (fun x : Nat × Operand => (x.1, a.eval x.2)) ps.toArray).toList = (vs.zipIdx 0).map fun x => (x.2, x.1) := by
    rw [← h1]; simp
  rw [e1]
  rw [← h3]
  congr 1
  apply Array.ext_getElem?
  intro j
  simp only [Array.getElem?_map, Array.getElem?_range, List.getElem?_toArray, List.getElem?_map]
  by_cases hj : j < n * i.size
  · simp [hj]
  · simp [hj]
/-- What an append finds: a row of its own, and readable cells. -/
theorem wp_append (hS : St W w rs) (s x : Operand) (t : TypeId) (ho : o.op = .call { callee := .builtin .append, args := #[s, x], argTypes := #[t, t] }) (e : TypeId) (sz b : Nat) (el : ElemT P t e sz b)
    (ad : Option Addr) (n c : Nat) (xs : List Value) (hs : a.eval s = .slice ad n c) (hp : Pull (own e sz ad n c xs) rs rs') (v : Value) (hx : a.eval x = v) (m : Nat) (news : List Value) (hm : Sl w sz v m news) (h1 : ∀ u ∈ news, u.oneCell' = true)
    (h63 : n + m ≤ maxLen) (hb : (n + m) * b ≤ 140737488355328)
    (h : ∀ ad' c' w', St W w' (own e sz ad' (n + m) c' (xs ++ news) :: rs') → K (a.put o.dst (.slice ad' (n + m) c')) w') : o.wp P a w K Q := by
  obtain ⟨ht, ⟨i, z, hi, hz, hsz, hby, hzs⟩, hpos⟩ := el
  have hown := hS.own hp
  have fin : ∀ v' w', w'.ownsRow 0 e sz v' (n + m) (xs ++ news) → w.grownBy w' (Value.slice ad n c).ownBlock → (v'.ownBlock = (Value.slice ad n c).ownBlock ∨ v'.ownBlock = some w.heap.size) → ∃ ad' c', v' = .slice ad' (n + m) c' ∧ St W w' (own e sz ad' (n + m) c' (xs ++ news) :: rs') := by
    intro v' w' ho' hg hat
    obtain ⟨ad', c', rfl⟩ : ∃ ad' c', v' = .slice ad' (n + m) c' := by
      rcases ho'.2 with ⟨h1, h2⟩ | ⟨g, cap, cur, h1, _⟩
      · exact ⟨none, 0, by rw [h2]; exact h1⟩
      · exact ⟨_, _, h1⟩
    refine ⟨ad', c', rfl, ?_⟩
    refine St.change (rs1 := [own e sz ad' (n + m) c' (xs ++ news)]) (hS.pull hp) fun f1 h1 hf1 hn1 => ?_
    obtain ⟨rfl, h1⟩ := h1
    refine ⟨(Value.slice ad' (n + m) c').ownBlock.toList, ⟨_, [], by simp, ⟨rfl, ho'⟩, rfl⟩, ?_, fun k hk => ?_, Only.grown hg⟩
    · cases (Value.slice ad' (n + m) c').ownBlock <;> simp
    · rcases hat with h | h
      · left; rw [← h]; exact hk
      · right; rw [h] at hk; simp at hk; omega
  obtain ⟨hl, aa, cc, rfl, hmc, hcm, hor⟩ := hm
  rcases hor with rfl | ⟨bb, off, rfl, hcells⟩
  · have hnews : news = [] := by simpa using hl
    subst hnews
    cases aa with
    | none =>
      obtain ⟨v', hr, hw⟩ : ∃ v', (Builtin.append_ #[t, t] o.type #[.slice ad n c, .slice none 0 cc]).run P w = .ok v' w ∧ v' = .slice ad n c := by
        rcases hown.2 with ⟨h1, h2⟩ | ⟨g, cap, cur, h1, _, _, hnc, _⟩
        · cases h1
          refine ⟨_, ?_, rfl⟩
          simp [Builtin.append_, run_underlying ht, sizeOf, typeInfo, hi, Builtin.lenOf, Builtin.firstCells]
        · cases h1
          refine ⟨_, ?_, rfl⟩
          simp [Builtin.append_, run_underlying ht, sizeOf, typeInfo, hi, Builtin.lenOf, hnc, Builtin.firstCells, storeCells]
      subst hw
      obtain ⟨ad', c', he, hst⟩ := fin (.slice ad n c) w (by simpa using hown) ⟨rfl, rfl, rfl, Nat.le_refl _, fun _ _ _ => rfl⟩ (.inl rfl)
      have hk := h ad' c' w hst
      unfold Oper.wp execOp
      simp only [ho, resolve, invoke, builtin, Sem.run_bind, Sem.run_pure, Result.andThen_ok, List.map_toArray, List.map_cons, List.map_nil, hs, hx, hr]
      rw [he]
      exact hk
    | some a0 =>
      obtain ⟨v', w', hr, h2, h3, h4, h5⟩ := run_append_own_at (P := P) w 0 t o.type e i z sz b ht hi hz hsz hby hzs hpos (.slice ad n c) n xs hown a0 0 cc [] (by simp) (by simp) (by simp) h63 hb (Nat.zero_le _)
      obtain ⟨ad', c', rfl, hst⟩ := fin v' w' h2 h3 h5
      have hk := h ad' c' w' hst
      unfold Oper.wp execOp
      simp only [ho, resolve, invoke, builtin, Sem.run_bind, Sem.run_pure, Result.andThen_ok, List.map_toArray, List.map_cons, List.map_nil, hs, hx, hr]
      exact hk
  · obtain ⟨v', w', hr, h2, h3, h4, h5⟩ := run_append_own_at (P := P) w 0 t o.type e i z sz b ht hi hz hsz hby hzs hpos (.slice ad n c) n xs hown ⟨bb, off, none⟩ m cc news hl (fun j u hu => by
        have hj : j < m * sz := by rw [← hl]; exact (List.getElem?_eq_some_iff.1 hu).1
        rw [Addr.add_mid, hcells j hj, hu]) h1 h63 hb (Nat.zero_le _)
    obtain ⟨ad', c', rfl, hst⟩ := fin v' w' h2 h3 h5
    have hk := h ad' c' w' hst
    unfold Oper.wp execOp
    simp only [ho, resolve, invoke, builtin, Sem.run_bind, Sem.run_pure, Result.andThen_ok, List.map_toArray, List.map_cons, List.map_nil, hs, hx, hr]
    exact hk
end
section
variable {P : Program} {w : World} {Q : Exit → Act → World → Prop} {K : Act → World → Prop} {o : Oper} {a : Act}
/-- A call of a function that the text names, by its contract. -/
theorem wp_callF {f : FuncId} {xs : List Operand} {ats : Array TypeId} (ho : o.op = .call { callee := .value (.func f), args := xs.toArray, argTypes := ats }) (hcall : ∀ (args : Array Value) (w : World), (callFunc f args).run P w = .ok (.enter f args) w)
    {R : Ending → World → Prop} (hc : Calls P f (xs.map a.eval).toArray w R) (h : ∀ e w', R e w' → ∃ v, e = .returned v ∧ K (a.put o.dst v) w') : o.wp P a w K Q := by
  have e1 : execOp a.eval o = callFunc f (xs.map a.eval).toArray := by
    unfold execOp
    rw [ho]
    have e2 : (#[] ++ (xs.toArray).map a.eval ++ #[] : Array Value) = (xs.map a.eval).toArray := by simp
    rw [← e2]
    rfl
  unfold Oper.wp
  rw [e1, hcall, Oper.upon_enter]
  refine hc.mono fun e w' hR => ?_
  obtain ⟨v, rfl, hk⟩ := h e w' hR
  exact hk
end
/-- What a call comes to, by a contract. -/
def CallGoal (P : Program) (f : FuncId) (args : Array Value) (w : World) (K : Value → World → Prop) : Prop := ∃ R : Ending → World → Prop, Calls P f args w R ∧ ∀ e w', R e w' → ∃ v, e = .returned v ∧ K v w'
theorem wpl_call {P : Program} {w : World} {Q : Exit → Act → World → Prop} {a : Act} {ops : Array Oper} {rest : List Oper} {f : FuncId} {d : Option Tmp} {xs : List Operand} {ats : Array TypeId} {ty : TypeId} {pos : String} {af : Array Edge} {g : Option (Nat × Bool)}
    (hcall : ∀ (args : Array Value) (w : World), (callFunc f args).run P w = .ok (.enter f args) w) (hw : Region.wanted ⟨d, .call ⟨.value (.func f), xs.toArray, ats⟩, ty, pos, af, g⟩ (yielded ops a.tmps) = true)
    (h : CallGoal P f (xs.map a.eval).toArray w fun v w' => wpList P ops Q rest (a.put d v) w') : wpList P ops Q (⟨d, .call ⟨.value (.func f), xs.toArray, ats⟩, ty, pos, af, g⟩ :: rest) a w := by
  obtain ⟨R, hc, hR⟩ := h
  exact wpl hw (wp_callF rfl hcall hc hR)
/-- A slice that lies in a block that is known whole. -/
theorem St.slBlk {W w : World} {rs rs' : List Res} {g n s : Nat} {cs : List Value} (h : St W w rs) (p : Pull (Go.Proofs.YtehbjhocgnfpmaaDoor.blk g cs) rs rs') (hl : cs.length = n * s) (hn : n ≤ maxLen) : Sl w s (.slice (some ⟨g, 0, none⟩) n n) n cs :=
  ⟨hl, _, _, rfl, Nat.le_refl _, hn, .inr ⟨g, 0, rfl, fun k hk => by rw [Nat.zero_add, (h.blk p).1.cell]; simp⟩⟩

section
variable {P : Program} {ops : Array Oper} {Q : Exit → Act → World → Prop} {md : Region.Mode} {D : List Nat} {S T : World → Prop}
/-- The two frames look the same to the operation. -/
def Same (ops : Array Oper) (o : Oper) (a b : Act) : Prop :=
  execOp b.eval o = execOp a.eval o ∧ Region.wanted o (yielded ops b.tmps) = Region.wanted o (yielded ops a.tmps) ∧ b.tmps.size = a.tmps.size
theorem Same.refl (o : Oper) (a : Act) : Same ops o a a := ⟨rfl, rfl, rfl⟩
theorem Same.trans {o : Oper} {a b c : Act} (h : Same ops o a b) (k : Same ops o b c) : Same ops o a c := ⟨k.1.trans h.1, k.2.1.trans h.2.1, k.2.2.trans h.2.2⟩
theorem Same.put (o : Oper) (hs : ∀ cs b, o.op ≠ .select cs b) (a : Act) (dst : Option Tmp) (u : Value) (h : ∀ d, dst = some d → d ∉ o.looksAt ops) : Same ops o a (a.put dst u) :=
  ⟨execOp_put o hs a dst u h, wanted_put o a dst u h, by cases dst <;> simp [Act.put]⟩
theorem wpOp_swap {j : Nat} {oi oj : Oper} {v : Value} (hj : ops[j]? = some oj) (hap : oi.apart ops oj = true) (hsi : ∀ cs b, oi.op ≠ .select cs b) (hsj : ∀ cs b, oj.op ≠ .select cs b)
    (hQ : ∀ c a w, Q (.panic c) (a.put oi.dst v) w → Q (.panic c) a w) {K : Act → World → Prop} {a : Act} {w : World} (h : wpOp P ops Q j K (a.put oi.dst v) w) :
    wpOp P ops Q j (fun a' w' => Same ops oi a a' ∧ K (a'.put oi.dst v) w') a w := by
  obtain ⟨hd1, hd2, hd3⟩ := Oper.apart_spec hap
  have back : ∀ (b : Act) u, (b.put oj.dst u).put oi.dst v = (b.put oi.dst v).put oj.dst u := fun b u => (Act.put_comm b v u hd2).symm
  have fin : ∀ u w', K ((a.put oi.dst v).put oj.dst u) w' → Same ops oi a (a.put oj.dst u) ∧ K ((a.put oj.dst u).put oi.dst v) w' := fun u w' hk => ⟨Same.put oi hsi a oj.dst u hd3, by rw [back]; exact hk⟩
  unfold wpOp at h ⊢
  rw [hj] at h ⊢
  dsimp only at h ⊢
  rw [wanted_put oj a oi.dst v hd1] at h
  by_cases hw : Region.wanted oj (yielded ops a.tmps) = true
  · rw [if_pos hw] at h ⊢
    rcases h with h | ⟨h1, h2⟩
    · left
      unfold Oper.wp at h ⊢
      rw [execOp_put oj hsj a oi.dst v hd1] at h
      generalize (execOp a.eval oj).run P w = r at h ⊢
      cases r with
      | halt x w' => cases x <;> simp only [Oper.upon] at h ⊢ <;> exact hQ _ _ _ h
      | ok n w' =>
        cases n <;> simp only [Oper.upon] at h ⊢
        case value u => exact fin u w' h
        case skip => exact fin _ w' h
        case defer d =>
          refine ⟨Same.trans (b := { a with defers := d :: a.defers }) ⟨rfl, rfl, rfl⟩ (Same.put oi hsi _ oj.dst _ hd3), ?_⟩
          rw [back, ← Act.put_defers]
          exact h
        case enter f args =>
          refine Calls.mono h fun e w'' he => ?_
          cases e with
          | returned u => exact fin u w'' he
          | panicked c => exact hQ _ _ _ he
          | outgrown => exact he
        case row row args => exact Rows.mono h fun u w'' he => fin u w'' he
    · right
      unfold Oper.asks at h1 ⊢
      rw [execOp_put oj hsj a oi.dst v hd1] at h1
      exact ⟨h1, h2⟩
  · rw [if_neg hw] at h ⊢
    exact fin _ w h
/-- Whatever order is picked; S lasts behind all but the late ones, D. -/
def wpAnyN (P : Program) (md : Region.Mode) (ops : Array Oper) (Q : Exit → Act → World → Prop) (D : List Nat) (S : World → Prop) : Nat → Array Bool → Act → World → Prop
  | 0, listed, a, w => Region.ready md ops listed = [] ∧ Q .normal a w
  | fuel + 1, listed, a, w => (Region.ready md ops listed = [] → Q .normal a w) ∧
    ∀ i ∈ Region.ready md ops listed, wpOp P ops Q i (fun a' w' => (i ∉ D → S w → S w') ∧ wpAnyN P md ops Q D S fuel (listed.setIfInBounds i true) a' w') a w
theorem wpAny_of_N : ∀ (fuel : Nat) (listed : Array Bool) (a : Act) (w : World), wpAnyN P md ops Q D S fuel listed a w → wpAny P md ops Q fuel listed a w
  | 0, _, _, _, h => h
  | fuel + 1, _, _, _, h => ⟨h.1, fun i hi => wpOp_mono (fun a' w' k => wpAny_of_N fuel _ a' w' k.2) (h.2 i hi)⟩
/-- All of E wait, one for another, for i. -/
def Waits (md : Region.Mode) (ops : Array Oper) (listed : Array Bool) (i : Nat) (E : List Nat) : Prop :=
  ∀ j ∈ E, listed.getD j true = false ∧ ∃ oj, ops[j]? = some oj ∧ ∃ e ∈ oj.after, Region.binds md e = true ∧ (e.on ∈ E ∨ e.on = i)
def waitsB (md : Region.Mode) (ops : Array Oper) (listed : Array Bool) (i : Nat) (E D : List Nat) : Bool :=
  D.all (fun j => E.contains j) && E.all fun j => !listed.getD j true && match ops[j]? with
    | none => false
    | some oj => oj.after.any fun e => Region.binds md e && (E.contains e.on || e.on == i)
theorem waits_of {listed : Array Bool} {i : Nat} {E : List Nat} (h : waitsB md ops listed i E D = true) : (∀ j ∈ D, j ∈ E) ∧ Waits md ops listed i E := by
  unfold waitsB at h
  simp only [Bool.and_eq_true, List.all_eq_true] at h
  refine ⟨fun j hj => by simpa using h.1 j hj, fun j hj => ?_⟩
  obtain ⟨h1, h2⟩ := h.2 j hj
  refine ⟨by simpa using h1, ?_⟩
  cases ho : ops[j]? with
  | none => rw [ho] at h2; cases h2
  | some oj =>
    rw [ho] at h2
    obtain ⟨e, he, hb⟩ := Array.any_eq_true'.1 h2
    simp only [Bool.and_eq_true, Bool.or_eq_true, beq_iff_eq] at hb
    exact ⟨oj, rfl, e, he, hb.1, hb.2.imp (fun h => by simpa using h) id⟩
theorem getD_false_of {listed : Array Bool} {k : Nat} (h : listed.getD k true = false) : listed.getD k false = false := by
  rcases Nat.lt_or_ge k listed.size with h' | h'
  · simp [h'] at h ⊢; exact h
  · simp [Array.getElem?_eq_none h'] at h
theorem wpAnyN_first {i : Nat} {oi : Oper} {v : Value} {a0 : Act} (hi : ops[i]? = some oi) (hsel : ∀ (j : Nat) (o : Oper) cs b, ops[j]? = some o → o.op ≠ .select cs b)
    (hQ : ∀ c a w, Q (.panic c) (a.put oi.dst v) w → Q (.panic c) a w) (hfr : ∀ w, T w → wpList P ops (FreeOne (fun w' => w' = w) (a0.put oi.dst v)) [oi] a0 w) (E : List Nat)
    (hcase : (∀ w, T w) ∨ ((∀ w, S w → T w) ∧ ∀ j ∈ D, j ∈ E)) :
    ∀ (fuel : Nat) (listed : Array Bool) (a : Act) (w : World), Same ops oi a0 a →
      (∀ j oj, ops[j]? = some oj → j ≠ i → listed.getD j true = false → (∀ e ∈ oj.after, Region.binds md e = true → e.on ≠ i) → oi.apart ops oj = true) →
      i ∈ Region.ready md ops listed → ((∀ w, T w) ∨ (S w ∧ Waits md ops listed i E)) →
      wpAnyN P md ops Q D S fuel (listed.setIfInBounds i true) (a.put oi.dst v) w → wpAnyN P md ops Q D S (fuel + 1) listed a w := by
  have now : ∀ {a : Act} {w : World} {K : Act → World → Prop}, Same ops oi a0 a → T w → K (a.put oi.dst v) w → wpOp P ops Q i K a w := fun hs hT hk =>
    free_op (I := fun w' => w' = _) hi (hfr _ hT) hs.1 hs.2.1 hs.2.2 (fun w' hw' => by rw [hw']; exact hk)
  have tn : ∀ {listed : Array Bool} {w : World}, ((∀ w, T w) ∨ (S w ∧ Waits md ops listed i E)) → T w := fun {listed w} h => by
    rcases h with h | h
    · exact h w
    · rcases hcase with k | k
      · exact k w
      · exact k.1 w h.1
  intro fuel
  induction fuel with
  | zero =>
    intro listed a w hs _ hr hst H
    refine ⟨fun h => (by rw [h] at hr; cases hr), fun j hj => ?_⟩
    by_cases hji : j = i
    · subst hji; exact now hs (tn hst) ⟨fun _ h => h, H⟩
    · have := ready_mono hj hji
      rw [H.1] at this
      cases this
  | succ fuel ih =>
    intro listed a w hs hfree hr hst H
    refine ⟨fun h => (by rw [h] at hr; cases hr), fun j hj => ?_⟩
    by_cases hji : j = i
    · subst hji; exact now hs (tn hst) ⟨fun _ h => h, H⟩
    · have h1 := H.2 j (ready_mono hj hji)
      obtain ⟨hjun, oj, hoj, hall⟩ := mem_ready.1 hj
      have hiun := (mem_ready.1 hr).1
      have hnot : ∀ e ∈ oj.after, Region.binds md e = true → e.on ≠ i := fun e he hb heq => by
        have k1 := hall e he hb
        rw [heq, getD_false_of hiun] at k1
        cases k1
      have h2 := wpOp_swap hoj (hfree j oj hoj hji hjun hnot) (fun cs b => hsel i oi cs b hi) (fun cs b => hsel j oj cs b hoj) hQ h1
      have hfree' : ∀ k ok, ops[k]? = some ok → k ≠ i → (listed.setIfInBounds j true).getD k true = false → (∀ e ∈ ok.after, Region.binds md e = true → e.on ≠ i) → oi.apart ops ok = true := fun k ok hk hki hun hno => by
        refine hfree k ok hk hki ?_ hno
        by_cases hjk : j = k
        · subst hjk; exact hjun
        · rw [getD_set_ne true hjk] at hun; exact hun
      refine wpOp_mono (fun a' w' h3 => ⟨h3.2.1, ih (listed.setIfInBounds j true) a' w' (hs.trans h3.1) hfree' (ready_mono hr (Ne.symm hji)) ?_ ?_⟩) h2
      · rcases hst with h | ⟨hSw, hwt⟩
        · exact .inl h
        · rcases hcase with h | ⟨_, hD⟩
          · exact .inl h
          · have hjE : j ∉ E := fun hm => by
              obtain ⟨_, oj', hoj', e, he, hb, hon⟩ := hwt j hm
              rw [hoj] at hoj'
              cases hoj'
              have k1 := hall e he hb
              rcases hon with hon | hon
              · rw [getD_false_of (hwt e.on hon).1] at k1; cases k1
              · rw [hon, getD_false_of hiun] at k1; cases k1
            refine .inr ⟨h3.2.1 (fun hm => hjE (hD j hm)) hSw, fun k hk => ⟨?_, (hwt k hk).2⟩⟩
            rw [getD_set_ne true (fun e => hjE (by rw [e]; exact hk))]
            exact (hwt k hk).1
      · rw [Array.setIfInBounds_comm _ _ hji]
        exact h3.2.2
theorem free_val {oi : Oper} {a a1 : Act} {w : World} (hfr : wpList P ops (FreeOne (fun w' => w' = w) a1) [oi] a w) (hd : a1.defers = a.defers) : ∃ v, a1 = a.put oi.dst v := by
  rcases free_put hfr with h1 | ⟨d, h1⟩
  · exact h1
  · exfalso
    rw [h1] at hd
    cases hdd : oi.dst <;> simp [hdd, Act.put] at hd
/-- The operation at a place, as it is written out. -/
inductive AtL (o : Oper) : Nat → List Oper → Prop
  | head {l : List Oper} : AtL o 0 (o :: l)
  | tail {i : Nat} {x : Oper} {l : List Oper} (h : AtL o i l) : AtL o (i + 1) (x :: l)
theorem AtL.get {o : Oper} {i : Nat} {l : List Oper} (h : AtL o i l) : l.toArray[i]? = some o := by
  rw [List.getElem?_toArray]
  induction h with
  | head => rfl
  | tail h ih => rw [List.getElem?_cons_succ]; exact ih
/-- What only computes. -/
theorem takeP (i : Nat) {l : List Oper} {oi : Oper} {a1 : Act} {fuel : Nat} {listed : Array Bool} {a : Act} {w : World} (hi : AtL oi i l) (hs : Region.noSelect l.toArray = true) (hf : Region.free md l.toArray listed i = true)
    (hr : (Region.ready md l.toArray listed).contains i = true) (hQ : ∀ v c a w, Q (.panic c) (a.put oi.dst v) w → Q (.panic c) a w) (hfr : ∀ w, wpList P l.toArray (FreeOne (fun w' => w' = w) a1) [oi] a w) (hd : a1.defers = a.defers)
    (h : wpAnyN P md l.toArray Q D S fuel (listed.setIfInBounds i true) a1 w) : wpAnyN P md l.toArray Q D S (fuel + 1) listed a w := by
  obtain ⟨v, rfl⟩ := free_val (hfr w) hd
  exact wpAnyN_first (T := fun _ => True) hi.get (Region.noSelect_spec hs) (hQ v) (fun w _ => hfr w) [] (.inl fun _ => trivial) fuel listed a w (Same.refl oi a) (Region.free_spec hi.get hf) (by simpa using hr) (.inl fun _ => trivial) h
/-- What reads: under S, which no operation ahead of it ends. -/
theorem takeS (i : Nat) {l : List Oper} {oi : Oper} {a1 : Act} {fuel : Nat} {listed : Array Bool} {a : Act} {w : World} (hi : AtL oi i l) (hs : Region.noSelect l.toArray = true) (hf : Region.free md l.toArray listed i = true)
    (hr : (Region.ready md l.toArray listed).contains i = true) (hQ : ∀ v c a w, Q (.panic c) (a.put oi.dst v) w → Q (.panic c) a w) (E : List Nat) (hE : waitsB md l.toArray listed i E D = true) (hSw : S w)
    (hfr : ∀ w, S w → wpList P l.toArray (FreeOne (fun w' => w' = w) a1) [oi] a w) (hd : a1.defers = a.defers)
    (h : wpAnyN P md l.toArray Q D S fuel (listed.setIfInBounds i true) a1 w) : wpAnyN P md l.toArray Q D S (fuel + 1) listed a w := by
  obtain ⟨v, rfl⟩ := free_val (hfr w hSw) hd
  exact wpAnyN_first (T := S) hi.get (Region.noSelect_spec hs) (hQ v) hfr E (.inr ⟨fun _ h => h, (waits_of hE).1⟩) fuel listed a w (Same.refl oi a) (Region.free_spec hi.get hf) (by simpa using hr) (.inr ⟨hSw, (waits_of hE).2⟩) h
/-- Whichever of those that may comes up. -/
inductive Each (P : Program) (l : List Oper) (Q : Exit → Act → World → Prop) (K : Nat → Act → World → Prop) (a : Act) (w : World) : List Nat → Prop
  | nil : Each P l Q K a w []
  | cons {i : Nat} {o : Oper} {rs : List Nat} (hi : AtL o i l) (hw : Region.wanted o (yielded l.toArray a.tmps) = true) (h : o.wp P a w (K i) Q) (t : Each P l Q K a w rs) : Each P l Q K a w (i :: rs)
theorem Each.all {l : List Oper} {K : Nat → Act → World → Prop} {a : Act} {w : World} : ∀ {rs : List Nat}, Each P l Q K a w rs → ∀ i ∈ rs, wpOp P l.toArray Q i (K i) a w := by
  intro rs h
  induction h with
  | nil => intro i hi; cases hi
  | cons hi hw h t ih =>
    intro j hj
    rcases List.mem_cons.1 hj with rfl | hj
    · unfold wpOp
      rw [hi.get]
      dsimp only
      rw [if_pos hw]
      exact .inl h
    · exact ih j hj
theorem branch (rs : List Nat) {l : List Oper} {fuel : Nat} {listed : Array Bool} {a : Act} {w : World} (hr : Region.ready md l.toArray listed = rs) (hne : rs ≠ [])
    (h : Each P l Q (fun i a' w' => (i ∉ D → S w → S w') ∧ wpAnyN P md l.toArray Q D S fuel (listed.setIfInBounds i true) a' w') a w rs) : wpAnyN P md l.toArray Q D S (fuel + 1) listed a w :=
  ⟨fun h0 => absurd (hr.symm.trans h0) hne, by rw [hr]; exact h.all⟩
theorem branch1 (i : Nat) {l : List Oper} {o : Oper} {fuel : Nat} {listed : Array Bool} {a : Act} {w : World} (hi : AtL o i l) (hw : Region.wanted o (yielded l.toArray a.tmps) = true) (hr : Region.ready md l.toArray listed = [i])
    (h : o.wp P a w (fun a' w' => (i ∉ D → S w → S w') ∧ wpAnyN P md l.toArray Q D S fuel (listed.setIfInBounds i true) a' w') Q) : wpAnyN P md l.toArray Q D S (fuel + 1) listed a w :=
  branch [i] hr (by simp) (.cons hi hw h .nil)
theorem drawn_put {fuel : Nat} {listed : Array Bool} {a a1 : Act} {w : World} (h : a = a1) (k : wpAnyN P md ops Q D S fuel listed a1 w) : wpAnyN P md ops Q D S fuel listed a w := h ▸ k
theorem drawn_done {listed : Array Bool} {a : Act} {w : World} (hr : Region.ready md ops listed = []) (h : Q .normal a w) : ∀ fuel, wpAnyN P md ops Q D S fuel listed a w
  | 0 => ⟨hr, h⟩
  | _ + 1 => ⟨fun _ => h, by rw [hr]; simp⟩
theorem drawn {id : Nat} {a : Act} {w : World} (D : List Nat) (S : World → Prop) (hm : P.follows .mixedOrders = true)
    (h : wpAnyN P .any ops Q D S ops.size (Array.replicate ops.size false) a w.drew) : (Code.region id ops true).wp P Q a w :=
  wp_region_any hm (wpAny_of_N _ _ _ _ h)
theorem drawn_lit {id : Nat} {l : List Oper} {a : Act} {w : World} (D : List Nat) (S : World → Prop) (hm : P.follows .mixedOrders = true)
    (h : wpAnyN P .any l.toArray Q D S l.length (List.replicate l.length false).toArray a w.drew) : (Code.region id l.toArray true).wp P Q a w :=
  drawn D S hm (by simpa using h)
end

end Go.Proofs.YtehbjhocgnfpmaaDoor
/- The types of this translation: which take one cell, how many the others take, what a slice's elements are. -/
namespace Go.Proofs.YtehbjhocgnfpmaaDoor
def oneTs : List Nat := [1, 2, 3, 4, 5, 6, 9, 10, 11, 12, 15, 16, 17, 20, 21, 22, 23, 24, 25, 27, 28, 34, 36, 37, 39, 40, 41, 43, 44, 46, 47, 49, 50, 53, 54, 55, 56, 57, 58, 59, 61, 62, 63, 64, 65, 66, 67, 70, 71, 72, 74, 75, 76, 79, 80, 81, 82, 83, 84, 85, 87, 88, 89, 93, 95, 96, 97, 100, 102, 103, 105, 106, 107, 108, 109, 113, 114, 116, 117, 118, 122, 123, 126, 127, 128, 129, 130, 131, 134, 135, 136, 137, 138, 141, 142, 143, 145, 146, 147, 148, 149, 150, 151, 152, 153, 155, 157, 158, 159, 160, 161, 162, 163, 164, 165, 166, 167, 169, 170, 171, 173, 178, 179, 180, 181, 182, 188, 189, 190, 191, 192, 193, 196, 197]
def rowTs : List (Nat × Nat) := [(7, 4), (8, 4), (13, 2), (14, 2), (18, 1), (19, 1), (29, 16), (30, 17), (31, 17), (32, 34), (33, 34), (51, 64), (52, 64), (68, 3), (69, 3), (77, 3), (78, 3), (90, 3), (91, 3), (98, 2), (99, 2), (110, 2), (111, 2), (119, 2), (120, 2), (124, 2), (125, 2), (132, 2), (133, 2), (139, 2), (140, 2), (154, 2), (174, 256), (175, 2), (176, 2), (177, 32), (183, 4), (184, 4), (194, 11), (195, 11)]
theorem one_all : (oneTs.all fun t => decide ((Tryd.prog.underlying t).map TypeDesc.isRow = some false) && decide ((Tryd.prog.info? t).map (·.size) = some 1)) = true := by kernel_rfl
theorem row_all : (rowTs.all fun x => decide ((Tryd.prog.underlying x.1).map TypeDesc.isRow = some true) && decide ((Tryd.prog.info? x.1).map (·.size) = some x.2)) = true := by kernel_rfl
theorem one_of {t : TypeId} (h : oneTs.contains t = true) : One Tryd.prog t := by
  have h1 := List.all_eq_true.1 one_all t (by simpa using h)
  simp only [Bool.and_eq_true, decide_eq_true_eq] at h1
  exact h1
theorem row_of {t n : Nat} (h : rowTs.contains (t, n) = true) : RowN Tryd.prog t n := by
  have h1 := List.all_eq_true.1 row_all (t, n) (by simpa using h)
  simp only [Bool.and_eq_true, decide_eq_true_eq] at h1
  exact h1
theorem za52 (w : World) : (zeroValue 52).run Tryd.prog w = .ok (.agg (iv (List.replicate 64 0))) w := Tryd.zeroValue52 w
theorem el22 : ElemT Tryd.prog 22 52 64 512 := ElemT.mk' (.agg #[.int .i64 0, .int .i64 0, .int .i64 0, .int .i64 0, .int .i64 0, .int .i64 0, .int .i64 0, .int .i64 0, .int .i64 0, .int .i64 0, .int .i64 0, .int .i64 0, .int .i64 0, .int .i64 0, .int .i64 0, .int .i64 0, .int .i64 0, .int .i64 0, .int .i64 0, .int .i64 0, .int .i64 0, .int .i64 0, .int .i64 0, .int .i64 0, .int .i64 0, .int .i64 0, .int .i64 0, .int .i64 0, .int .i64 0, .int .i64 0, .int .i64 0, .int .i64 0, .int .i64 0, .int .i64 0, .int .i64 0, .int .i64 0, .int .i64 0, .int .i64 0, .int .i64 0, .int .i64 0, .int .i64 0, .int .i64 0, .int .i64 0, .int .i64 0, .int .i64 0, .int .i64 0, .int .i64 0, .int .i64 0, .int .i64 0, .int .i64 0, .int .i64 0, .int .i64 0, .int .i64 0, .int .i64 0, .int .i64 0, .int .i64 0, .int .i64 0, .int .i64 0, .int .i64 0, .int .i64 0, .int .i64 0, .int .i64 0, .int .i64 0, .int .i64 0]) Tryd.underlying22 (by kernel_rfl) rfl (by decide)
theorem el24 : ElemT Tryd.prog 24 3 1 8 := ElemT.mk' (.int .i64 0) Tryd.underlying24 (by kernel_rfl) rfl (by decide)
theorem el34 : ElemT Tryd.prog 34 5 1 1 := ElemT.mk' (.int .u8 0) Tryd.underlying34 (by kernel_rfl) rfl (by decide)
theorem el37 : ElemT Tryd.prog 37 34 1 24 := ElemT.mk' (.slice none 0 0) Tryd.underlying37 (by kernel_rfl) rfl (by decide)
theorem el85 : ElemT Tryd.prog 85 91 3 24 := ElemT.mk' (.agg #[.int .i64 0, .int .i64 0, .int .i64 0]) Tryd.underlying85 (by kernel_rfl) rfl (by decide)
theorem el100 : ElemT Tryd.prog 100 69 3 24 := ElemT.mk' (.agg #[.int .i64 0, .int .i64 0, .int .i64 0]) Tryd.underlying100 (by kernel_rfl) rfl (by decide)
theorem el106 : ElemT Tryd.prog 106 31 17 152 := ElemT.mk' (.agg #[.int .i64 0, .int .i64 0, .int .i64 0, .int .i64 0, .int .i64 0, .int .i64 0, .int .i64 0, .int .i64 0, .int .i64 0, .int .i64 0, .int .i64 0, .int .i64 0, .int .i64 0, .int .i64 0, .int .i64 0, .int .i64 0, .slice none 0 0]) Tryd.underlying106 (by kernel_rfl) rfl (by decide)
theorem el108 : ElemT Tryd.prog 108 111 2 16 := ElemT.mk' (.agg #[.int .i64 0, .int .i64 0]) Tryd.underlying108 (by kernel_rfl) rfl (by decide)
theorem el134 : ElemT Tryd.prog 134 133 2 32 := ElemT.mk' (.agg #[.int .i64 0, .slice none 0 0]) Tryd.underlying134 (by kernel_rfl) rfl (by decide)
theorem el160 : ElemT Tryd.prog 160 24 1 24 := ElemT.mk' (.slice none 0 0) Tryd.underlying160 (by kernel_rfl) rfl (by decide)

end Go.Proofs.YtehbjhocgnfpmaaDoor
/- The operations that only compute, each by a law of its own: no simp, nothing of the context is used but by omega. -/
namespace Go.Proofs.YtehbjhocgnfpmaaDoor
open Go.RowKit
set_option linter.unusedVariables false
/-- The operation op, at the frame a, gives v, and leaves the world alone. -/
def Val (P : Program) (op : Op) (ty : TypeId) (a : Act) (v : Value) : Prop :=
  ∀ (d : Option Tmp) (pos : String) (af : Array Edge) (g : Option (Nat × Bool)) (w : World), (execOp a.eval ⟨d, op, ty, pos, af, g⟩).run P w = .ok (.value v) w
section
variable {P : Program} {ops : Array Oper} {Q : Exit → Act → World → Prop} {rest : List Oper} {a : Act} {w : World} {d : Option Tmp} {op : Op} {ty : TypeId} {pos : String} {af : Array Edge} {g : Option (Nat × Bool)}
theorem wp_const (v : Value) (K : Act → World → Prop) (h : K (a.put d v) w) : (Oper.mk d (.move (.const v)) ty pos af g).wp P a w K Q := h
theorem wplV (v : Value) (hv : Val P op ty a v) (hw : Region.wanted ⟨d, op, ty, pos, af, g⟩ (yielded ops a.tmps) = true) (h : (Oper.mk d (.move (.const v)) ty pos af g).wp P a w (wpList P ops Q rest) Q) : wpList P ops Q (⟨d, op, ty, pos, af, g⟩ :: rest) a w := by
  refine wpl hw ?_
  unfold Oper.wp
  rw [hv d pos af g w]
  exact h
/-- A Bool that decides of what follows: both ways. -/
theorem wplB (b : Bool) (hv : Val P op ty a (.bool b)) (hw : Region.wanted ⟨d, op, ty, pos, af, g⟩ (yielded ops a.tmps) = true) (ht : b = true → (Oper.mk d (.move (.const (.bool true))) ty pos af g).wp P a w (wpList P ops Q rest) Q)
    (hf : b = false → (Oper.mk d (.move (.const (.bool false))) ty pos af g).wp P a w (wpList P ops Q rest) Q) : wpList P ops Q (⟨d, op, ty, pos, af, g⟩ :: rest) a w := by
  cases b
  · exact wplV _ hv hw (hf rfl)
  · exact wplV _ hv hw (ht rfl)
theorem wplD (p : Prop) [Decidable p] (hv : Val P op ty a (.bool (decide p))) (hw : Region.wanted ⟨d, op, ty, pos, af, g⟩ (yielded ops a.tmps) = true) (ht : p → (Oper.mk d (.move (.const (.bool true))) ty pos af g).wp P a w (wpList P ops Q rest) Q)
    (hf : ¬ p → (Oper.mk d (.move (.const (.bool false))) ty pos af g).wp P a w (wpList P ops Q rest) Q) : wpList P ops Q (⟨d, op, ty, pos, af, g⟩ :: rest) a w :=
  wplB _ hv hw (fun h => ht (of_decide_eq_true h)) (fun h => hf (of_decide_eq_false h))
theorem put_move {d : Tmp} {v : Value} (h : (Oper.mk (some d) (.move (.const v)) 0 "" #[] none).wp P a w (wpList P ops Q rest) Q) : wpList P ops Q rest (a.put (some d) v) w := h
theorem drawn_move {md : Region.Mode} {D : List Nat} {S : World → Prop} {fuel : Nat} {listed : Array Bool} {d : Tmp} {v : Value} (h : (Oper.mk (some d) (.move (.const v)) 0 "" #[] none).wp P a w (wpAnyN P md ops Q D S fuel listed) Q) : wpAnyN P md ops Q D S fuel listed (a.put (some d) v) w := h
theorem wplPickT {c x y : Operand} (hc : a.eval c = .bool true) (hw : Region.wanted ⟨d, .pick c x y, ty, pos, af, g⟩ (yielded ops a.tmps) = true) (h : (Oper.mk d (.move x) ty pos af g).wp P a w (wpList P ops Q rest) Q) : wpList P ops Q (⟨d, .pick c x y, ty, pos, af, g⟩ :: rest) a w := by
  refine wpl hw ?_
  unfold Oper.wp execOp at *
  simp only [hc, asBool, Sem.run_bind, Sem.run_pure, Result.andThen_ok, if_true] at *
  exact h
theorem wplPickF {c x y : Operand} (hc : a.eval c = .bool false) (hw : Region.wanted ⟨d, .pick c x y, ty, pos, af, g⟩ (yielded ops a.tmps) = true) (h : (Oper.mk d (.move y) ty pos af g).wp P a w (wpList P ops Q rest) Q) : wpList P ops Q (⟨d, .pick c x y, ty, pos, af, g⟩ :: rest) a w := by
  refine wpl hw ?_
  unfold Oper.wp execOp at *
  simp only [hc, asBool, Sem.run_bind, Sem.run_pure, Result.andThen_ok, Bool.false_eq_true, if_false] at *
  exact h
end
/-- An integer that is a natural number. -/
def IsN (z : Int) (j : Nat) : Prop := z = (j : Int)
theorem IsN.cast {j : Nat} : IsN (j : Int) j := rfl
theorem IsN.add {x y : Int} {i j : Nat} (h : IsN x i) (k : IsN y j) : IsN (x + y) (i + j) := by unfold IsN at *; omega
theorem IsN.mul {x y : Int} {i j : Nat} (h : IsN x i) (k : IsN y j) : IsN (x * y) (i * j) := by unfold IsN at *; rw [h, k]; push_cast; rfl
theorem IsN.div {x y : Int} {i j : Nat} (h : IsN x i) (k : IsN y j) : IsN (x / y) (i / j) := by unfold IsN at *; rw [h, k]; push_cast; rfl
theorem IsN.mod {x y : Int} {i j : Nat} (h : IsN x i) (k : IsN y j) : IsN (x % y) (i % j) := by unfold IsN at *; rw [h, k]; push_cast; rfl
theorem IsN.min {x y : Int} {i j : Nat} (h : IsN x i) (k : IsN y j) : IsN (Min.min x y) (Min.min i j) := by unfold IsN at *; omega
theorem IsN.max {x y : Int} {i j : Nat} (h : IsN x i) (k : IsN y j) : IsN (Max.max x y) (Max.max i j) := by unfold IsN at *; omega
/-- The same, found by its form. -/
class IsNc (z : Int) (j : outParam Nat) : Prop where
  out : IsN z j
instance IsNc.cast {j : Nat} : IsNc (j : Int) j := ⟨rfl⟩
instance IsNc.l0 : IsNc 0 0 := ⟨rfl⟩
instance IsNc.l1 : IsNc 1 1 := ⟨rfl⟩
instance IsNc.l4 : IsNc 4 4 := ⟨rfl⟩
instance IsNc.l7 : IsNc 7 7 := ⟨rfl⟩
instance IsNc.l8 : IsNc 8 8 := ⟨rfl⟩
instance IsNc.l256 : IsNc 256 256 := ⟨rfl⟩
instance IsNc.add {x y : Int} {i j : Nat} [h : IsNc x i] [k : IsNc y j] : IsNc (x + y) (i + j) := ⟨h.out.add k.out⟩
instance IsNc.div {x y : Int} {i j : Nat} [h : IsNc x i] [k : IsNc y j] : IsNc (x / y) (i / j) := ⟨h.out.div k.out⟩
instance IsNc.mod {x y : Int} {i j : Nat} [h : IsNc x i] [k : IsNc y j] : IsNc (x % y) (i % j) := ⟨h.out.mod k.out⟩
theorem IsN.auto {z : Int} {j : Nat} [h : IsNc z j] : IsN z j := h.out
theorem IsN.sub {x y : Int} {i j : Nat} (h : IsN x i) (k : IsN y j) (l : j ≤ i) : IsN (x - y) (i - j) := by unfold IsN at *; omega
theorem IsN.toNat {x : Int} (h : 0 ≤ x) : IsN x x.toNat := by unfold IsN; omega
section
variable {P : Program} {a : Act} {x y z : Operand} {t u ty : TypeId} {m n : Int} {k : IntKind}
/-- Another spelling. -/
theorem V.as {op : Op} {m' : Int} (h : Val P op ty a (.int k m)) (e : m = m') : Val P op ty a (.int k m') := e ▸ h
theorem V.add (hx : a.eval x = .int k m) (hy : a.eval y = .int k n) : Val P (.binOp .add t x y u) ty a (.int k (k.wrap (m + n))) := fun d pos af g w => by
  simp only [execOp, hx, hy, binOp_add, Op.intArith, eqGuard]; rfl
theorem V.sub (hx : a.eval x = .int k m) (hy : a.eval y = .int k n) : Val P (.binOp .sub t x y u) ty a (.int k (k.wrap (m - n))) := fun d pos af g w => by
  simp only [execOp, hx, hy, binOp_sub, Op.intArith, eqGuard]; rfl
theorem V.mul (hx : a.eval x = .int k m) (hy : a.eval y = .int k n) : Val P (.binOp .mul t x y u) ty a (.int k (k.wrap (m * n))) := fun d pos af g w => by
  simp only [execOp, hx, hy, binOp_mul, Op.intArith, eqGuard]; rfl
theorem V.addI (hx : a.eval x = .int .i64 m) (hy : a.eval y = .int .i64 n) (h : -9223372036854775808 ≤ m + n ∧ m + n ≤ 9223372036854775807) : Val P (.binOp .add t x y u) ty a (.int .i64 (m + n)) := by
  have := V.add (P := P) (t := t) (u := u) (ty := ty) hx hy; rwa [IntWalk.i64_in _ h] at this
theorem V.subR (hk : k ≠ .i64) (hx : a.eval x = .int k m) (hy : a.eval y = .int k n) : Val P (.binOp .sub t x y u) ty a (.int k (k.wrap (m - n))) := V.sub hx hy
theorem V.subI (hx : a.eval x = .int .i64 m) (hy : a.eval y = .int .i64 n) (h : -9223372036854775808 ≤ m - n ∧ m - n ≤ 9223372036854775807) : Val P (.binOp .sub t x y u) ty a (.int .i64 (m - n)) := by
  have := V.sub (P := P) (t := t) (u := u) (ty := ty) hx hy; rwa [IntWalk.i64_in _ h] at this
theorem V.mulI (hx : a.eval x = .int .i64 m) (hy : a.eval y = .int .i64 n) (h : -9223372036854775808 ≤ m * n ∧ m * n ≤ 9223372036854775807) : Val P (.binOp .mul t x y u) ty a (.int .i64 (m * n)) := by
  have := V.mul (P := P) (t := t) (u := u) (ty := ty) hx hy; rwa [IntWalk.i64_in _ h] at this
theorem V.neg (hx : a.eval x = .int .i64 n) (h : -9223372036854775807 ≤ n ∧ n ≤ 9223372036854775807) : Val P (.unOp .neg t x) ty a (.int .i64 (-n)) := fun d pos af g w => by
  have e : Op.unary .neg (.int .i64 n) = pure (.int .i64 (IntKind.i64.wrap (0 - n))) := rfl
  simp only [execOp, hx, e, Int.zero_sub, IntWalk.i64_in (-n) (by omega)]; rfl
theorem V.quo (hx : a.eval x = .int .i64 m) (hy : a.eval y = .int .i64 n) (h : 0 ≤ m ∧ m ≤ 9223372036854775807) (h2 : 0 < n) : Val P (.binOp .quo t x y u) ty a (.int .i64 (m / n)) := fun d pos af g w => by
  have e1 : m.tdiv n = m / n := Int.tdiv_eq_ediv_of_nonneg h.1
  have e2 : 0 ≤ m / n := Int.ediv_nonneg h.1 (by omega)
  have e3 : m / n ≤ m := Int.ediv_le_self n h.1
  have hn : n ≠ 0 := by omega
  simp only [execOp, hx, hy, binOp_quo, Op.intDiv, eqGuard, if_neg hn, e1, IntWalk.i64_in (m / n) (by omega)]; rfl
theorem V.rem (hx : a.eval x = .int k m) (hy : a.eval y = .int k n) (h : 0 ≤ m) (h2 : 0 < n) : Val P (.binOp .rem t x y u) ty a (.int k (m % n)) := fun d pos af g w => by
  have hn : n ≠ 0 := by omega
  simp only [execOp, hx, hy, binOp_rem, Op.intDiv, eqGuard, if_neg hn, Int.tmod_eq_emod_of_nonneg h]; rfl
theorem V.shl {yk : IntKind} {j : Nat} (hx : a.eval x = .int k m) (hy : a.eval y = .int yk n) (hj : IsN n j) (h : j < 64) (hk : k.bits = 64) : Val P (.binOp .shl t x y u) ty a (.int k (k.wrap (m * 2 ^ j))) := fun d pos af g w => by
  unfold IsN at hj
  have h0 : ¬ n < 0 := by omega
  have hm : Min.min n.toNat k.bits = j := by omega
  simp only [execOp, hx, hy, binOp_shl, Op.shift, eqGuard, if_neg h0, hm]; rfl
theorem V.shlI {yk : IntKind} {j : Nat} (hx : a.eval x = .int .i64 m) (hy : a.eval y = .int yk n) (hj : IsN n j) (h : j < 64) (h1 : -9223372036854775808 ≤ m * 2 ^ j ∧ m * 2 ^ j ≤ 9223372036854775807) : Val P (.binOp .shl t x y u) ty a (.int .i64 (m * 2 ^ j)) := by
  have := V.shl (P := P) (t := t) (u := u) (ty := ty) hx hy hj h rfl; rwa [IntWalk.i64_in _ h1] at this
theorem V.shl1 {yk : IntKind} {j : Nat} (hx : a.eval x = .int .i64 1) (hy : a.eval y = .int yk n) (hj : IsN n j) (h : j < 63) : Val P (.binOp .shl t x y u) ty a (.int .i64 (2 ^ j)) := by
  have e : (2 : Int) ^ j ≤ 4611686018427387904 := by
    have := Nat.pow_le_pow_right (n := 2) (by omega) (show j ≤ 62 by omega)
    have h2 : (2 : Int) ^ j = ((2 ^ j : Nat) : Int) := by push_cast; rfl
    omega
  have e0 : (0 : Int) ≤ 2 ^ j := Int.pow_nonneg (by omega)
  have := V.shl (P := P) (t := t) (u := u) (ty := ty) hx hy hj (by omega) rfl
  rwa [Int.one_mul, IntWalk.i64_in _ (by omega)] at this
theorem V.shr {yk : IntKind} {j : Nat} (hx : a.eval x = .int k m) (hy : a.eval y = .int yk n) (hj : IsN n j) (h : j < 64) (hk : k.bits = 64) : Val P (.binOp .shr t x y u) ty a (.int k (m / 2 ^ j)) := fun d pos af g w => by
  unfold IsN at hj
  have e : m.fdiv (2 ^ j) = m / 2 ^ j := Int.fdiv_eq_ediv_of_nonneg _ (Int.pow_nonneg (by omega))
  have h0 : ¬ n < 0 := by omega
  have hm : Min.min n.toNat k.bits = j := by omega
  simp only [execOp, hx, hy, binOp_shr, Op.shift, eqGuard, if_neg h0, hm, e]; rfl
theorem V.and (hx : a.eval x = .int k m) (hy : a.eval y = .int k n) : Val P (.binOp .and t x y u) ty a (.int k (bits .and k m n)) := fun d pos af g w => by
  simp only [execOp, hx, hy, binOp_and, intBits_and, eqGuard]; rfl
theorem V.or (hx : a.eval x = .int k m) (hy : a.eval y = .int k n) : Val P (.binOp .or t x y u) ty a (.int k (bits .or k m n)) := fun d pos af g w => by
  simp only [execOp, hx, hy, binOp_or, intBits_or, eqGuard]; rfl
theorem V.eql (hx : a.eval x = .int k m) (hy : a.eval y = .int k n) : Val P (.binOp .eql t x y u) ty a (.bool (decide (m = n))) := fun d pos af g w => by
  simp only [execOp, hx, hy, binOp_eql, eqGuard_at_int]; rfl
theorem V.neq (hx : a.eval x = .int k m) (hy : a.eval y = .int k n) : Val P (.binOp .neq t x y u) ty a (.bool (decide (m ≠ n))) := fun d pos af g w => by
  simp only [execOp, hx, hy, binOp_neq, eqGuard_at_int, ne_eq, decide_not]; rfl
theorem V.lss (hx : a.eval x = .int k m) (hy : a.eval y = .int k n) : Val P (.binOp .lss t x y u) ty a (.bool (decide (m < n))) := fun d pos af g w => by
  simp only [execOp, hx, hy, binOp_lss, eqGuard]; rfl
theorem V.leq (hx : a.eval x = .int k m) (hy : a.eval y = .int k n) : Val P (.binOp .leq t x y u) ty a (.bool (decide (m ≤ n))) := fun d pos af g w => by
  simp only [execOp, hx, hy, binOp_leq, eqGuard]; rfl
theorem V.gtr (hx : a.eval x = .int k m) (hy : a.eval y = .int k n) : Val P (.binOp .gtr t x y u) ty a (.bool (decide (n < m))) := fun d pos af g w => by
  simp only [execOp, hx, hy, binOp_gtr, eqGuard]; rfl
theorem V.geq (hx : a.eval x = .int k m) (hy : a.eval y = .int k n) : Val P (.binOp .geq t x y u) ty a (.bool (decide (n ≤ m))) := fun d pos af g w => by
  simp only [execOp, hx, hy, binOp_geq, eqGuard]; rfl
theorem V.not {b : Bool} (hx : a.eval x = .bool b) : Val P (.unOp .not t x) ty a (.bool (!b)) := fun d pos af g w => by
  simp only [execOp, hx, Op.unary]; rfl
theorem V.notD {p : Prop} [Decidable p] (hx : a.eval x = .bool (decide p)) : Val P (.unOp .not t x) ty a (.bool (decide (¬ p))) := by
  rw [decide_not]; exact V.not hx
theorem V.convI {k' : IntKind} (hs : (P.underlying t).isSome = true) (hd : P.underlying u = some (.int k')) (hx : a.eval x = .int k m) (h : k'.wrap m = m) : Val P (.convert t u x) ty a (.int k' m) := fun d pos af g w => by
  have e : P.intKind u = k' := by simp [Program.intKind, hd]
  have e2 := run_convert_int (P := P) w t u k m hs (by rw [e]; exact hd)
  rw [e, h] at e2
  simp only [execOp, hx, Sem.run_bind, e2, Result.andThen_ok, Sem.run_pure]
theorem V.extract {vs : List Value} {i : Nat} {v : Value} (hx : a.eval x = .tuple vs.toArray) (hv : vs[i]? = some v) : Val P (.extract x i) ty a v := fun d pos af g w => by
  have e : (vs.toArray)[i]? = some v := by simpa using hv
  simp only [execOp, hx, Instr.extract, e]; rfl
theorem V.nilCheck {p : Addr} (hx : a.eval x = .pointer (some p)) : Val P (.nilCheck x) ty a (.pointer (some p)) := fun d pos af g w => by
  simp only [execOp, hx]; rfl
theorem V.len {ad : Option Addr} {n c : Nat} {e : TypeId} (ht : P.underlying t = some (.slice e)) (hx : a.eval x = .slice ad n c) : Val P (.call { callee := .builtin .len, args := #[x], argTypes := #[t] }) ty a (.int .i64 n) := fun d pos af g w => by
  have e : P.elem t = e := by simp [Program.elem, ht]
  have e2 := run_len_slice (P := P) w t ty ad n c (by rw [e]; exact ht)
  simp only [execOp, resolve, invoke, builtin, Sem.run_bind, Sem.run_pure, Result.andThen_ok, List.map_toArray, List.map_cons, List.map_nil, hx, e2]
  rfl
theorem V.max {ts : Array TypeId} (hx : a.eval x = .int k m) (hy : a.eval y = .int k n) : Val P (.call { callee := .builtin .max, args := #[x, y], argTypes := ts }) ty a (.int k (Max.max m n)) := fun d pos af g w => by
  simp only [execOp, resolve, invoke, builtin, Sem.run_bind, Sem.run_pure, Result.andThen_ok, List.map_toArray, List.map_cons, List.map_nil, hx, hy, run_max_int2']
theorem V.min {ts : Array TypeId} (hx : a.eval x = .int k m) (hy : a.eval y = .int k n) : Val P (.call { callee := .builtin .min, args := #[x, y], argTypes := ts }) ty a (.int k (Min.min m n)) := fun d pos af g w => by
  simp only [execOp, resolve, invoke, builtin, Sem.run_bind, Sem.run_pure, Result.andThen_ok, List.map_toArray, List.map_cons, List.map_nil, hx, hy, run_min_int2']
/-- The element's place. -/
theorem V.indexSl {b off n c j s js q : Nat} {e : TypeId} {i : Int} (ht : P.underlying t = some (.slice e)) (hs : (P.info? e).map (·.size) = some s) (hx : a.eval x = .slice (some ⟨b, off, none⟩) n c) (hy : a.eval y = .int k i) (hj : IsN i j) (hn : j < n) (hjs : j * s = js) (hq : off + js = q) :
    Val P (.indexAddr t x y) ty a (.pointer (some ⟨b, q, none⟩)) := fun d pos af g w => by
  unfold IsN at hj
  subst hjs
  have e0 : P.elem t = e := by simp [Program.elem, ht]
  have e2 := run_indexAt_slice (P := P) w t ⟨b, off, none⟩ n c k i (by rw [e0]; exact ht)
  rw [if_pos (by omega), e0, run_sizeOf' w hs, Result.andThen_ok, Addr.add_mid, show i.toNat = j by omega, hq] at e2
  simp only [execOp, hx, hy, Sem.run_bind, e2, Result.andThen_ok, Sem.run_pure]
theorem V.indexAr {b off n j s js q : Nat} {e : TypeId} {i : Int} (ht : P.underlying t = some (.array n e)) (hs : (P.info? e).map (·.size) = some s) (hx : a.eval x = .pointer (some ⟨b, off, none⟩)) (hy : a.eval y = .int k i) (hj : IsN i j) (hn : j < n) (hjs : j * s = js) (hq : off + js = q) :
    Val P (.indexAddr t x y) ty a (.pointer (some ⟨b, q, none⟩)) := fun d pos af g w => by
  unfold IsN at hj
  subst hjs
  have e0 : P.elem t = e := by simp [Program.elem, ht]
  have e1 : P.arrayLen t = n := by simp [Program.arrayLen, ht]
  have e2 := run_indexAt_array (P := P) w t ⟨b, off, none⟩ k i (by rw [e0, e1]; exact ht)
  rw [e1, if_pos (by omega), e0, run_sizeOf' w hs, Result.andThen_ok, Addr.add_mid, show i.toNat = j by omega, hq] at e2
  simp only [execOp, hx, hy, Sem.run_bind, e2, Result.andThen_ok, Sem.run_pure]
/-- An element of an array of ints. -/
theorem V.indexIv {l : List Int} {n j : Nat} {e : TypeId} {i : Int} (ht : P.underlying t = some (.array n e)) (he : P.underlying e = some (.int .i64)) (hs : (P.info? e).map (·.size) = some 1) (hx : a.eval x = .agg (iv l)) (hy : a.eval y = .int k i) (hl : Len l n) (hj : IsN i j) (hn : j < n) :
    Val P (.index t x y) ty a (.int .i64 (nth l j)) := fun d pos af g w => by
  unfold IsN at hj
  have e0 : P.elem t = e := by simp [Program.elem, ht]
  have e1 : P.arrayLen t = n := by simp [Program.arrayLen, ht]
  have e3 : (isAgg e).run P w = .ok false w := by simp [isAgg, run_underlying he]
  have e2 := run_index_arr (P := P) w t (iv l) k i (by rw [e0, e1]; exact ht)
  rw [e1, if_pos (by omega), e0, run_sizeOf' w hs, Result.andThen_ok, show i.toNat = j by omega, Nat.mul_one, run_part, e3, Result.andThen_ok, iv_get l j (by rw [hl.out]; exact hn)] at e2
  simp only [execOp, hx, hy, Sem.run_bind, e2, Result.andThen_ok, Sem.run_pure, Bool.false_eq_true, if_false]
end
section
variable {P : Program} {ops : Array Oper} {Q : Exit → Act → World → Prop} {rest : List Oper} {a : Act} {W w : World} {rs : List Res} {d : Option Tmp} {x y : Operand} {t ty : TypeId} {pos : String} {af : Array Edge} {g : Option (Nat × Bool)} {k : IntKind}
/-- An element of a slice that came in: the cells at its place. -/
theorem wpl_indexW {ad : Option Addr} {n c j s : Nat} {cs : List Value} {e : TypeId} {i : Int} (hv : Sl W s (.slice ad n c) n cs) (ht : P.underlying t = some (.slice e)) (hs : (P.info? e).map (·.size) = some s) (hx : a.eval x = .slice ad n c) (hy : a.eval y = .int k i) (hj : IsN i j) (hn : j < n)
    (hw : Region.wanted ⟨d, .indexAddr t x y, ty, pos, af, g⟩ (yielded ops a.tmps) = true)
    (h : ∀ b o, W.rangeAt b o ((cs.drop (j * s)).take s) → (Oper.mk d (.move (.const (.pointer (some ⟨b, o, none⟩)))) ty pos af g).wp P a w (wpList P ops Q rest) Q) : wpList P ops Q (⟨d, .indexAddr t x y, ty, pos, af, g⟩ :: rest) a w := by
  obtain ⟨hl, a', c', e1, _, _, hor⟩ := hv
  cases e1
  rcases hor with h0 | ⟨b, off, rfl, hc⟩
  · omega
  · refine wplV _ (V.indexSl (q := off + j * s) ht hs hx hy hj hn rfl rfl) hw (h b _ fun m v hv => ?_)
    rw [List.getElem?_take] at hv
    split at hv
    · rename_i hm
      rw [List.getElem?_drop] at hv
      have hjs : j * s + s ≤ n * s := by have := Nat.mul_le_mul_right s hn; rw [Nat.succ_mul] at this; exact this
      rw [Nat.add_assoc, hc (j * s + m) (by omega), hv]
    · cases hv
theorem wpl_indexI {ad : Option Addr} {n c j : Nat} {l : List Int} {e : TypeId} {i : Int} (hv : Sl W 1 (.slice ad n c) n (l.map (Value.int .i64))) (ht : P.underlying t = some (.slice e)) (hs : (P.info? e).map (·.size) = some 1) (hx : a.eval x = .slice ad n c) (hy : a.eval y = .int k i) (hj : IsN i j) (hn : j < n)
    (hw : Region.wanted ⟨d, .indexAddr t x y, ty, pos, af, g⟩ (yielded ops a.tmps) = true)
    (h : ∀ b o, W.cell? ⟨b, o, none⟩ = some (.int .i64 (nth l j)) → (Oper.mk d (.move (.const (.pointer (some ⟨b, o, none⟩)))) ty pos af g).wp P a w (wpList P ops Q rest) Q) : wpList P ops Q (⟨d, .indexAddr t x y, ty, pos, af, g⟩ :: rest) a w :=
  wpl_indexW hv ht hs hx hy hj hn hw fun b o hr => h b o (by
    have hl : l.length = n := by have := hv.1; simpa using this
    have := hr 0 (.int .i64 (nth l j)) (by simp [nth, List.getD, List.getElem?_drop, hl, hn])
    simpa using this)
end
/-- A field of a struct. -/
structure FieldOf (P : Program) (s : TypeId) (f : Nat) (fo : Nat) (ft : TypeId) : Prop where
  ex : ∃ fs fl, P.underlying s = some (.struct fs) ∧ fs[f]? = some fl ∧ fl.offset = fo ∧ fl.type = ft
  sz : ∃ n, (P.info? ft).map (·.size) = some n ∧ n ≠ 0
section
variable {P : Program} {a : Act} {x : Operand} {t ft ty : TypeId} {f fo : Nat}
theorem FieldOf.mk' (fs : Array Field) (fl : Field) (n : Nat) (h1 : P.underlying t = some (.struct fs)) (h2 : fs[f]? = some fl) (h3 : fl.offset = fo) (h4 : fl.type = ft) (h5 : (P.info? ft).map (·.size) = some n) (h6 : n ≠ 0) : FieldOf P t f fo ft :=
  ⟨⟨fs, fl, h1, h2, h3, h4⟩, ⟨n, h5, h6⟩⟩
theorem V.fieldAddr {b off q : Nat} (hf : FieldOf P t f fo ft) (hx : a.eval x = .pointer (some ⟨b, off, none⟩)) (hq : off + fo = q) : Val P (.fieldAddr t x f) ty a (.pointer (some ⟨b, q, none⟩)) := fun d pos af g w => by
  obtain ⟨⟨fs, fl, h1, h2, rfl, rfl⟩, n, h3, h4⟩ := hf
  simp only [execOp, hx, Instr.fieldAt, Instr.sureAddr, Sem.run_bind, run_underlying h1, Result.andThen_ok, h2, fieldPlace, run_sizeOf' w h3, Sem.run_pure]
  rw [if_neg h4]
  simp only [Sem.run_pure, Result.andThen_ok, Addr.add_mid, hq]
end
end Go.Proofs.YtehbjhocgnfpmaaDoor

/- Short words for what the walks say often. -/
namespace Go.Proofs.YtehbjhocgnfpmaaDoor
open Go.RowKit
theorem pl9 {r : Res} {rs rs' : List Res} (h : Pull r rs rs' := by (repeat (first | with_reducible exact Pull.head | apply Pull.tail))) : Pull r rs rs' := h
theorem sb9 {xs rs : List Res} (h : Sub xs rs := by (repeat (first | exact Sub.nil | with_reducible exact Sub.refl | (apply Sub.cons; (case p => (repeat (first | with_reducible exact Pull.head | apply Pull.tail)))) | apply Sub.skip))) : Sub xs rs := h
theorem isn9 {z : Int} {j : Nat} (h : IsN z j := by (repeat (first | exact IsN.auto | with_reducible apply IsN.add | with_reducible apply IsN.sub | with_reducible apply IsN.mul | with_reducible apply IsN.div | with_reducible apply IsN.mod | with_reducible apply IsN.min | with_reducible apply IsN.max | (with_reducible show (_ : Nat) ≤ _; omega) | exact IsN.toNat (by omega)))) : IsN z j := h
theorem isv9 {x v : Value} (h : IsV x v := by (first | exact IsV.int rfl | exact IsV.bool rfl | exact IsV.slice rfl | exact IsV.pointer rfl | exact IsV.string rfl | exact IsV.map rfl | exact IsV.func rfl)) : IsV x v := h
theorem al9 {o : Oper} {i : Nat} {l : List Oper} (h : AtL o i l := by (repeat (first | with_reducible exact AtL.head | apply AtL.tail))) : AtL o i l := h
theorem hq9 {p : Prop} (h : p := by exact fun _ _ _ _ h => h) : p := h
theorem fo9 {p : Prop} (h : False := by omega) : p := h.elim
theorem kr9 {α : Type _} {a b : α} (h : a = b := by kernel_rfl) : a = b := h
theorem nq9 {a b : Nat} (h : a = b := by first | with_reducible exact Nat.zero_add _ | with_reducible exact Nat.add_zero _ | exact rfl) : a = b := h
section
variable {P : Program} {ops : Array Oper} {Q : Exit → Act → World → Prop} {rest : List Oper} {a : Act} {w : World} {d : Option Tmp} {op : Op} {ty : TypeId} {pos : String} {af : Array Edge} {g : Option (Nat × Bool)} {x : Operand}
theorem gt9 (d : Option Tmp) (op : Op) (h : wpList P ops Q (⟨d, op, ty, pos, af, g⟩ :: rest) a w) : wpList P ops Q (⟨d, op, ty, pos, af, g⟩ :: rest) a w := h
theorem mv9 {x : Operand} (h : wpList P ops Q (⟨d, .move x, ty, pos, af, g⟩ :: rest) a w) : wpList P ops Q (⟨d, .move x, ty, pos, af, g⟩ :: rest) a w := h
theorem as9 {x : Operand} (h : wpList P ops Q (⟨d, .assign x, ty, pos, af, g⟩ :: rest) a w) : wpList P ops Q (⟨d, .assign x, ty, pos, af, g⟩ :: rest) a w := h
theorem wl9 {o : Oper} (h : o.wp P a w (wpList P ops Q rest) Q) (hw : Region.wanted o (yielded ops a.tmps) = true := by kernel_rfl) : wpList P ops Q (o :: rest) a w := wpl hw h
theorem gs9 (n : Nat) (h : wpList P ops Q (⟨some n, op, ty, pos, af, g⟩ :: rest) a w) : wpList P ops Q (⟨some n, op, ty, pos, af, g⟩ :: rest) a w := h
theorem ga9 {o : Oper} (h : wpList P ops Q (o :: rest) a w) : wpList P ops Q (o :: rest) a w := h
theorem wvv9 {v : Value} (hv : Val P op ty a v) (h : (Oper.mk d (.move (.const v)) ty pos af g).wp P a w (wpList P ops Q rest) Q) (hw : Region.wanted ⟨d, op, ty, pos, af, g⟩ (yielded ops a.tmps) = true := by kernel_rfl) : wpList P ops Q (⟨d, op, ty, pos, af, g⟩ :: rest) a w := wplV v hv hw h
end
structure Wq9 (p : Prop) : Prop where
 out : p
theorem y91 {p q : Prop} (k : q) (h : Wq9 q → p := by intro z99; ((first | (with_reducible refine mv9 ?_) | (with_reducible refine as9 ?_)); (first | go_big_want | go_step); go_step); go_step; exact z99.out) : p := h ⟨k⟩
theorem y92 {p q : Prop} (k : q) (h : Wq9 q → p := by intro z99; ((with_reducible refine as9 ?_); (first | go_big_want | go_step); go_step); go_step; exact z99.out) : p := h ⟨k⟩
theorem y93 {p q : Prop} (k : q) (h : Wq9 q → p := by intro z99; ((with_reducible refine gs9 10 ?_); (refine wvv9 (V.extract rfl rfl) ?_; go_step)); exact z99.out) : p := h ⟨k⟩
theorem y94 {p q : Prop} (k : q) (h : Wq9 q → p := by intro z99; ((with_reducible refine gs9 11 ?_); (refine wvv9 (V.extract rfl rfl) ?_; go_step)); exact z99.out) : p := h ⟨k⟩
theorem y95 {p q : Prop} (k : q) (h : Wq9 q → p := by intro z99; ((with_reducible refine gs9 11 ?_); (refine wvv9 (V.indexSl Tryd.underlying24 isz3 rfl rfl isn9 (by omega) (Nat.mul_one _) nq9) ?_; go_step)); exact z99.out) : p := h ⟨k⟩
theorem y96 {p q : Prop} (k : q) (h : Wq9 q → p := by intro z99; ((with_reducible refine gs9 11 ?_); (refine wvv9 (V.len Tryd.underlying34 rfl) ?_; go_step)); exact z99.out) : p := h ⟨k⟩
theorem y97 {p q : Prop} (k : q) (h : Wq9 q → p := by intro z99; ((with_reducible refine gs9 11 ?_); refine wplV (.func (.func 35) #[] #[.pointer (some ⟨g5, 0, none⟩), .pointer (some ⟨g6, 0, none⟩)]) (V.makeFunc rfl) kr9 ?_; go_step); exact z99.out) : p := h ⟨k⟩
theorem y98 {p q : Prop} (k : q) (h : Wq9 q → p := by intro z99; ((with_reducible refine gs9 11 ?_); refine wplV (.int .i64 ((y : Nat) : Int)) (V.as (V.indexIv Tryd.underlying29 Tryd.underlying3 isz3 rfl rfl hC IsN.cast (by omega)) HX.out) kr9 ?_; go_step); exact z99.out) : p := h ⟨k⟩
theorem y99 {p q : Prop} (k : q) (h : Wq9 q → p := by intro z99; ((with_reducible refine gs9 115 ?_); (refine wplV (.int _ (((m + 1 : Nat) : Int))) (V.as (V.addI rfl rfl (by omega)) (by omega)) rfl ?_; go_step)); exact z99.out) : p := h ⟨k⟩
theorem y910 {p q : Prop} (k : q) (h : Wq9 q → p := by intro z99; ((with_reducible refine gs9 116 ?_); (refine wplV (.int _ (((b + 1 : Nat) : Int))) (V.as (V.addI rfl rfl (by omega)) (by omega)) rfl ?_; go_step)); exact z99.out) : p := h ⟨k⟩
theorem y911 {p q : Prop} (k : q) (h : Wq9 q → p := by intro z99; ((with_reducible refine gs9 12 ?_); (refine wplV _ (V.indexIv Tryd.underlying52 Tryd.underlying3 isz3 rfl rfl (by (repeat (first | assumption | exact Len.rep | apply Len.set | ((with_reducible show Len (_ :: _) _); exact rfl)))) isn9 (by omega)) kr9 ?_; go_step)); exact z99.out) : p := h ⟨k⟩
theorem y912 {p q : Prop} (k : q) (h : Wq9 q → p := by intro z99; ((with_reducible refine gs9 12 ?_); (refine wvv9 (V.extract rfl rfl) ?_; go_step)); exact z99.out) : p := h ⟨k⟩
theorem y913 {p q : Prop} (k : q) (h : Wq9 q → p := by intro z99; ((with_reducible refine gs9 12 ?_); (refine wvv9 (V.lss rfl rfl) ?_; go_step)); exact z99.out) : p := h ⟨k⟩
theorem y914 {p q : Prop} (k : q) (h : Wq9 q → p := by intro z99; ((with_reducible refine gs9 124 ?_); (refine wvv9 (V.lss rfl rfl) ?_; go_step)); exact z99.out) : p := h ⟨k⟩
theorem y915 {p q : Prop} (k : q) (h : Wq9 q → p := by intro z99; ((with_reducible refine gs9 128 ?_); (refine wl9 ?_; apply wp_lookupS (enc := ik) hS 89 _ _ rfl _ rfl _ rfl Tryd.underlying89 (keyLaw_int Tryd.underlying3) (.int .i64 0) (fun w => Tryd.zeroValue3 w) _; (case hp => exact pl9); (case hf => with_reducible assumption); refine put_move ?_; go_step)); exact z99.out) : p := h ⟨k⟩
theorem y916 {p q : Prop} (k : q) (h : Wq9 q → p := by intro z99; ((with_reducible refine gs9 13 ?_); (refine wplV (.int _ (0)) (V.as (V.subI rfl rfl (by omega)) (by omega)) rfl ?_; go_step)); exact z99.out) : p := h ⟨k⟩
theorem y917 {p q : Prop} (k : q) (h : Wq9 q → p := by intro z99; ((with_reducible refine gs9 130 ?_); (refine wplV (.int _ (((q + 1 : Nat) : Int))) (V.as (V.addI rfl rfl (by omega)) (by omega)) rfl ?_; go_step)); exact z99.out) : p := h ⟨k⟩
theorem y918 {p q : Prop} (k : q) (h : Wq9 q → p := by intro z99; ((with_reducible refine gs9 131 ?_); (refine wplV (.int _ (((a + b : Nat) : Int))) (V.as (V.addI rfl rfl (by omega)) (by omega)) rfl ?_; go_step)); exact z99.out) : p := h ⟨k⟩
theorem y919 {p q : Prop} (k : q) (h : Wq9 q → p := by intro z99; ((with_reducible refine gs9 131 ?_); (refine wvv9 (V.eql rfl rfl) ?_; go_step)); exact z99.out) : p := h ⟨k⟩
theorem y920 {p q : Prop} (k : q) (h : Wq9 q → p := by intro z99; ((with_reducible refine gs9 132 ?_); (refine wvv9 (V.convI (by rw [Tryd.underlying3]; rfl) Tryd.underlying147 rfl (IntWalk.u64_in _ (by omega))) ?_; go_step)); exact z99.out) : p := h ⟨k⟩
theorem y921 {p q : Prop} (k : q) (h : Wq9 q → p := by intro z99; ((with_reducible refine gs9 133 ?_); (refine wplV (.int _ (((mid : Nat) : Int))) (V.as (V.shr rfl rfl isn9 (by omega) rfl) (by omega)) rfl ?_; go_step)); exact z99.out) : p := h ⟨k⟩
theorem y922 {p q : Prop} (k : q) (h : Wq9 q → p := by intro z99; ((with_reducible refine gs9 134 ?_); (refine wvv9 (V.convI (by rw [Tryd.underlying147]; rfl) Tryd.underlying3 rfl (IntWalk.i64_in _ (by omega))) ?_; go_step)); exact z99.out) : p := h ⟨k⟩
theorem y923 {p q : Prop} (k : q) (h : Wq9 q → p := by intro z99; ((with_reducible refine gs9 137 ?_); (refine wplV (.int _ (((T : Nat) : Int))) (V.as (V.addI rfl rfl (by omega)) (by omega)) rfl ?_; go_step)); exact z99.out) : p := h ⟨k⟩
theorem y924 {p q : Prop} (k : q) (h : Wq9 q → p := by intro z99; ((with_reducible refine gs9 14 ?_); (refine wplV (.int _ (((i + 2 : Nat) : Int))) (V.as (V.addI rfl rfl (by omega)) (by omega)) rfl ?_; go_step)); exact z99.out) : p := h ⟨k⟩
theorem y925 {p q : Prop} (k : q) (h : Wq9 q → p := by intro z99; ((with_reducible refine gs9 145 ?_); (refine wplV (.int _ (((s + 1 : Nat) : Int))) (V.as (V.addI rfl rfl (by omega)) (by omega)) rfl ?_; go_step)); exact z99.out) : p := h ⟨k⟩
theorem y926 {p q : Prop} (k : q) (h : Wq9 q → p := by intro z99; ((with_reducible refine gs9 148 ?_); (refine wplV (.int _ (((T - 1 : Nat) : Int))) (V.as (V.subI rfl rfl (by omega)) (by omega)) rfl ?_; go_step)); exact z99.out) : p := h ⟨k⟩
theorem y927 {p q : Prop} (k : q) (h : Wq9 q → p := by intro z99; ((with_reducible refine gs9 15 ?_); (refine wvv9 (V.indexSl Tryd.underlying106 isz31 rfl rfl isn9 (by omega) rfl nq9) ?_; go_step)); exact z99.out) : p := h ⟨k⟩
theorem y928 {p q : Prop} (k : q) (h : Wq9 q → p := by intro z99; ((with_reducible refine gs9 151 ?_); (refine wvv9 (V.lss rfl rfl) ?_; go_step)); exact z99.out) : p := h ⟨k⟩
theorem y929 {p q : Prop} (k : q) (h : Wq9 q → p := by intro z99; ((with_reducible refine gs9 154 ?_); (refine wplV (.int _ (((st + r : Nat) : Int))) (V.as (V.addI rfl rfl (by omega)) (by omega)) rfl ?_; go_step)); exact z99.out) : p := h ⟨k⟩
theorem y930 {p q : Prop} (k : q) (h : Wq9 q → p := by intro z99; ((with_reducible refine gs9 155 ?_); (refine wvv9 (V.convI (by rw [Tryd.underlying3]; rfl) Tryd.underlying147 rfl (IntWalk.u64_in _ (by omega))) ?_; go_step)); exact z99.out) : p := h ⟨k⟩
theorem y931 {p q : Prop} (k : q) (h : Wq9 q → p := by intro z99; ((with_reducible refine gs9 156 ?_); (refine wplV (.int _ (((h : Nat) : Int))) (V.as (V.shr rfl rfl isn9 (by omega) rfl) (by omega)) rfl ?_; go_step)); exact z99.out) : p := h ⟨k⟩
theorem y932 {p q : Prop} (k : q) (h : Wq9 q → p := by intro z99; ((with_reducible refine gs9 157 ?_); (refine wvv9 (V.convI (by rw [Tryd.underlying147]; rfl) Tryd.underlying3 rfl (IntWalk.i64_in _ (by omega))) ?_; go_step)); exact z99.out) : p := h ⟨k⟩
theorem y933 {p q : Prop} (k : q) (h : Wq9 q → p := by intro z99; ((with_reducible refine gs9 16 ?_); (refine wplV (.int _ (((i + 1 : Nat) : Int))) (V.as (V.addI rfl rfl (by omega)) (by omega)) rfl ?_; go_step)); exact z99.out) : p := h ⟨k⟩
theorem y934 {p q : Prop} (k : q) (h : Wq9 q → p := by intro z99; ((with_reducible refine gs9 17 ?_); (refine wvv9 (V.indexSl Tryd.underlying34 isz5 rfl rfl isn9 (by omega) (Nat.mul_one _) nq9) ?_; go_step)); exact z99.out) : p := h ⟨k⟩
theorem y935 {p q : Prop} (k : q) (h : Wq9 q → p := by intro z99; ((with_reducible refine gs9 17 ?_); (refine wvv9 (V.len Tryd.underlying24 rfl) ?_; go_step)); exact z99.out) : p := h ⟨k⟩
theorem y936 {p q : Prop} (k : q) (h : Wq9 q → p := by intro z99; ((with_reducible refine gs9 173 ?_); (refine wplV (.int _ (((h + 1 : Nat) : Int))) (V.as (V.addI rfl rfl (by omega)) (by omega)) rfl ?_; go_step)); exact z99.out) : p := h ⟨k⟩
theorem y937 {p q : Prop} (k : q) (h : Wq9 q → p := by intro z99; ((with_reducible refine gs9 177 ?_); (refine wplV (.int _ (((en : Nat) : Int))) (V.as (V.subI rfl rfl (by omega)) (by omega)) rfl ?_; go_step)); exact z99.out) : p := h ⟨k⟩
theorem y938 {p q : Prop} (k : q) (h : Wq9 q → p := by intro z99; ((with_reducible refine gs9 184 ?_); (refine wvv9 (V.lss rfl rfl) ?_; go_step)); exact z99.out) : p := h ⟨k⟩
theorem y939 {p q : Prop} (k : q) (h : Wq9 q → p := by intro z99; ((with_reducible refine gs9 19 ?_); (refine wvv9 (V.neq rfl rfl) ?_; go_step)); exact z99.out) : p := h ⟨k⟩
theorem y940 {p q : Prop} (k : q) (h : Wq9 q → p := by intro z99; ((with_reducible refine gs9 198 ?_); (refine wvv9 (V.lss rfl rfl) ?_; go_step)); exact z99.out) : p := h ⟨k⟩
theorem y941 {p q : Prop} (k : q) (h : Wq9 q → p := by intro z99; ((with_reducible refine gs9 20 ?_); (refine wvv9 (V.build (vs := [(0, _), (1, _), (2, _)]) rfl (bl69_0_1_2 _ _ _)) ?_; go_step)); exact z99.out) : p := h ⟨k⟩
theorem y942 {p q : Prop} (k : q) (h : Wq9 q → p := by intro z99; ((with_reducible refine gs9 20 ?_); (refine wvv9 (V.neq rfl rfl) ?_; go_step)); exact z99.out) : p := h ⟨k⟩
theorem y943 {p q : Prop} (k : q) (h : Wq9 q → p := by intro z99; ((with_reducible refine gs9 20 ?_); refine wplV (.func (.func 38) #[] #[.pointer (some ⟨g6, 0, none⟩), .pointer (some ⟨g8, 0, none⟩)]) (V.makeFunc rfl) kr9 ?_; go_step); exact z99.out) : p := h ⟨k⟩
theorem y944 {p q : Prop} (k : q) (h : Wq9 q → p := by intro z99; ((with_reducible refine gs9 21 ?_); (refine wvv9 (V.indexSl Tryd.underlying24 isz3 rfl rfl isn9 (by omega) (Nat.mul_one _) nq9) ?_; go_step)); exact z99.out) : p := h ⟨k⟩
theorem y945 {p q : Prop} (k : q) (h : Wq9 q → p := by intro z99; ((with_reducible refine gs9 21 ?_); (refine wvv9 (V.neq rfl rfl) ?_; go_step)); exact z99.out) : p := h ⟨k⟩
theorem y946 {p q : Prop} (k : q) (h : Wq9 q → p := by intro z99; ((with_reducible refine gs9 212 ?_); (refine wvv9 (V.lss rfl rfl) ?_; go_step)); exact z99.out) : p := h ⟨k⟩
theorem y947 {p q : Prop} (k : q) (h : Wq9 q → p := by intro z99; ((with_reducible refine gs9 22 ?_); refine wl9 ?_; apply wp_load1A hS 3 _ rfl _ _ rfl (one_of rfl) _ _; (case hp => exact pl9); (case hi => omega); rw [HN.out]; refine put_move ?_; go_step); exact z99.out) : p := h ⟨k⟩
theorem y948 {p q : Prop} (k : q) (h : Wq9 q → p := by intro z99; ((with_reducible refine gs9 26 ?_); (refine wplV (.int _ (((N1 : Nat) : Int))) (V.as (V.or rfl rfl) (by exact HOr.out)) rfl ?_; go_step)); exact z99.out) : p := h ⟨k⟩
theorem y949 {p q : Prop} (k : q) (h : Wq9 q → p := by intro z99; ((with_reducible refine gs9 27 ?_); (refine wplV (.int _ (((k : Int) % 16))) (V.as (V.and rfl rfl) (by exact HAnd.out)) rfl ?_; go_step)); exact z99.out) : p := h ⟨k⟩
theorem y950 {p q : Prop} (k : q) (h : Wq9 q → p := by intro z99; ((with_reducible refine gs9 27 ?_); (refine wplV (.int _ (((k : Nat) : Int))) (V.as (V.and rfl rfl) (by rw [HAnd.out]; exact hk1.out)) rfl ?_; go_step)); exact z99.out) : p := h ⟨k⟩
theorem y951 {p q : Prop} (k : q) (h : Wq9 q → p := by intro z99; ((with_reducible refine gs9 28 ?_); (refine wplV (.int _ (((i + 1 : Nat) : Int))) (V.as (V.addI rfl rfl (by omega)) (by omega)) rfl ?_; go_step)); exact z99.out) : p := h ⟨k⟩
theorem y952 {p q : Prop} (k : q) (h : Wq9 q → p := by intro z99; ((with_reducible refine gs9 28 ?_); (refine wvv9 (V.build (vs := [(0, _), (1, _)]) rfl (bl69_0_1 _ _)) ?_; go_step)); exact z99.out) : p := h ⟨k⟩
theorem y953 {p q : Prop} (k : q) (h : Wq9 q → p := by intro z99; ((with_reducible refine gs9 28 ?_); (refine wvv9 (V.eql rfl rfl) ?_; go_step)); exact z99.out) : p := h ⟨k⟩
theorem y954 {p q : Prop} (k : q) (h : Wq9 q → p := by intro z99; ((with_reducible refine gs9 31 ?_); (refine wvv9 (V.indexAr Tryd.underlying52 isz3 rfl rfl isn9 (by omega) (Nat.mul_one _) nq9) ?_; go_step)); exact z99.out) : p := h ⟨k⟩
theorem y955 {p q : Prop} (k : q) (h : Wq9 q → p := by intro z99; ((with_reducible refine gs9 31 ?_); (refine wvv9 (V.lss rfl rfl) ?_; go_step)); exact z99.out) : p := h ⟨k⟩
theorem y956 {p q : Prop} (k : q) (h : Wq9 q → p := by intro z99; ((with_reducible refine gs9 32 ?_); refine wl9 ?_; apply wp_load1A hS 3 _ rfl _ _ rfl (one_of rfl) _ _; (case hp => exact pl9); (case hi => omega); rw [HN.out]; refine put_move ?_; go_step); exact z99.out) : p := h ⟨k⟩
theorem y957 {p q : Prop} (k : q) (h : Wq9 q → p := by intro z99; ((with_reducible refine gs9 33 ?_); (refine wvv9 (V.indexSl Tryd.underlying106 isz31 rfl rfl isn9 (by omega) rfl nq9) ?_; go_step)); exact z99.out) : p := h ⟨k⟩
theorem y958 {p q : Prop} (k : q) (h : Wq9 q → p := by intro z99; ((with_reducible refine gs9 35 ?_); (refine wvv9 (V.leq rfl rfl) ?_; go_step)); exact z99.out) : p := h ⟨k⟩
theorem y959 {p q : Prop} (k : q) (h : Wq9 q → p := by intro z99; ((with_reducible refine gs9 36 ?_); (refine wvv9 (V.indexSl Tryd.underlying106 isz31 rfl rfl isn9 (by omega) rfl nq9) ?_; go_step)); exact z99.out) : p := h ⟨k⟩
theorem y960 {p q : Prop} (k : q) (h : Wq9 q → p := by intro z99; ((with_reducible refine gs9 39 ?_); (refine wvv9 (V.indexSl Tryd.underlying24 isz3 rfl rfl isn9 (by omega) (Nat.mul_one _) nq9) ?_; go_step)); exact z99.out) : p := h ⟨k⟩
theorem y961 {p q : Prop} (k : q) (h : Wq9 q → p := by intro z99; ((with_reducible refine gs9 41 ?_); (refine wvv9 (V.indexSl Tryd.underlying100 isz69 rfl rfl isn9 (by omega) rfl nq9) ?_; go_step)); exact z99.out) : p := h ⟨k⟩
theorem y962 {p q : Prop} (k : q) (h : Wq9 q → p := by intro z99; ((with_reducible refine gs9 44 ?_); (refine wplV (.int _ (((k + 1 : Nat) : Int))) (V.as (V.addI rfl rfl (by omega)) (by omega)) rfl ?_; go_step)); exact z99.out) : p := h ⟨k⟩
theorem y963 {p q : Prop} (k : q) (h : Wq9 q → p := by intro z99; ((with_reducible refine gs9 44 ?_); (refine wvv9 (V.len Tryd.underlying34 rfl) ?_; go_step)); exact z99.out) : p := h ⟨k⟩
theorem y964 {p q : Prop} (k : q) (h : Wq9 q → p := by intro z99; ((with_reducible refine gs9 48 ?_); (refine wvv9 (V.indexSl Tryd.underlying24 isz3 rfl rfl isn9 (by omega) (Nat.mul_one _) nq9) ?_; go_step)); exact z99.out) : p := h ⟨k⟩
theorem y965 {p q : Prop} (k : q) (h : Wq9 q → p := by intro z99; ((with_reducible refine gs9 49 ?_); (refine wvv9 (V.indexSl Tryd.underlying34 isz5 rfl rfl isn9 (by omega) (Nat.mul_one _) nq9) ?_; go_step)); exact z99.out) : p := h ⟨k⟩
theorem y966 {p q : Prop} (k : q) (h : Wq9 q → p := by intro z99; ((with_reducible refine gs9 5 ?_); (refine wvv9 (V.len Tryd.underlying24 rfl) ?_; go_step)); exact z99.out) : p := h ⟨k⟩
theorem y967 {p q : Prop} (k : q) (h : Wq9 q → p := by intro z99; ((with_reducible refine gs9 51 ?_); (refine wplV (.int _ (((a + s : Nat) : Int))) (V.as (V.addI rfl rfl (by omega)) (by omega)) rfl ?_; go_step)); exact z99.out) : p := h ⟨k⟩
theorem y968 {p q : Prop} (k : q) (h : Wq9 q → p := by intro z99; ((with_reducible refine gs9 51 ?_); (refine wvv9 (V.eql rfl rfl) ?_; go_step)); exact z99.out) : p := h ⟨k⟩
theorem y969 {p q : Prop} (k : q) (h : Wq9 q → p := by intro z99; ((with_reducible refine gs9 51 ?_); (refine wvv9 (V.indexSl Tryd.underlying24 isz3 rfl rfl isn9 (by omega) (Nat.mul_one _) nq9) ?_; go_step)); exact z99.out) : p := h ⟨k⟩
theorem y970 {p q : Prop} (k : q) (h : Wq9 q → p := by intro z99; ((with_reducible refine gs9 51 ?_); refine wplV (.iface 99 (.agg #[.pointer (some ⟨gc, 0, none⟩), .pointer (some ⟨gr, 0, none⟩)])) (V.mkIf rfl (fun w => by kernel_rfl)) kr9 ?_; go_step); exact z99.out) : p := h ⟨k⟩
theorem y971 {p q : Prop} (k : q) (h : Wq9 q → p := by intro z99; ((with_reducible refine gs9 52 ?_); (refine wplV (.int _ (((2 * q + 1 : Nat) : Int))) (V.as (V.addI rfl rfl (by omega)) (by omega)) rfl ?_; go_step)); exact z99.out) : p := h ⟨k⟩
theorem y972 {p q : Prop} (k : q) (h : Wq9 q → p := by intro z99; ((with_reducible refine gs9 52 ?_); (refine wvv9 (V.indexSl Tryd.underlying100 isz69 rfl rfl isn9 (by omega) rfl nq9) ?_; go_step)); exact z99.out) : p := h ⟨k⟩
theorem y973 {p q : Prop} (k : q) (h : Wq9 q → p := by intro z99; ((with_reducible refine gs9 54 ?_); refine wplV (.int .i64 ((y : Nat) : Int)) (V.as (V.indexIv Tryd.underlying29 Tryd.underlying3 isz3 rfl rfl hC IsN.cast (by omega)) HX.out) kr9 ?_; go_step); exact z99.out) : p := h ⟨k⟩
theorem y974 {p q : Prop} (k : q) (h : Wq9 q → p := by intro z99; ((with_reducible refine gs9 55 ?_); (refine wvv9 (V.indexSl Tryd.underlying24 isz3 rfl rfl isn9 (by omega) (Nat.mul_one _) nq9) ?_; go_step)); exact z99.out) : p := h ⟨k⟩
theorem y975 {p q : Prop} (k : q) (h : Wq9 q → p := by intro z99; ((with_reducible refine gs9 56 ?_); (refine wplV (.int _ (((2 * z : Nat) : Int))) (V.as (V.shlI rfl rfl isn9 (by omega) (by omega)) (by omega)) rfl ?_; go_step)); exact z99.out) : p := h ⟨k⟩
theorem y976 {p q : Prop} (k : q) (h : Wq9 q → p := by intro z99; ((with_reducible refine gs9 56 ?_); (refine wvv9 (V.indexSl Tryd.underlying34 isz5 rfl rfl isn9 (by omega) (Nat.mul_one _) nq9) ?_; go_step)); exact z99.out) : p := h ⟨k⟩
theorem y977 {p q : Prop} (k : q) (h : Wq9 q → p := by intro z99; ((with_reducible refine gs9 58 ?_); (refine wplV (.int _ (((2 * z + y : Nat) : Int))) (V.as (V.addI rfl rfl (by omega)) (by omega)) rfl ?_; go_step)); exact z99.out) : p := h ⟨k⟩
theorem y978 {p q : Prop} (k : q) (h : Wq9 q → p := by intro z99; ((with_reducible refine gs9 58 ?_); (refine wvv9 (V.indexSl Tryd.underlying108 isz111 rfl rfl isn9 (by omega) rfl nq9) ?_; go_step)); exact z99.out) : p := h ⟨k⟩
theorem y979 {p q : Prop} (k : q) (h : Wq9 q → p := by intro z99; ((with_reducible refine gs9 58 ?_); (refine wvv9 (V.indexSl Tryd.underlying24 isz3 rfl rfl isn9 (by omega) (Nat.mul_one _) nq9) ?_; go_step)); exact z99.out) : p := h ⟨k⟩
theorem y980 {p q : Prop} (k : q) (h : Wq9 q → p := by intro z99; ((with_reducible refine gs9 6 ?_); (refine wvv9 (V.gtr rfl rfl) ?_; go_step)); exact z99.out) : p := h ⟨k⟩
theorem y981 {p q : Prop} (k : q) (h : Wq9 q → p := by intro z99; ((with_reducible refine gs9 62 ?_); (refine wplV (.int _ (((t : Nat) : Int))) (V.as (V.mulI rfl rfl (by omega)) (by omega)) rfl ?_; go_step)); exact z99.out) : p := h ⟨k⟩
theorem y982 {p q : Prop} (k : q) (h : Wq9 q → p := by intro z99; ((with_reducible refine gs9 63 ?_); (refine wvv9 (V.indexAr Tryd.underlying52 isz3 rfl rfl (show IsN 0 0 from rfl) (by omega) (show 0 * 1 = 0 from rfl) nq9) ?_; go_step)); exact z99.out) : p := h ⟨k⟩
theorem y983 {p q : Prop} (k : q) (h : Wq9 q → p := by intro z99; ((with_reducible refine gs9 64 ?_); (refine wplV (.int _ (((2 * p : Nat) : Int))) (V.as (V.shl1 rfl rfl isn9 (by omega)) (by exact HP.out)) rfl ?_; go_step)); exact z99.out) : p := h ⟨k⟩
theorem y984 {p q : Prop} (k : q) (h : Wq9 q → p := by intro z99; ((with_reducible refine gs9 73 ?_); (refine wplV (.int _ (((Lf % 8 : Nat) : Int))) (V.as (V.rem rfl rfl (by omega) (by omega)) (by omega)) rfl ?_; go_step)); exact z99.out) : p := h ⟨k⟩
theorem y985 {p q : Prop} (k : q) (h : Wq9 q → p := by intro z99; ((with_reducible refine gt9 _ (.binOp .add _ _ _ _) ?_); (refine wvv9 (V.addI rfl rfl (by omega)) ?_; go_step)); exact z99.out) : p := h ⟨k⟩
theorem y986 {p q : Prop} (k : q) (h : Wq9 q → p := by intro z99; ((with_reducible refine gt9 _ (.binOp .eql 3 _ _ _) ?_); (refine wvv9 (V.eql rfl rfl) ?_; go_step)); exact z99.out) : p := h ⟨k⟩
theorem y987 {p q : Prop} (k : q) (h : Wq9 q → p := by intro z99; ((with_reducible refine gt9 _ (.binOp .geq _ _ _ _) ?_); (refine wvv9 (V.geq rfl rfl) ?_; go_step)); exact z99.out) : p := h ⟨k⟩
theorem y988 {p q : Prop} (k : q) (h : Wq9 q → p := by intro z99; ((with_reducible refine gt9 _ (.binOp .gtr _ _ _ _) ?_); (refine wvv9 (V.gtr rfl rfl) ?_; go_step)); exact z99.out) : p := h ⟨k⟩
theorem y989 {p q : Prop} (k : q) (h : Wq9 q → p := by intro z99; ((with_reducible refine gt9 _ (.binOp .leq _ _ _ _) ?_); (refine wvv9 (V.leq rfl rfl) ?_; go_step)); exact z99.out) : p := h ⟨k⟩
theorem y990 {p q : Prop} (k : q) (h : Wq9 q → p := by intro z99; ((with_reducible refine gt9 _ (.binOp .lss _ _ _ _) ?_); (refine wvv9 (V.lss rfl rfl) ?_; go_step)); exact z99.out) : p := h ⟨k⟩
theorem y991 {p q : Prop} (k : q) (h : Wq9 q → p := by intro z99; ((with_reducible refine gt9 _ (.binOp .neq 25 _ _ _) ?_); (refine wvv9 (V.neq rfl rfl) ?_; go_step)); exact z99.out) : p := h ⟨k⟩
theorem y992 {p q : Prop} (k : q) (h : Wq9 q → p := by intro z99; ((with_reducible refine gt9 _ (.binOp .neq 3 _ _ _) ?_); (refine wvv9 (V.neq rfl rfl) ?_; go_step)); exact z99.out) : p := h ⟨k⟩
theorem y993 {p q : Prop} (k : q) (h : Wq9 q → p := by intro z99; ((with_reducible refine gt9 _ (.binOp .rem _ _ _ _) ?_); (refine wvv9 (V.rem rfl rfl (by omega) (by omega)) ?_; go_step)); exact z99.out) : p := h ⟨k⟩
theorem y994 {p q : Prop} (k : q) (h : Wq9 q → p := by intro z99; ((with_reducible refine gt9 _ (.binOp .shl _ _ _ _) ?_); (refine wvv9 (V.shlI rfl rfl isn9 (by omega) (by omega)) ?_; go_step)); exact z99.out) : p := h ⟨k⟩
theorem y995 {p q : Prop} (k : q) (h : Wq9 q → p := by intro z99; ((with_reducible refine gt9 _ (.binOp .sub _ _ _ _) ?_); (refine wvv9 (V.subI rfl rfl (by omega)) ?_; go_step)); exact z99.out) : p := h ⟨k⟩
theorem y996 {p q : Prop} (k : q) (h : Wq9 q → p := by intro z99; ((with_reducible refine gt9 _ (.call ⟨.builtin .len, _, _⟩) ?_); (refine wvv9 (V.len Tryd.underlying100 rfl) ?_; go_step)); exact z99.out) : p := h ⟨k⟩
theorem y997 {p q : Prop} (k : q) (h : Wq9 q → p := by intro z99; ((with_reducible refine gt9 _ (.call ⟨.builtin .len, _, _⟩) ?_); (refine wvv9 (V.len Tryd.underlying106 rfl) ?_; go_step)); exact z99.out) : p := h ⟨k⟩
theorem y998 {p q : Prop} (k : q) (h : Wq9 q → p := by intro z99; ((with_reducible refine gt9 _ (.call ⟨.builtin .len, _, _⟩) ?_); (refine wvv9 (V.len Tryd.underlying108 rfl) ?_; go_step)); exact z99.out) : p := h ⟨k⟩
theorem y999 {p q : Prop} (k : q) (h : Wq9 q → p := by intro z99; ((with_reducible refine gt9 _ (.call ⟨.builtin .len, _, _⟩) ?_); (refine wvv9 (V.len Tryd.underlying22 rfl) ?_; go_step)); exact z99.out) : p := h ⟨k⟩
theorem y9100 {p q : Prop} (k : q) (h : Wq9 q → p := by intro z99; ((with_reducible refine gt9 _ (.call ⟨.builtin .len, _, _⟩) ?_); (refine wvv9 (V.len Tryd.underlying24 rfl) ?_; go_step)); exact z99.out) : p := h ⟨k⟩
theorem y9101 {p q : Prop} (k : q) (h : Wq9 q → p := by intro z99; ((with_reducible refine gt9 _ (.call ⟨.builtin .len, _, _⟩) ?_); (refine wvv9 (V.len Tryd.underlying34 rfl) ?_; go_step)); exact z99.out) : p := h ⟨k⟩
theorem y9102 {p q : Prop} (k : q) (h : Wq9 q → p := by intro z99; ((with_reducible refine gt9 _ (.call ⟨.builtin .len, _, _⟩) ?_); (refine wvv9 (V.len Tryd.underlying37 rfl) ?_; go_step)); exact z99.out) : p := h ⟨k⟩
theorem y9103 {p q : Prop} (k : q) (h : Wq9 q → p := by intro z99; ((with_reducible refine gt9 _ (.call ⟨.builtin .len, _, _⟩) ?_); (refine wvv9 (V.len Tryd.underlying85 rfl) ?_; go_step)); exact z99.out) : p := h ⟨k⟩
theorem y9104 {p q : Prop} (k : q) (h : Wq9 q → p := by intro z99; ((with_reducible refine gt9 _ (.call ⟨.builtin .max, _, _⟩) ?_); (refine wvv9 (V.max rfl rfl) ?_; go_step)); exact z99.out) : p := h ⟨k⟩
theorem y9105 {p q : Prop} (k : q) (h : Wq9 q → p := by intro z99; ((with_reducible refine gt9 _ (.extract _ _) ?_); (refine wvv9 (V.extract rfl rfl) ?_; go_step)); exact z99.out) : p := h ⟨k⟩
theorem y9106 {p q : Prop} (k : q) (h : Wq9 q → p := by intro z99; ((with_reducible refine gt9 _ (.fieldAddr 31 _ 0) ?_); (refine wvv9 (V.fieldAddr fo31_0 rfl nq9) ?_; go_step)); exact z99.out) : p := h ⟨k⟩
theorem y9107 {p q : Prop} (k : q) (h : Wq9 q → p := by intro z99; ((with_reducible refine gt9 _ (.fieldAddr 31 _ 1) ?_); (refine wvv9 (V.fieldAddr fo31_1 rfl nq9) ?_; go_step)); exact z99.out) : p := h ⟨k⟩
theorem y9108 {p q : Prop} (k : q) (h : Wq9 q → p := by intro z99; ((with_reducible refine gt9 _ (.fieldAddr 33 _ 0) ?_); (refine wvv9 (V.fieldAddr fo33_0 rfl nq9) ?_; go_step)); exact z99.out) : p := h ⟨k⟩
theorem y9109 {p q : Prop} (k : q) (h : Wq9 q → p := by intro z99; ((with_reducible refine gt9 _ (.fieldAddr 33 _ 1) ?_); (refine wvv9 (V.fieldAddr fo33_1 rfl nq9) ?_; go_step)); exact z99.out) : p := h ⟨k⟩
theorem y9110 {p q : Prop} (k : q) (h : Wq9 q → p := by intro z99; ((with_reducible refine gt9 _ (.fieldAddr 69 _ 0) ?_); (refine wvv9 (V.fieldAddr fo69_0 rfl nq9) ?_; go_step)); exact z99.out) : p := h ⟨k⟩
theorem y9111 {p q : Prop} (k : q) (h : Wq9 q → p := by intro z99; ((with_reducible refine gt9 _ (.fieldAddr 69 _ 1) ?_); (refine wvv9 (V.fieldAddr fo69_1 rfl nq9) ?_; go_step)); exact z99.out) : p := h ⟨k⟩
theorem y9112 {p q : Prop} (k : q) (h : Wq9 q → p := by intro z99; ((with_reducible refine gt9 _ (.fieldAddr 69 _ 2) ?_); (refine wvv9 (V.fieldAddr fo69_2 rfl nq9) ?_; go_step)); exact z99.out) : p := h ⟨k⟩
theorem y9113 {p q : Prop} (k : q) (h : Wq9 q → p := by intro z99; ((with_reducible refine gt9 _ (.fieldAddr 99 _ 1) ?_); (refine wvv9 (V.fieldAddr fo99_1 rfl nq9) ?_; go_step)); exact z99.out) : p := h ⟨k⟩
theorem y9114 {p q : Prop} (k : q) (h : Wq9 q → p := by intro z99; ((with_reducible refine gt9 _ (.load 111 _) ?_); (refine wl9 ?_; apply wp_loadROE hS 111 _ rfl _ _ rfl 2 (row_of rfl) _ _ _ _ _; (case hp => exact pl9); (case hi => omega); (case hl' => with_reducible assumption); refine put_move ?_; go_step)); exact z99.out) : p := h ⟨k⟩
theorem y9115 {p q : Prop} (k : q) (h : Wq9 q → p := by intro z99; ((with_reducible refine gt9 _ (.load 122 _) ?_); (refine wl9 ?_; apply wp_load1 hS 122 _ rfl _ _ rfl (one_of rfl) _; (case hp => exact pl9); (case hc => rfl); refine put_move ?_; go_step)); exact z99.out) : p := h ⟨k⟩
theorem y9116 {p q : Prop} (k : q) (h : Wq9 q → p := by intro z99; ((with_reducible refine gt9 _ (.load 123 _) ?_); (refine wl9 ?_; apply wp_load1 hS 123 _ rfl _ _ rfl (one_of rfl) _; (case hp => exact pl9); (case hc => rfl); refine put_move ?_; go_step)); exact z99.out) : p := h ⟨k⟩
theorem y9117 {p q : Prop} (k : q) (h : Wq9 q → p := by intro z99; ((with_reducible refine gt9 _ (.load 24 _) ?_); (refine wl9 ?_; apply wp_load1 hS 24 _ rfl _ _ rfl (one_of rfl) _; (case hp => exact pl9); (case hc => rfl); refine put_move ?_; go_step)); exact z99.out) : p := h ⟨k⟩
theorem y9118 {p q : Prop} (k : q) (h : Wq9 q → p := by intro z99; ((with_reducible refine gt9 _ (.load 24 _) ?_); (refine wl9 ?_; apply wp_loadVP hS 24 _ rfl _ _ rfl (one_of rfl) _; (case hp => exact pl9); (case hi => (repeat (first | exact AtV.head | (apply AtV.skipI; (case hn => (first | (with_reducible assumption) | exact Len.rep | exact Len.set (by with_reducible assumption) | exact Len.set Len.rep | exact Len.set (Len.set Len.rep))); (case h => omega); (case ho => rfl)) | apply AtV.skipV))); refine put_move ?_; go_step)); exact z99.out) : p := h ⟨k⟩
theorem y9119 {p q : Prop} (k : q) (h : Wq9 q → p := by intro z99; ((with_reducible refine gt9 _ (.load 24 _) ?_); (refine wl9 ?_; apply wp_loadW hS 24 _ rfl _ rfl (one_of rfl) _; (case hc => with_reducible assumption); refine put_move ?_; go_step)); exact z99.out) : p := h ⟨k⟩
theorem y9120 {p q : Prop} (k : q) (h : Wq9 q → p := by intro z99; ((with_reducible refine gt9 _ (.load 29 _) ?_); (refine wl9 ?_; apply wp_loadRP hS 29 _ rfl _ _ rfl 16 (row_of rfl) _; (case hp => exact pl9); (case hi => (repeat (first | (apply AtR.head; (first | (with_reducible assumption) | exact Len.rep | exact Len.set (by with_reducible assumption) | exact Len.set Len.rep | exact Len.set (Len.set Len.rep))) | (apply AtR.skipI; (case hn => (first | (with_reducible assumption) | exact Len.rep | exact Len.set (by with_reducible assumption) | exact Len.set Len.rep | exact Len.set (Len.set Len.rep))); (case h => omega); (case ho => rfl)) | apply AtR.skipV))); refine put_move ?_; go_step)); exact z99.out) : p := h ⟨k⟩
theorem y9121 {p q : Prop} (k : q) (h : Wq9 q → p := by intro z99; ((with_reducible refine gt9 _ (.load 3 _) ?_); (refine wl9 ?_; apply wp_load1 hS 3 _ rfl _ _ rfl (one_of rfl) _; (case hp => exact pl9); (case hc => rfl); refine put_move ?_; go_step)); exact z99.out) : p := h ⟨k⟩
theorem y9122 {p q : Prop} (k : q) (h : Wq9 q → p := by intro z99; ((with_reducible refine gt9 _ (.load 3 _) ?_); (refine wl9 ?_; apply wp_load1A hS 3 _ rfl _ _ rfl (one_of rfl) _ _; (case hp => exact pl9); (case hi => omega); refine put_move ?_; go_step)); exact z99.out) : p := h ⟨k⟩
theorem y9123 {p q : Prop} (k : q) (h : Wq9 q → p := by intro z99; ((with_reducible refine gt9 _ (.load 3 _) ?_); (refine wl9 ?_; apply wp_load1OI hS 3 _ rfl _ _ rfl (one_of rfl) _ _ _ _ _; (case hp => exact pl9); (case hi => omega); refine put_move ?_; go_step)); exact z99.out) : p := h ⟨k⟩
theorem y9124 {p q : Prop} (k : q) (h : Wq9 q → p := by intro z99; ((with_reducible refine gt9 _ (.load 3 _) ?_); (refine wl9 ?_; apply wp_loadW hS 3 _ rfl _ rfl (one_of rfl) _; (case hc => with_reducible assumption); refine put_move ?_; go_step)); exact z99.out) : p := h ⟨k⟩
theorem y9125 {p q : Prop} (k : q) (h : Wq9 q → p := by intro z99; ((with_reducible refine gt9 _ (.load 3 _) ?_); first | (refine wl9 ?_; apply wp_load1OI hS 3 _ rfl _ _ rfl (one_of rfl) _ _ _ _ _; (case hp => exact pl9); (case hi => omega); refine put_move ?_; go_step) | (refine wl9 ?_; apply wp_load1 hS 3 _ rfl _ _ rfl (one_of rfl) _; (case hp => exact pl9); (case hc => rfl); refine put_move ?_; go_step)); exact z99.out) : p := h ⟨k⟩
theorem y9126 {p q : Prop} (k : q) (h : Wq9 q → p := by intro z99; ((with_reducible refine gt9 _ (.load 31 _) ?_); (refine wl9 ?_; apply wp_loadPP hS 31 _ rfl _ _ rfl 17 (row_of rfl) _; (case hp => exact pl9); (case hi => (repeat (first | (apply AtP.head; (repeat (first | exact Pre.nil | (apply Pre.ints; (case hn => (first | (with_reducible assumption) | exact Len.rep | exact Len.set (by with_reducible assumption) | exact Len.set Len.rep | exact Len.set (Len.set Len.rep))); (case h => omega); (case hm => rfl)) | apply Pre.val))) | (apply AtP.skipI; (case hn => (first | (with_reducible assumption) | exact Len.rep | exact Len.set (by with_reducible assumption) | exact Len.set Len.rep | exact Len.set (Len.set Len.rep))); (case h => omega); (case ho => rfl)) | apply AtP.skipV))); refine put_move ?_; go_step)); exact z99.out) : p := h ⟨k⟩
theorem y9127 {p q : Prop} (k : q) (h : Wq9 q → p := by intro z99; ((with_reducible refine gt9 _ (.load 33 _) ?_); (refine wl9 ?_; apply wp_loadPP hS 33 _ rfl _ _ rfl 34 (row_of rfl) _; (case hp => exact pl9); (case hi => (repeat (first | (apply AtP.head; (repeat (first | exact Pre.nil | (apply Pre.ints; (case hn => (first | (with_reducible assumption) | exact Len.rep | exact Len.set (by with_reducible assumption) | exact Len.set Len.rep | exact Len.set (Len.set Len.rep))); (case h => omega); (case hm => rfl)) | apply Pre.val))) | (apply AtP.skipI; (case hn => (first | (with_reducible assumption) | exact Len.rep | exact Len.set (by with_reducible assumption) | exact Len.set Len.rep | exact Len.set (Len.set Len.rep))); (case h => omega); (case ho => rfl)) | apply AtP.skipV))); refine put_move ?_; go_step)); exact z99.out) : p := h ⟨k⟩
theorem y9128 {p q : Prop} (k : q) (h : Wq9 q → p := by intro z99; ((with_reducible refine gt9 _ (.load 5 _) ?_); (refine wl9 ?_; apply wp_loadW hS 5 _ rfl _ rfl (one_of rfl) _; (case hc => with_reducible assumption); refine put_move ?_; go_step)); exact z99.out) : p := h ⟨k⟩
theorem y9129 {p q : Prop} (k : q) (h : Wq9 q → p := by intro z99; ((with_reducible refine gt9 _ (.load 52 _) ?_); (refine wl9 ?_; apply wp_loadA hS 52 _ rfl _ rfl 64 (row_of rfl) _; (case hp => exact pl9); refine put_move ?_; go_step)); exact z99.out) : p := h ⟨k⟩
theorem y9130 {p q : Prop} (k : q) (h : Wq9 q → p := by intro z99; ((with_reducible refine gt9 _ (.load 52 _) ?_); first | (refine wl9 ?_; apply wp_loadRI hS 52 _ rfl _ _ rfl 64 (row_of rfl) _; (case hl => with_reducible assumption); (case hr => with_reducible assumption); refine put_move ?_; go_step) | (refine wl9 ?_; apply wp_loadA hS 52 _ rfl _ rfl 64 (row_of rfl) _; (case hp => exact pl9); refine put_move ?_; go_step)); exact z99.out) : p := h ⟨k⟩
theorem y9131 {p q : Prop} (k : q) (h : Wq9 q → p := by intro z99; ((with_reducible refine gt9 _ (.load 69 _) ?_); (refine wl9 ?_; apply wp_loadG hS 69 _ rfl _ rfl 3 (row_of rfl) _; (case hp => exact pl9); (case hn => rfl); refine put_move ?_; go_step)); exact z99.out) : p := h ⟨k⟩
theorem y9132 {p q : Prop} (k : q) (h : Wq9 q → p := by intro z99; ((with_reducible refine gt9 _ (.load 69 _) ?_); (refine wl9 ?_; apply wp_loadROE hS 69 _ rfl _ _ rfl 3 (row_of rfl) _ _ _ _ _; (case hp => exact pl9); (case hi => omega); (case hl' => with_reducible assumption); refine put_move ?_; go_step)); exact z99.out) : p := h ⟨k⟩
theorem y9133 {p q : Prop} (k : q) (h : Wq9 q → p := by intro z99; ((with_reducible refine gt9 _ (.load 69 _) ?_); first | (refine wl9 ?_; apply wp_loadROE hS 69 _ rfl _ _ rfl 3 (row_of rfl) _ _ _ _ _; (case hp => exact pl9); (case hi => omega); (case hl' => with_reducible assumption); refine put_move ?_; go_step) | (refine wl9 ?_; apply wp_loadG hS 69 _ rfl _ rfl 3 (row_of rfl) _; (case hp => exact pl9); (case hn => rfl); refine put_move ?_; go_step)); exact z99.out) : p := h ⟨k⟩
theorem y9134 {p q : Prop} (k : q) (h : Wq9 q → p := by intro z99; ((with_reducible refine gt9 _ (.load 75 _) ?_); (refine wl9 ?_; apply wp_load1 hS 75 _ rfl _ _ rfl (one_of rfl) _; (case hp => exact pl9); (case hc => rfl); refine put_move ?_; go_step)); exact z99.out) : p := h ⟨k⟩
theorem y9135 {p q : Prop} (k : q) (h : Wq9 q → p := by intro z99; ((with_reducible refine gt9 _ (.load 79 _) ?_); (refine wl9 ?_; apply wp_loadW hS 79 _ rfl _ rfl (one_of rfl) _; (case hc => with_reducible assumption); refine put_move ?_; go_step)); exact z99.out) : p := h ⟨k⟩
theorem y9136 {p q : Prop} (k : q) (h : Wq9 q → p := by intro z99; ((with_reducible refine gt9 _ (.load 96 _) ?_); (refine wl9 ?_; apply wp_load1 hS 96 _ rfl _ _ rfl (one_of rfl) _; (case hp => exact pl9); (case hc => rfl); refine put_move ?_; go_step)); exact z99.out) : p := h ⟨k⟩
theorem y9137 {p q : Prop} (k : q) (h : Wq9 q → p := by intro z99; ((with_reducible refine gt9 _ (.load 99 _) ?_); (refine wl9 ?_; apply wp_loadG hS 99 _ rfl _ rfl 2 (row_of rfl) _; (case hp => exact pl9); (case hn => rfl); refine put_move ?_; go_step)); exact z99.out) : p := h ⟨k⟩
theorem y9138 {p q : Prop} (k : q) (h : Wq9 q → p := by intro z99; ((with_reducible refine gt9 _ (.nilCheck _) ?_); (refine wvv9 (V.nilCheck rfl) ?_; go_step)); exact z99.out) : p := h ⟨k⟩
theorem y9139 {p q : Prop} (k : q) (h : Wq9 q → p := by intro z99; ((with_reducible refine gt9 _ (.pick _ _ _) ?_); (refine wplPickF rfl kr9 ?_; go_step)); exact z99.out) : p := h ⟨k⟩
theorem y9140 {p q : Prop} (k : q) (h : Wq9 q → p := by intro z99; ((with_reducible refine gt9 _ (.pick _ _ _) ?_); (refine wplPickT rfl kr9 ?_; go_step)); exact z99.out) : p := h ⟨k⟩
theorem y9141 {p q : Prop} (k : q) (h : Wq9 q → p := by intro z99; ((with_reducible refine gt9 _ (.pick _ _ _) ?_); first | (refine wplPickT rfl kr9 ?_; go_step) | (refine wplPickF rfl kr9 ?_; go_step)); exact z99.out) : p := h ⟨k⟩
theorem y9142 {p q : Prop} (k : q) (h : Wq9 q → p := by intro z99; ((with_reducible refine gt9 _ (.slice 34 _ _ _ _) ?_); (refine wvv9 (V.slice Tryd.underlying34 isz5 rfl (by (first | exact Lo.none | exact Lo.some rfl isn9)) (by (first | exact Up.none | exact Up.some rfl isn9)) (by omega) (by omega)) ?_; go_step)); exact z99.out) : p := h ⟨k⟩
theorem y9143 {p q : Prop} (k : q) (h : Wq9 q → p := by intro z99; ((with_reducible refine gt9 _ (.slice 52 _ _ _ _) ?_); (refine wvv9 (V.sliceA Tryd.underlying52 isz3 rfl (by (first | exact Lo.none | exact Lo.some rfl isn9)) (by (first | exact Up.none | exact Up.some rfl isn9)) (by omega) (by omega) (by omega) rfl rfl rfl) ?_; go_step)); exact z99.out) : p := h ⟨k⟩
theorem y9144 {p q : Prop} (k : q) (h : Wq9 q → p := by intro z99; ((with_reducible refine gt9 _ (.unOp .neg _ _) ?_); (refine wvv9 (V.neg rfl (by omega)) ?_; go_step)); exact z99.out) : p := h ⟨k⟩
theorem y9145 {p q : Prop} (k : q) (h : Wq9 q → p := by intro z99; ((with_reducible refine gt9 _ (.unOp .not _ _) ?_); (refine wvv9 (V.not rfl) ?_; go_step)); exact z99.out) : p := h ⟨k⟩
theorem y9146 {p q : Prop} (k : q) (h : Wq9 q → p := by intro z99; ((with_reducible refine mv9 ?_); (first | go_big_want | go_step); go_step); go_step; exact z99.out) : p := h ⟨k⟩
end Go.Proofs.YtehbjhocgnfpmaaDoor

/- The types of this translation: the cells of elements, the places of fields. -/
namespace Go.Proofs.YtehbjhocgnfpmaaDoor
theorem isz52 : (Tryd.prog.info? 52).map (·.size) = some 64 := by kernel_rfl
theorem isz3 : (Tryd.prog.info? 3).map (·.size) = some 1 := by kernel_rfl
theorem fo31_0 : FieldOf Tryd.prog 31 0 0 29 := FieldOf.mk' _ _ 16 Tryd.underlying31 rfl rfl rfl kr9 (by decide)
theorem fo31_1 : FieldOf Tryd.prog 31 1 16 24 := FieldOf.mk' _ _ 1 Tryd.underlying31 rfl rfl rfl kr9 (by decide)
theorem fo33_0 : FieldOf Tryd.prog 33 0 0 31 := FieldOf.mk' _ _ 17 Tryd.underlying33 rfl rfl rfl kr9 (by decide)
theorem fo33_1 : FieldOf Tryd.prog 33 1 17 31 := FieldOf.mk' _ _ 17 Tryd.underlying33 rfl rfl rfl kr9 (by decide)
theorem isz5 : (Tryd.prog.info? 5).map (·.size) = some 1 := by kernel_rfl
theorem isz34 : (Tryd.prog.info? 34).map (·.size) = some 1 := by kernel_rfl
theorem fo69_0 : FieldOf Tryd.prog 69 0 0 3 := FieldOf.mk' _ _ 1 Tryd.underlying69 rfl rfl rfl kr9 (by decide)
theorem fo69_1 : FieldOf Tryd.prog 69 1 1 3 := FieldOf.mk' _ _ 1 Tryd.underlying69 rfl rfl rfl kr9 (by decide)
theorem fo69_2 : FieldOf Tryd.prog 69 2 2 3 := FieldOf.mk' _ _ 1 Tryd.underlying69 rfl rfl rfl kr9 (by decide)
theorem isz91 : (Tryd.prog.info? 91).map (·.size) = some 3 := by kernel_rfl
theorem fo91_0 : FieldOf Tryd.prog 91 0 0 3 := FieldOf.mk' _ _ 1 Tryd.underlying91 rfl rfl rfl kr9 (by decide)
theorem fo91_1 : FieldOf Tryd.prog 91 1 1 3 := FieldOf.mk' _ _ 1 Tryd.underlying91 rfl rfl rfl kr9 (by decide)
theorem fo91_2 : FieldOf Tryd.prog 91 2 2 3 := FieldOf.mk' _ _ 1 Tryd.underlying91 rfl rfl rfl kr9 (by decide)
theorem fo99_0 : FieldOf Tryd.prog 99 0 0 72 := FieldOf.mk' _ _ 1 Tryd.underlying99 rfl rfl rfl kr9 (by decide)
theorem fo99_1 : FieldOf Tryd.prog 99 1 1 96 := FieldOf.mk' _ _ 1 Tryd.underlying99 rfl rfl rfl kr9 (by decide)
theorem isz69 : (Tryd.prog.info? 69).map (·.size) = some 3 := by kernel_rfl
theorem isz31 : (Tryd.prog.info? 31).map (·.size) = some 17 := by kernel_rfl
theorem isz111 : (Tryd.prog.info? 111).map (·.size) = some 2 := by kernel_rfl
theorem fo111_0 : FieldOf Tryd.prog 111 0 0 3 := FieldOf.mk' _ _ 1 Tryd.underlying111 rfl rfl rfl kr9 (by decide)
theorem fo111_1 : FieldOf Tryd.prog 111 1 1 3 := FieldOf.mk' _ _ 1 Tryd.underlying111 rfl rfl rfl kr9 (by decide)
theorem fo120_0 : FieldOf Tryd.prog 120 0 0 79 := FieldOf.mk' _ _ 1 Tryd.underlying120 rfl rfl rfl kr9 (by decide)
theorem fo120_1 : FieldOf Tryd.prog 120 1 1 79 := FieldOf.mk' _ _ 1 Tryd.underlying120 rfl rfl rfl kr9 (by decide)
theorem fo125_0 : FieldOf Tryd.prog 125 0 0 122 := FieldOf.mk' _ _ 1 Tryd.underlying125 rfl rfl rfl kr9 (by decide)
theorem fo125_1 : FieldOf Tryd.prog 125 1 1 123 := FieldOf.mk' _ _ 1 Tryd.underlying125 rfl rfl rfl kr9 (by decide)
theorem fo133_0 : FieldOf Tryd.prog 133 0 0 3 := FieldOf.mk' _ _ 1 Tryd.underlying133 rfl rfl rfl kr9 (by decide)
theorem fo133_1 : FieldOf Tryd.prog 133 1 1 24 := FieldOf.mk' _ _ 1 Tryd.underlying133 rfl rfl rfl kr9 (by decide)
theorem isz133 : (Tryd.prog.info? 133).map (·.size) = some 2 := by kernel_rfl
theorem fo140_0 : FieldOf Tryd.prog 140 0 0 34 := FieldOf.mk' _ _ 1 Tryd.underlying140 rfl rfl rfl kr9 (by decide)
theorem fo140_1 : FieldOf Tryd.prog 140 1 1 3 := FieldOf.mk' _ _ 1 Tryd.underlying140 rfl rfl rfl kr9 (by decide)
theorem isz24 : (Tryd.prog.info? 24).map (·.size) = some 1 := by kernel_rfl

end Go.Proofs.YtehbjhocgnfpmaaDoor
/- Regions that draw their order, by the laws of XPure: what computes is taken as soon as it may be; ways that meet again are joined. -/
namespace Go.Proofs.YtehbjhocgnfpmaaDoor
open Go.RowKit
set_option linter.unusedVariables false
section
variable {P : Program} {Q : Exit → Act → World → Prop} {md : Region.Mode} {D : List Nat} {S : World → Prop} {l : List Oper} {fuel : Nat} {listed : Array Bool} {a : Act} {w : World}
 {d : Option Tmp} {op : Op} {ty : TypeId} {pos : String} {af : Array Edge} {g : Option (Nat × Bool)}
theorem takeV (i : Nat) (v : Value) (hi : AtL ⟨d, op, ty, pos, af, g⟩ i l) (hs : Region.noSelect l.toArray = true) (hf : Region.free md l.toArray listed i = true) (hr : (Region.ready md l.toArray listed).contains i = true)
 (hQ : ∀ v c a w, Q (.panic c) (a.put d v) w → Q (.panic c) a w) (hv : Val P op ty a v) (hw : Region.wanted ⟨d, op, ty, pos, af, g⟩ (yielded l.toArray a.tmps) = true)
 (h : (Oper.mk d (.move (.const v)) ty pos af g).wp P a w (wpAnyN P md l.toArray Q D S fuel (listed.setIfInBounds i true)) Q) : wpAnyN P md l.toArray Q D S (fuel + 1) listed a w :=
 takeP i hi hs hf hr hQ (fun w => wplV v hv hw (wp_const v _ (show wpList P l.toArray _ [] _ _ from wpList_nil ⟨rfl, rfl⟩))) (by cases d <;> rfl) h
theorem takeM (i : Nat) (x : Operand) (hi : AtL ⟨d, .move x, ty, pos, af, g⟩ i l) (hs : Region.noSelect l.toArray = true) (hf : Region.free md l.toArray listed i = true) (hr : (Region.ready md l.toArray listed).contains i = true)
 (hQ : ∀ v c a w, Q (.panic c) (a.put d v) w → Q (.panic c) a w) (hw : Region.wanted ⟨d, .move x, ty, pos, af, g⟩ (yielded l.toArray a.tmps) = true)
 (h : (Oper.mk d (.move x) ty pos af g).wp P a w (wpAnyN P md l.toArray Q D S fuel (listed.setIfInBounds i true)) Q) : wpAnyN P md l.toArray Q D S (fuel + 1) listed a w :=
 takeP i hi hs hf hr hQ (a1 := a.put d (a.eval x)) (fun w => wplV _ (fun _ _ _ _ _ => rfl) hw (wp_const _ _ (show wpList P l.toArray _ [] _ _ from wpList_nil ⟨rfl, rfl⟩))) (by cases d <;> rfl) h
theorem takeA (i : Nat) (x : Operand) (hi : AtL ⟨d, .assign x, ty, pos, af, g⟩ i l) (hs : Region.noSelect l.toArray = true) (hf : Region.free md l.toArray listed i = true) (hr : (Region.ready md l.toArray listed).contains i = true)
 (hQ : ∀ v c a w, Q (.panic c) (a.put d v) w → Q (.panic c) a w) (hw : Region.wanted ⟨d, .assign x, ty, pos, af, g⟩ (yielded l.toArray a.tmps) = true)
 (h : (Oper.mk d (.move x) ty pos af g).wp P a w (wpAnyN P md l.toArray Q D S fuel (listed.setIfInBounds i true)) Q) : wpAnyN P md l.toArray Q D S (fuel + 1) listed a w :=
 takeP i hi hs hf hr hQ (a1 := a.put d (a.eval x)) (fun w => wplV _ (fun _ _ _ _ _ => rfl) hw (wp_const _ _ (show wpList P l.toArray _ [] _ _ from wpList_nil ⟨rfl, rfl⟩))) (by cases d <;> rfl) h
theorem takePick (i : Nat) (b : Bool) {c x y : Operand} (hi : AtL ⟨d, .pick c x y, ty, pos, af, g⟩ i l) (hs : Region.noSelect l.toArray = true) (hf : Region.free md l.toArray listed i = true) (hr : (Region.ready md l.toArray listed).contains i = true)
 (hQ : ∀ v c a w, Q (.panic c) (a.put d v) w → Q (.panic c) a w) (hc : a.eval c = .bool b) (hw : Region.wanted ⟨d, .pick c x y, ty, pos, af, g⟩ (yielded l.toArray a.tmps) = true)
 (h : (Oper.mk d (.move (bif b then x else y)) ty pos af g).wp P a w (wpAnyN P md l.toArray Q D S fuel (listed.setIfInBounds i true)) Q) : wpAnyN P md l.toArray Q D S (fuel + 1) listed a w :=
 takeP i hi hs hf hr hQ (a1 := a.put d (a.eval (bif b then x else y))) (fun w => wplV _ (fun _ _ _ _ w => by simp only [execOp, hc, asBool, Sem.run_bind, Sem.run_pure, Result.andThen_ok]; cases b <;> rfl) hw (wp_const _ _ (show wpList P l.toArray _ [] _ _ from wpList_nil ⟨rfl, rfl⟩))) (by cases d <;> rfl) h
theorem takePickT (i : Nat) {c x y : Operand} (hi : AtL ⟨d, .pick c x y, ty, pos, af, g⟩ i l) (hs : Region.noSelect l.toArray = true) (hf : Region.free md l.toArray listed i = true) (hr : (Region.ready md l.toArray listed).contains i = true)
 (hQ : ∀ v c a w, Q (.panic c) (a.put d v) w → Q (.panic c) a w) (hc : a.eval c = .bool true) (hw : Region.wanted ⟨d, .pick c x y, ty, pos, af, g⟩ (yielded l.toArray a.tmps) = true)
 (h : (Oper.mk d (.move x) ty pos af g).wp P a w (wpAnyN P md l.toArray Q D S fuel (listed.setIfInBounds i true)) Q) : wpAnyN P md l.toArray Q D S (fuel + 1) listed a w := takePick i true hi hs hf hr hQ hc hw h
theorem takePickF (i : Nat) {c x y : Operand} (hi : AtL ⟨d, .pick c x y, ty, pos, af, g⟩ i l) (hs : Region.noSelect l.toArray = true) (hf : Region.free md l.toArray listed i = true) (hr : (Region.ready md l.toArray listed).contains i = true)
 (hQ : ∀ v c a w, Q (.panic c) (a.put d v) w → Q (.panic c) a w) (hc : a.eval c = .bool false) (hw : Region.wanted ⟨d, .pick c x y, ty, pos, af, g⟩ (yielded l.toArray a.tmps) = true)
 (h : (Oper.mk d (.move y) ty pos af g).wp P a w (wpAnyN P md l.toArray Q D S fuel (listed.setIfInBounds i true)) Q) : wpAnyN P md l.toArray Q D S (fuel + 1) listed a w := takePick i false hi hs hf hr hQ hc hw h
theorem takeB (i : Nat) (b : Bool) (hi : AtL ⟨d, op, ty, pos, af, g⟩ i l) (hs : Region.noSelect l.toArray = true) (hf : Region.free md l.toArray listed i = true) (hr : (Region.ready md l.toArray listed).contains i = true)
 (hQ : ∀ v c a w, Q (.panic c) (a.put d v) w → Q (.panic c) a w) (hv : Val P op ty a (.bool b)) (hw : Region.wanted ⟨d, op, ty, pos, af, g⟩ (yielded l.toArray a.tmps) = true)
 (ht : b = true → (Oper.mk d (.move (.const (.bool true))) ty pos af g).wp P a w (wpAnyN P md l.toArray Q D S fuel (listed.setIfInBounds i true)) Q)
 (hn : b = false → (Oper.mk d (.move (.const (.bool false))) ty pos af g).wp P a w (wpAnyN P md l.toArray Q D S fuel (listed.setIfInBounds i true)) Q) : wpAnyN P md l.toArray Q D S (fuel + 1) listed a w := by
 cases b
 · exact takeV i _ hi hs hf hr hQ hv hw (hn rfl)
 · exact takeV i _ hi hs hf hr hQ hv hw (ht rfl)
theorem takeD (i : Nat) (p : Prop) [Decidable p] (hi : AtL ⟨d, op, ty, pos, af, g⟩ i l) (hs : Region.noSelect l.toArray = true) (hf : Region.free md l.toArray listed i = true) (hr : (Region.ready md l.toArray listed).contains i = true)
 (hQ : ∀ v c a w, Q (.panic c) (a.put d v) w → Q (.panic c) a w) (hv : Val P op ty a (.bool (decide p))) (hw : Region.wanted ⟨d, op, ty, pos, af, g⟩ (yielded l.toArray a.tmps) = true)
 (ht : p → (Oper.mk d (.move (.const (.bool true))) ty pos af g).wp P a w (wpAnyN P md l.toArray Q D S fuel (listed.setIfInBounds i true)) Q)
 (hn : ¬ p → (Oper.mk d (.move (.const (.bool false))) ty pos af g).wp P a w (wpAnyN P md l.toArray Q D S fuel (listed.setIfInBounds i true)) Q) : wpAnyN P md l.toArray Q D S (fuel + 1) listed a w :=
 takeB i _ hi hs hf hr hQ hv hw (fun h => ht (of_decide_eq_true h)) (fun h => hn (of_decide_eq_false h))
theorem takeN (i : Nat) (hi : AtL ⟨d, op, ty, pos, af, g⟩ i l) (hs : Region.noSelect l.toArray = true) (hf : Region.free md l.toArray listed i = true) (hr : (Region.ready md l.toArray listed).contains i = true)
 (hQ : ∀ v c a w, Q (.panic c) (a.put d v) w → Q (.panic c) a w) (hw : Region.wanted ⟨d, op, ty, pos, af, g⟩ (yielded l.toArray a.tmps) = false)
 (h : (Oper.mk d (.move (.const undef)) ty pos af g).wp P a w (wpAnyN P md l.toArray Q D S fuel (listed.setIfInBounds i true)) Q) : wpAnyN P md l.toArray Q D S (fuel + 1) listed a w :=
 takeP i hi hs hf hr hQ (a1 := a.put d undef) (fun w => wpList_skip hw (wpList_nil ⟨rfl, rfl⟩)) (by cases d <;> rfl) h
end
section
variable {P : Program} {Q : Exit → Act → World → Prop} {a : Act} {W w : World} {c : Code}
theorem wp_join2 {F : Nat → Nat → Act} (rs : Nat → Nat → List Res) (h : c.wp P (fun e a w => e = .normal ∧ ∃ g g', a = F g g' ∧ St W w (rs g g')) a w) (k : ∀ g g' w, St W w (rs g g') → Q .normal (F g g') w) : c.wp P Q a w :=
 Code.wp_mono (fun e a w ⟨he, g, g', ha, hS⟩ => by subst he; subst ha; exact k g g' w hS) h
end

def seg (l : List Int) (s j : Nat) : List Int := (l.drop (j * s)).take s
theorem seg_len (l : List Int) (s j n : Nat) (h : l.length = n * s) (hj : j < n) : (seg l s j).length = s := by
 have : j * s + s ≤ n * s := by have := Nat.mul_le_mul_right s hj; rw [Nat.succ_mul] at this; exact this
 simp [seg]; omega
theorem nth_set_eq (l : List Int) (i : Nat) (z : Int) (h : i < l.length) : nth (l.set i z) i = z := by simp [nth, List.getD, h]
theorem nth_set_ne (l : List Int) (i j : Nat) (z : Int) (h : i ≠ j) : nth (l.set i z) j = nth l j := by simp [nth, List.getD, h]
theorem nth_set (l : List Int) (i j : Nat) (z : Int) (h : i < l.length) : nth (l.set i z) j = if i = j then z else nth l j := by
 split
 · rename_i e; subst e; exact nth_set_eq l i z h
 · rename_i e; exact nth_set_ne l i j z e
theorem nth_app1 (l m : List Int) (i : Nat) (h : i < l.length) : nth (l ++ m) i = nth l i := by simp [nth, List.getD, List.getElem?_append_left h]
theorem nth_app2 (l m : List Int) (i : Nat) (h : l.length ≤ i) : nth (l ++ m) i = nth m (i - l.length) := by simp [nth, List.getD, List.getElem?_append_right h]
theorem get_nth (l : List Int) (i : Nat) (h : i < l.length) : l[i]? = some (nth l i) := by simp [nth, List.getD, h]
theorem list_ext {l m : List Int} (h : l.length = m.length) (k : ∀ i, i < l.length → nth l i = nth m i) : l = m := by
 apply List.ext_getElem h
 intro i h1 h2
 have := k i h1
 simpa [nth, List.getD, List.getElem?_eq_getElem h1, List.getElem?_eq_getElem h2] using this
theorem nth_zeros (n i : Nat) : nth (List.replicate n 0) i = 0 := by unfold nth; rw [List.getD_eq_getElem?_getD, List.getElem?_replicate]; split <;> rfl
theorem nth_rep (n : Nat) (z : Int) (i : Nat) (h : i < n) : nth (List.replicate n z) i = z := by simp [nth, List.getD, h]
section
variable {P : Program} {W w : World} {rs rs' : List Res} {Q : Exit → Act → World → Prop} {K : Act → World → Prop} {o : Oper} {a : Act}
theorem St.ownLen {e : TypeId} {s n c : Nat} {ad : Option Addr} {xs : List Value} (hS : St W w rs) (hp : Pull (Go.Proofs.YtehbjhocgnfpmaaDoor.own e s ad n c xs) rs rs') : xs.length = n * s := (hS.own hp).1
theorem own_range {e : TypeId} {s n c g off m : Nat} {xs : List Value} (hS : St W w rs) (hp : Pull (own e s (some ⟨g, 0, none⟩) n c xs) rs rs') : w.rangeAt g off ((xs.drop off).take m) := fun j v hv => by
 rw [List.getElem?_take] at hv
 split at hv
 · rw [List.getElem?_drop] at hv; exact own_cell hS hp hv
 · cases hv
theorem wp_load1OI (hS : St W w rs) (ty : TypeId) (x : Operand) (ho : o.op = .load ty x) (g off : Nat) (hx : a.eval x = .pointer (some ⟨g, off, none⟩)) (h1 : One P ty) (e : TypeId) (s n c : Nat) (l : List Int) (hp : Pull (own e s (some ⟨g, 0, none⟩) n c (l.map (Value.int .i64))) rs rs')
 (hi : off < n * s) (h : K (a.put o.dst (.int .i64 (nth l off))) w) : o.wp P a w K Q := by
 have hl := hS.ownLen hp
 rw [List.length_map] at hl
 exact wp_load1O hS ty x ho g off hx h1 e s n c _ hp _ (by rw [List.getElem?_map, get_nth l off (by omega)]; rfl) h
theorem wp_loadRO (hS : St W w rs) (ty : TypeId) (x : Operand) (ho : o.op = .load ty x) (g off : Nat) (hx : a.eval x = .pointer (some ⟨g, off, none⟩)) (m : Nat) (h1 : RowN P ty m) (e : TypeId) (s n c : Nat) (l : List Int) (hp : Pull (own e s (some ⟨g, 0, none⟩) n c (l.map (Value.int .i64))) rs rs')
 (hi : off + m ≤ n * s) (h : K (a.put o.dst (.agg (iv ((l.drop off).take m)))) w) : o.wp P a w K Q := by
 have hl := hS.ownLen hp
 rw [List.length_map] at hl
 refine wp_loadR ty x ho g off hx m h1 (((l.drop off).take m).map (Value.int .i64)) (by simp; omega) ?_ h
 have := own_range (off := off) (m := m) hS hp
 rwa [← List.map_drop, ← List.map_take] at this
theorem wp_loadROE (hS : St W w rs) (ty : TypeId) (x : Operand) (ho : o.op = .load ty x) (g off : Nat) (hx : a.eval x = .pointer (some ⟨g, off, none⟩)) (m : Nat) (h1 : RowN P ty m) (e : TypeId) (s n c : Nat) (l : List Int) (hp : Pull (own e s (some ⟨g, 0, none⟩) n c (l.map (Value.int .i64))) rs rs')
 (hi : off + m ≤ n * s) (l' : List Int) (hl' : (l.drop off).take m = l') (h : K (a.put o.dst (.agg (iv l'))) w) : o.wp P a w K Q :=
 wp_loadRO hS ty x ho g off hx m h1 e s n c l hp hi (by rw [hl']; exact h)
theorem own_store {e : TypeId} {s n c g off : Nat} {xs : List Value} (hS : St W w rs) (hp : Pull (own e s (some ⟨g, 0, none⟩) n c xs) rs rs') (v : Value) (hi : off < n * s) :
 w.frozen? ⟨g, off, none⟩ = false ∧ St W (w.setCell ⟨g, off, none⟩ v) (own e s (some ⟨g, 0, none⟩) n c (xs.set off v) :: rs') := by
 have hown := hS.own hp
 refine ⟨?_, ?_⟩
 · rcases hown.2 with ⟨h1, h2⟩ | ⟨g', cap, cur, h1, _, hg, _⟩
   · cases h1
   · cases h1; exact frozen_of_row w g off cur e hg
 · refine St.change (rs1 := [own e s (some ⟨g, 0, none⟩) n c (xs.set off v)]) (hS.pull hp) fun f1 h1 _ _ => ?_
   obtain ⟨rfl, h1⟩ := h1
   refine ⟨[g], ⟨[g], [], rfl, ⟨rfl, by simpa using h1.1, ?_⟩, rfl⟩, by simp, fun b hb => .inl (by simpa [Value.ownBlock] using hb), Only.setCell w ⟨g, off, none⟩ v⟩
   rcases h1.2 with ⟨h2, h3⟩ | ⟨g', cap, cur, h2, hb, hg, hn, hc, hsz, htake⟩
   · cases h2
   · cases h2
     refine .inr ⟨g, c, cur.setIfInBounds off v, rfl, hb, heap_setCell_same w g off cur e _ hg, hn, hc, by simpa using hsz, ?_⟩
     rw [Array.toList_setIfInBounds, List.take_set, htake]
theorem wp_store1O (hS : St W w rs) (ty : TypeId) (x y : Operand) (ho : o.op = .store ty x y) (g off : Nat) (hx : a.eval x = .pointer (some ⟨g, off, none⟩)) (h1 : One P ty) (e : TypeId) (s n c : Nat) (xs : List Value) (hp : Pull (own e s (some ⟨g, 0, none⟩) n c xs) rs rs')
 (v : Value) (hy : IsV (a.eval y) v) (hv : v.oneCell' = true) (hi : off < n * s) (hd : o.dst = none) (h : ∀ w', St W w' (own e s (some ⟨g, 0, none⟩) n c (xs.set off v) :: rs') → K a w') : o.wp P a w K Q := by
 obtain ⟨hf, hS'⟩ := own_store hS hp v hi
 have hl := hS.ownLen hp
 exact wp_storeC ty x y ho _ hx h1 v (xs[off]'(by omega)) hy.eq hv (own_cell hS hp (by simp [hl, hi])) hf hd (h _ hS')
theorem wp_store1OI (hS : St W w rs) (ty : TypeId) (x y : Operand) (ho : o.op = .store ty x y) (g off : Nat) (hx : a.eval x = .pointer (some ⟨g, off, none⟩)) (h1 : One P ty) (e : TypeId) (s n c : Nat) (l : List Int) (hp : Pull (own e s (some ⟨g, 0, none⟩) n c (l.map (Value.int .i64))) rs rs')
 (z : Int) (hy : a.eval y = .int .i64 z) (hi : off < n * s) (hd : o.dst = none) (h : ∀ w', St W w' (own e s (some ⟨g, 0, none⟩) n c ((l.set off z).map (Value.int .i64)) :: rs') → K a w') : o.wp P a w K Q :=
 wp_store1O hS ty x y ho g off hx h1 e s n c _ hp (.int .i64 z) (.int hy) rfl hi hd (by rw [List.map_set] at h; exact h)
theorem wp_load1R (hS : St W w rs) (ty : TypeId) (x : Operand) (ho : o.op = .load ty x) (b off f : Nat) (hx : a.eval x = .pointer (some ⟨b, off + f, none⟩)) (h1 : One P ty) (l : List Int) (s : Nat) (hl : Len l s) (hr : W.rangeAt b off (l.map (Value.int .i64))) (hf : f < s)
 (h : K (a.put o.dst (.int .i64 (nth l f))) w) : o.wp P a w K Q :=
 wp_load ty x ho _ hx h1 _ (hS.1.cell (hr f _ (by rw [List.getElem?_map, get_nth l f (by rw [hl.out]; exact hf)]; rfl))) h
theorem wp_load1R0 (hS : St W w rs) (ty : TypeId) (x : Operand) (ho : o.op = .load ty x) (b off : Nat) (hx : a.eval x = .pointer (some ⟨b, off, none⟩)) (h1 : One P ty) (l : List Int) (s : Nat) (hl : Len l s) (hr : W.rangeAt b off (l.map (Value.int .i64))) (hf : 0 < s)
 (h : K (a.put o.dst (.int .i64 (nth l 0))) w) : o.wp P a w K Q :=
 wp_load1R hS ty x ho b off 0 hx h1 l s hl hr hf h
theorem wp_loadRI (hS : St W w rs) (ty : TypeId) (x : Operand) (ho : o.op = .load ty x) (b off : Nat) (hx : a.eval x = .pointer (some ⟨b, off, none⟩)) (s : Nat) (h1 : RowN P ty s) (l : List Int) (hl : Len l s) (hr : W.rangeAt b off (l.map (Value.int .i64)))
 (h : K (a.put o.dst (.agg (iv l))) w) : o.wp P a w K Q :=
 wp_loadRW hS ty x ho b off hx s h1 (l.map (Value.int .i64)) hr (by rw [List.length_map]; exact hl) h
end
section
variable {P : Program} {ops : Array Oper} {Q : Exit → Act → World → Prop} {rest : List Oper} {a : Act} {W w : World} {rs : List Res} {d : Option Tmp} {x y : Operand} {t ty : TypeId} {pos : String} {af : Array Edge} {g : Option (Nat × Bool)} {k : IntKind}
theorem wpl_indexS {ad : Option Addr} {n c j s : Nat} {l : List Int} {e : TypeId} {i : Int} (hv : Sl W s (.slice ad n c) n (l.map (Value.int .i64))) (ht : P.underlying t = some (.slice e)) (hs : (P.info? e).map (·.size) = some s) (hx : a.eval x = .slice ad n c) (hy : a.eval y = .int k i) (hj : IsN i j) (hn : j < n)
 (hw : Region.wanted ⟨d, .indexAddr t x y, ty, pos, af, g⟩ (yielded ops a.tmps) = true)
 (h : ∀ b o, Len (seg l s j) s → W.rangeAt b o ((seg l s j).map (Value.int .i64)) → (Oper.mk d (.move (.const (.pointer (some ⟨b, o, none⟩)))) ty pos af g).wp P a w (wpList P ops Q rest) Q) : wpList P ops Q (⟨d, .indexAddr t x y, ty, pos, af, g⟩ :: rest) a w :=
 wpl_indexW hv ht hs hx hy hj hn hw fun b o hr => h b o (seg_len l s j n (by have := hv.1; simpa using this) hn) (by unfold seg; rw [List.map_take, List.map_drop]; exact hr)
end
inductive Lo (a : Act) : Option Operand → Nat → Prop
 | none : Lo a none 0
 | some {x : Operand} {k : IntKind} {i : Int} {j : Nat} (h : a.eval x = .int k i) (hj : IsN i j) : Lo a (some x) j
inductive Up (a : Act) (n : Nat) : Option Operand → Nat → Prop
 | none : Up a n none n
 | some {x : Operand} {k : IntKind} {i : Int} {j : Nat} (h : a.eval x = .int k i) (hj : IsN i j) : Up a n (some x) j
section
variable {P : Program} {W w : World} {a : Act} {x : Operand} {t ty : TypeId}
theorem V.build {ps : List (Nat × Operand)} {vs : List (Nat × Value)} {v : Value} (hvs : ps.map (fun x => (x.1, a.eval x.2)) = vs) (hr : ∀ w, (Instr.build t vs.toArray).run P w = .ok v w) : Val P (.build t ps.toArray) ty a v := fun d pos af g w => by
 have e : (ps.toArray).map (fun (x : Nat × Operand) => (x.1, a.eval x.2)) = vs.toArray := by rw [← hvs]; simp
 have e2 : execOp a.eval ⟨d, .build t ps.toArray, ty, pos, af, g⟩ = (do pure (.value (← Instr.build t ((ps.toArray).map fun (x : Nat × Operand) => (x.1, a.eval x.2))))) := rfl
 rw [e2, e]
 simp only [Sem.run_bind, hr, Result.andThen_ok, Sem.run_pure]
def cutAt (ad : Option Addr) (c l s : Nat) : Option Addr := if c = l then ad else ad.map (·.add (l * s))
theorem V.slice {ad : Option Addr} {n c l h s : Nat} {e : TypeId} {lo hi : Option Operand} (ht : P.underlying t = some (.slice e)) (hs : (P.info? e).map (·.size) = some s) (hx : a.eval x = .slice ad n c) (hl : Lo a lo l) (hh : Up a n hi h) (h1 : l ≤ h) (h2 : h ≤ c) :
 Val P (.slice t x lo hi none) ty a (.slice (cutAt ad c l s) (h - l) (c - l)) := fun d pos af g w => by
 have e0 : P.elem t = e := by simp [Program.elem, ht]
 have ht' : P.underlying t = some (.slice (P.elem t)) := by rw [e0]; exact ht
 have fin : ∀ {lv hv : Option Value}, lo.map a.eval = lv → hi.map a.eval = hv → (Instr.slice t (.slice ad n c) lv hv none).run P w = ((sizeOf (P.elem t)).run P w).andThen (fun s w => .ok (sliced ad l h c s) w) →
  (execOp a.eval ⟨d, .slice t x lo hi none, ty, pos, af, g⟩).run P w = .ok (.value (.slice (cutAt ad c l s) (h - l) (c - l))) w := by
  intro lv hv e1 e2 hr
  rw [e0, run_sizeOf' w hs, Result.andThen_ok] at hr
  simp only [execOp, hx, e1, e2, Option.map_none, Sem.run_bind, run_sliceAt_slice w t _ lv hv none ht', hr, Result.andThen_ok, Sem.run_pure, sliced, cutAt]
 cases hl with
 | none => cases hh with
  | none => exact fin rfl rfl (run_slice_all w t ad n c ht')
  | @some y k2 i2 _ hy hj =>
   unfold IsN at hj
   subst hj
   have := run_slice_h w t ad n c ht' k2 (h : Int) (by omega) (by omega)
   rw [Int.toNat_natCast] at this
   exact fin rfl (by rw [Option.map_some, hy]) this
 | @some y1 k1 i1 _ hy1 hj1 =>
  unfold IsN at hj1
  subst hj1
  cases hh with
  | none =>
   have := run_slice_l w t ad n c ht' k1 (l : Int) (by omega) (by omega)
   rw [Int.toNat_natCast] at this
   exact fin (by rw [Option.map_some, hy1]) rfl this
  | @some y k2 i2 _ hy hj =>
   unfold IsN at hj
   subst hj
   have := run_slice_lh w t ad n c ht' k1 k2 (l : Int) (h : Int) (by omega) (by omega) (by omega)
   rw [Int.toNat_natCast, Int.toNat_natCast] at this
   exact fin (by rw [Option.map_some, hy1]) (by rw [Option.map_some, hy]) this
theorem Sl.cutAt {s n c : Nat} {ad : Option Addr} {cs : List Value} (hv : Sl w s (.slice ad n c) n cs) (l h : Nat) (h1 : l ≤ h) (h2 : h ≤ n) : Sl w s (.slice (cutAt ad c l s) (h - l) (c - l)) (h - l) ((cs.drop (l * s)).take ((h - l) * s)) := by
 obtain ⟨hlen, a', c', e, hnc, hcm, hor⟩ := hv
 cases e
 have hhs : h * s ≤ n * s := Nat.mul_le_mul_right s h2
 have hls : l * s ≤ h * s := Nat.mul_le_mul_right s h1
 have hsub : (h - l) * s = h * s - l * s := Nat.sub_mul h l s
 refine ⟨by simp; omega, _, _, rfl, by omega, by omega, ?_⟩
 by_cases hz : h - l = 0
 · exact .inl hz
 · rcases hor with h0 | ⟨b, off, rfl, hc⟩
   · omega
   · refine .inr ⟨b, off + l * s, ?_, fun k hk => ?_⟩
     · unfold Go.Proofs.YtehbjhocgnfpmaaDoor.cutAt
       rw [if_neg (by omega)]
       simp only [Option.map_some, Addr.add_mid]
     · rw [Nat.add_assoc, hc (l * s + k) (by omega), List.getElem?_take, if_pos hk, List.getElem?_drop]
end
structure ElemZ (P : Program) (t e : TypeId) (k : IntKind) (s b : Nat) : Prop where
 ht : P.underlying t = some (.slice e)
 ex : ∃ i z, P.info? e = some i ∧ i.zero = some z ∧ i.size = s ∧ i.bytes = b ∧ z.cells = Array.replicate s (.int k 0)
 pos : 0 < s
theorem ElemZ.mk' {P : Program} {t e : TypeId} {k : IntKind} {s b : Nat} (z : Value) (ht : P.underlying t = some (.slice e)) (hi : (P.info? e).map (fun i => (i.zero, i.size, i.bytes)) = some (some z, s, b)) (hz : z.cells = Array.replicate s (.int k 0)) (hp : 0 < s) : ElemZ P t e k s b := by
 obtain ⟨i, h1, h2, h3, h4⟩ := info_parts hi
 exact ⟨ht, ⟨i, z, h1, h2, h3, h4, hz⟩, hp⟩
theorem made_zeros (k : IntKind) (s m : Nat) (hs : 0 < s) : (madeCells (Array.replicate s (Value.int k 0)) m).toList = (List.replicate m (0 : Int)).map (Value.int k) := by
 apply List.ext_getElem?
 intro i
 by_cases hi : i < m
 · have : i % s < s := Nat.mod_lt i hs
   simp [madeCells, hi, this]
 · simp [madeCells, hi]
section
variable {P : Program} {W w : World} {rs rs' : List Res} {Q : Exit → Act → World → Prop} {K : Act → World → Prop} {o : Oper} {a : Act}
theorem St.grown {W w w' : World} {rs : List Res} {r : Res} {f : List Nat} (hS : St W w rs) (hg : w.grownBy w' none) (hr : r.holds w' f) (hn : f.Nodup) (hf : ∀ b ∈ f, w.heap.size ≤ b) : St W w' (r :: rs) := by
 have hE : Ext w w' := ⟨hg.os, hg.tape, hg.output, hg.size, fun k hk => hg.block k hk (by simp)⟩
 exact hS.call1 ⟨hE, f, hn, hf, f, [], by simp, hr, rfl⟩
theorem wp_make (hS : St W w rs) (t : TypeId) (x y : Operand) (ho : o.op = .makeSlice t x y) (e : TypeId) (k : IntKind) (s b : Nat) (el : ElemZ P t e k s b) (kx ky : IntKind) (n m : Nat) (i j : Int) (hx : a.eval x = .int kx i) (hy : a.eval y = .int ky j) (hi : IsN i n) (hj : IsN j m) (hnm : n = m) (hb : b * n ≤ 281474976710656) (h63 : n ≤ maxLen)
 (h : ∀ g w', St W w' (own e s (some ⟨g, 0, none⟩) n n ((List.replicate (n * s) (0 : Int)).map (Value.int k)) :: rs) → K (a.put o.dst (.slice (some ⟨g, 0, none⟩) n n)) w') : o.wp P a w K Q := by
 obtain ⟨ht, ⟨info, z, h1, h2, h3, h4, h5⟩, hp⟩ := el
 subst hnm
 unfold IsN at hi hj
 subst hi; subst hj
 obtain ⟨w', hr, ho', hg⟩ := run_make_full (P := P) w 0 t e info z s ht h1 h2 h3 kx ky n (by rw [h4]; exact hb) h63 (Nat.zero_le _)
 rw [h5, made_zeros k s (n * s) hp] at ho'
 unfold Oper.wp execOp
 simp only [ho, hx, hy, Sem.run_bind, hr, Result.andThen_ok, Sem.run_pure]
 exact h _ _ (St.grown (f := [w.heap.size]) hS hg ⟨rfl, ho'⟩ (by simp) (by simp))
end

end Go.Proofs.YtehbjhocgnfpmaaDoor
/- Words of given lengths: the plain law. -/
namespace Go.Proofs.YtehbjhocgnfpmaaDoor
set_option linter.unusedVariables false
def nx (c : Nat → Nat) : Nat → Nat
 | 0 => 0
 | k + 1 => 2 * nx c k + c k
def cds (c : Nat → Nat) : Nat → List (Nat × Nat)
 | 0 => []
 | k + 1 => cds c k ++ (List.range (c k)).map fun j => (k + 1, 2 * nx c k + j)
def sm (c : Nat → Nat) : Nat → Nat
 | 0 => 0
 | k + 1 => sm c k + c k
theorem cds_len (c : Nat → Nat) : ∀ k, (cds c k).length = sm c k
 | 0 => rfl
 | k + 1 => by simp [cds, sm, cds_len c k]
def wlo (x : Nat × Nat) : Nat := x.2 * 2 ^ (16 - x.1)
def whi (x : Nat × Nat) : Nat := (x.2 + 1) * 2 ^ (16 - x.1)
inductive Tile : Nat → List (Nat × Nat) → Nat → Prop
 | nil {a : Nat} : Tile a [] a
 | cons {x : Nat × Nat} {l : List (Nat × Nat)} {b : Nat} (h : Tile (whi x) l b) : Tile (wlo x) (x :: l) b
theorem Tile.append {a b c : Nat} {l m : List (Nat × Nat)} (h : Tile a l b) (k : Tile b m c) : Tile a (l ++ m) c := by
 induction h with
 | nil => exact k
 | cons h ih => exact .cons (ih k)
theorem tile_row (k s : Nat) : ∀ n a, Tile ((s + a) * 2 ^ (16 - (k + 1))) ((List.range' a n).map fun j => (k + 1, s + j)) ((s + a + n) * 2 ^ (16 - (k + 1)))
 | 0, a => by simpa using Tile.nil
 | n + 1, a => by
  have h := tile_row k s n (a + 1)
  simp only [List.range'_succ, List.map_cons]
  refine Tile.cons (x := (k + 1, s + a)) ?_
  rw [show s + a + (n + 1) = s + (a + 1) + n by omega]
  exact h
theorem tile_cds (c : Nat → Nat) : ∀ k, k ≤ 16 → Tile 0 (cds c k) (nx c k * 2 ^ (16 - k))
 | 0, _ => by simpa [cds, nx] using Tile.nil
 | k + 1, h => by
  have h1 := tile_cds c k (by omega)
  have h2 := tile_row k (2 * nx c k) (c k) 0
  have e : nx c k * 2 ^ (16 - k) = (2 * nx c k + 0) * 2 ^ (16 - (k + 1)) := by
   rw [show 16 - k = (16 - (k + 1)) + 1 by omega, Nat.pow_succ, Nat.add_zero (2 * _), Nat.mul_comm 2 (nx c k), Nat.mul_assoc (nx c k) 2, Nat.mul_comm 2]
  rw [e] at h1
  rw [cds, nx, List.range_eq_range']
  exact h1.append h2
theorem Tile.le {a b : Nat} {l : List (Nat × Nat)} (h : Tile a l b) : a ≤ b := by
 induction h with
 | nil => omega
 | @cons x l b h ih =>
  have : wlo x ≤ whi x := Nat.mul_le_mul_right _ (by omega)
  omega
theorem Tile.mem {a b : Nat} {l : List (Nat × Nat)} (h : Tile a l b) : ∀ x ∈ l, a ≤ wlo x ∧ whi x ≤ b := by
 induction h with
 | nil => intro x hx; cases hx
 | @cons y l b h ih =>
  intro x hx
  rcases List.mem_cons.1 hx with rfl | hx
  · exact ⟨Nat.le_refl _, h.le⟩
  · have h1 := ih x hx
    have : wlo y ≤ whi y := Nat.mul_le_mul_right _ (by omega)
    omega
theorem Tile.pair {a b : Nat} {l : List (Nat × Nat)} (h : Tile a l b) : l.Pairwise fun x y => whi x ≤ wlo y := by
 induction h with
 | nil => exact List.Pairwise.nil
 | @cons x l b h ih => exact List.Pairwise.cons (fun y hy => (h.mem y hy).1) ih
theorem cds_long (c : Nat → Nat) : ∀ k x, x ∈ cds c k → 1 ≤ x.1 ∧ x.1 ≤ k
 | 0, x, h => by cases h
 | k + 1, x, h => by
  rcases List.mem_append.1 h with h | h
  · have := cds_long c k x h; omega
  · obtain ⟨j, _, rfl⟩ := List.mem_map.1 h
    exact ⟨by simp, by simp⟩
def roomy (c : Nat → Nat) : Prop := ∀ k, k < 16 → nx c (k + 1) < 2 ^ (k + 1)
theorem nx_up (c : Nat → Nat) (k : Nat) : ∀ d, nx c k * 2 ^ d ≤ nx c (k + d)
 | 0 => by simp
 | d + 1 => by
  have := nx_up c k d
  rw [← Nat.add_assoc, nx, Nat.pow_succ, ← Nat.mul_assoc]; omega
theorem roomy_iff (c : Nat → Nat) : roomy c ↔ nx c 16 < 65536 := by
 constructor
 · intro h; exact h 15 (by omega)
 · intro h k hk
   have h1 := nx_up c (k + 1) (15 - k)
   rw [show k + 1 + (15 - k) = 16 by omega] at h1
   have h2 : nx c (k + 1) * 2 ^ (15 - k) < 2 ^ (k + 1) * 2 ^ (15 - k) := by
    rw [← Nat.pow_add, show k + 1 + (15 - k) = 16 by omega]; exact Nat.lt_of_le_of_lt h1 h
   exact Nat.lt_of_mul_lt_mul_right h2
theorem cds_lt (c : Nat → Nat) (h : roomy c) (x : Nat × Nat) (hx : x ∈ cds c 16) : x.2 + 1 < 2 ^ x.1 ∧ 1 ≤ x.1 ∧ x.1 ≤ 16 := by
 have h1 := cds_long c 16 x hx
 have h2 := ((tile_cds c 16 (by omega)).mem x hx).2
 have h3 := (roomy_iff c).1 h
 refine ⟨?_, h1.1, h1.2⟩
 have h4 : (x.2 + 1) * 2 ^ (16 - x.1) < 2 ^ x.1 * 2 ^ (16 - x.1) := by
  rw [← Nat.pow_add, show x.1 + (16 - x.1) = 16 by omega]
  have : whi x = (x.2 + 1) * 2 ^ (16 - x.1) := rfl
  simp at h2; omega
 exact Nat.lt_of_mul_lt_mul_right h4
theorem cds_prefix (x y : Nat × Nat) (hx : x.1 ≤ y.1) (hy : y.1 ≤ 16) (h : y.2 / 2 ^ (y.1 - x.1) = x.2) : wlo x ≤ wlo y ∧ wlo y < whi x := by
 have hp : 0 < 2 ^ (y.1 - x.1) := Nat.two_pow_pos _
 have hq : 0 < 2 ^ (16 - y.1) := Nat.two_pow_pos _
 have e : 2 ^ (16 - x.1) = 2 ^ (y.1 - x.1) * 2 ^ (16 - y.1) := by rw [← Nat.pow_add]; congr 1; omega
 have h1 : x.2 * 2 ^ (y.1 - x.1) ≤ y.2 := by rw [← h]; exact Nat.div_mul_le_self _ _
 have h2 : y.2 < (x.2 + 1) * 2 ^ (y.1 - x.1) := by rw [← h, Nat.mul_comm]; exact Nat.lt_mul_div_succ _ hp
 unfold wlo whi
 rw [e, ← Nat.mul_assoc, ← Nat.mul_assoc]
 exact ⟨Nat.mul_le_mul_right _ h1, Nat.mul_lt_mul_of_pos_right h2 hq⟩
theorem cds_apart (c : Nat → Nat) (i j : Nat) (x y : Nat × Nat) (hi : (cds c 16)[i]? = some x) (hj : (cds c 16)[j]? = some y) (hne : i ≠ j) (hl : x.1 ≤ y.1) : ¬ y.2 / 2 ^ (y.1 - x.1) = x.2 := by
 intro h
 have hp := (tile_cds c 16 (by omega)).pair
 have hy := cds_long c 16 y (List.mem_of_getElem? hj)
 obtain ⟨h1, h2⟩ := cds_prefix x y hl hy.2 h
 rw [List.pairwise_iff_getElem] at hp
 obtain ⟨hi1, hi2⟩ := List.getElem?_eq_some_iff.1 hi
 obtain ⟨hj1, hj2⟩ := List.getElem?_eq_some_iff.1 hj
 have hw : ∀ z : Nat × Nat, wlo z < whi z := fun z => Nat.mul_lt_mul_of_pos_right (by omega) (Nat.two_pow_pos _)
 rcases Nat.lt_or_gt_of_ne hne with g | g
 · have := hp i j hi1 hj1 g
   rw [hi2, hj2] at this; omega
 · have := hp j i hj1 hi1 g
   rw [hi2, hj2] at this
   have := hw y
   omega
def cc (C : List Int) (k : Nat) : Nat := (nth C k).toNat
def totOk (C : List Int) : Bool := (List.range 16).all (fun k => decide (0 ≤ nth C k ∧ nth C k ≤ 256)) && decide (sm (cc C) 16 ≤ 256)
theorem totOk_iff (C : List Int) : totOk C = true ↔ (∀ k, k < 16 → 0 ≤ nth C k ∧ nth C k ≤ 256) ∧ sm (cc C) 16 ≤ 256 := by
 simp [totOk]
def roomB (c : Nat → Nat) : Bool := (List.range 16).all fun k => decide (nx c (k + 1) < 2 ^ (k + 1))
theorem roomB_iff (c : Nat → Nat) : roomB c = true ↔ roomy c := by simp [roomB, roomy]
def symsB (S : List Int) : Bool := S.all fun s => decide (0 ≤ s) && decide (s < 256)
def tabE (C S : List Int) : Int :=
 if totOk C = true ∧ sm (cc C) 16 = S.length then if symsB S then if S.Nodup ∧ roomB (cc C) = true then 0 else 4 else 1 else 4
theorem tabE_ok {C S : List Int} (h : tabE C S = 0) : (∀ k, k < 16 → 0 ≤ nth C k ∧ nth C k ≤ 256) ∧ sm (cc C) 16 = S.length ∧ S.length ≤ 256 ∧ (∀ s ∈ S, 0 ≤ s ∧ s < 256) ∧ S.Nodup ∧ roomy (cc C) := by
 unfold tabE at h
 split at h
 · rename_i h1
   split at h
   · rename_i h2
     split at h
     · rename_i h3
       obtain ⟨h4, h5⟩ := (totOk_iff C).1 h1.1
       refine ⟨h4, h1.2, by omega, ?_, h3.1, (roomB_iff _).1 h3.2⟩
       intro s hs
       have := List.all_eq_true.1 h2 s hs
       simpa using this
     · cases h
   · cases h
 · cases h
theorem tabE_of {C S : List Int} (h1 : totOk C = true) (h2 : sm (cc C) 16 = S.length) (h3 : ∀ s ∈ S, 0 ≤ s ∧ s < 256) (h4 : S.Nodup) (h5 : roomy (cc C)) : tabE C S = 0 := by
 unfold tabE
 rw [if_pos ⟨h1, h2⟩, if_pos, if_pos ⟨h4, (roomB_iff _).2 h5⟩]
 rw [symsB, List.all_eq_true]; intro s hs; simpa using h3 s hs
def wds (C S : List Int) : List (Int × Nat × Nat) := S.zip (cds (cc C) 16)
def wfl (l : List (Int × Nat × Nat)) : List Int := l.flatMap fun x => [x.1, (x.2.1 : Int), (x.2.2 : Int)]
theorem wfl_snoc (l : List (Int × Nat × Nat)) (x : Int × Nat × Nat) : wfl (l ++ [x]) = wfl l ++ [x.1, (x.2.1 : Int), (x.2.2 : Int)] := by simp [wfl]
theorem wfl_get : ∀ (l : List (Int × Nat × Nat)) (k : Nat) (x : Int × Nat × Nat), l[k]? = some x → ((wfl l).drop (k * 3)).take 3 = [x.1, (x.2.1 : Int), (x.2.2 : Int)]
 | [], k, x, h => by simp at h
 | y :: l, 0, x, h => by
  obtain rfl : y = x := by simpa using h
  simp [wfl]
 | y :: l, k + 1, x, h => by
  have := wfl_get l k x (by simpa using h)
  rw [show (k + 1) * 3 = k * 3 + 3 by omega]
  simp only [wfl, List.flatMap_cons] at *
  rw [List.drop_append, List.drop_of_length_le (by simp)]
  simpa using this
theorem zip_snoc (S : List Int) (A : List (Nat × Nat)) (x : Nat × Nat) (h : A.length < S.length) : S.zip (A ++ [x]) = S.zip A ++ [(nth S A.length, x)] := by
 apply List.ext_getElem?
 intro i
 rcases Nat.lt_trichotomy i A.length with g | g | g
 · rw [List.getElem?_append_left (by simp; omega)]
   simp only [List.zip, List.getElem?_zipWith]
   rw [List.getElem?_append_left g]
 · subst g
   rw [List.getElem?_append_right (by simp; omega)]
   simp only [List.zip, List.getElem?_zipWith]
   rw [List.getElem?_append_right (by omega), get_nth S _ h, Nat.sub_self, show (List.zipWith Prod.mk S A).length = A.length by simp; omega, Nat.sub_self]
   rfl
 · rw [List.getElem?_eq_none (by simp; omega), List.getElem?_eq_none (by simp; omega)]
theorem wds_len (C S : List Int) (h : sm (cc C) 16 = S.length) : (wds C S).length = S.length := by
 simp [wds, cds_len, h]
theorem wds_get (C S : List Int) (h : sm (cc C) 16 = S.length) (i : Nat) (hi : i < S.length) : ∃ x, (cds (cc C) 16)[i]? = some x ∧ (wds C S)[i]? = some (nth S i, x) := by
 have hl : i < (cds (cc C) 16).length := by rw [cds_len]; omega
 refine ⟨_, List.getElem?_eq_getElem hl, ?_⟩
 simp only [wds, List.zip, List.getElem?_zipWith, get_nth S i hi, List.getElem?_eq_getElem hl]
theorem wds_mem (C S : List Int) (x : Int × Nat × Nat) (hx : x ∈ wds C S) : x.1 ∈ S ∧ x.2 ∈ cds (cc C) 16 := List.of_mem_zip (a := x.1) (b := x.2) hx
def symW (L : List (Int × Nat × Nat)) (s : Int) : Option (Nat × Nat) := (L.reverse.find? fun x => decide (x.1 = s)).map (·.2)
def codW (L : List (Int × Nat × Nat)) (p : Int × Int) : Option Int := (L.reverse.find? fun x => decide (p = ((x.2.1 : Int), (x.2.2 : Int)))).map (·.1)
theorem symW_snoc (L : List (Int × Nat × Nat)) (x : Int × Nat × Nat) (s : Int) : symW (L ++ [x]) s = if s = x.1 then some x.2 else symW L s := by
 unfold symW
 rw [List.reverse_append, List.reverse_singleton, List.singleton_append, List.find?_cons]
 by_cases h : s = x.1
 · simp [h]
 · have : ¬ x.1 = s := fun e => h e.symm
   simp [h, this]
theorem codW_snoc (L : List (Int × Nat × Nat)) (x : Int × Nat × Nat) (p : Int × Int) : codW (L ++ [x]) p = if p = ((x.2.1 : Int), (x.2.2 : Int)) then some x.1 else codW L p := by
 unfold codW
 rw [List.reverse_append, List.reverse_singleton, List.singleton_append, List.find?_cons]
 by_cases h : p = ((x.2.1 : Int), (x.2.2 : Int))
 · simp [h]
 · simp [h]
theorem symW_mem {L : List (Int × Nat × Nat)} {s : Int} {y : Nat × Nat} (h : symW L s = some y) : (s, y) ∈ L := by
 unfold symW at h
 cases hf : L.reverse.find? fun x => decide (x.1 = s) with
 | none => rw [hf] at h; cases h
 | some x =>
  rw [hf] at h
  have h1 := List.mem_of_find?_eq_some hf
  have h2 := List.find?_some hf
  simp only [Option.map_some, Option.some.injEq] at h
  simp only [decide_eq_true_eq] at h2
  subst h; subst h2
  simpa using h1
theorem symW_none {L : List (Int × Nat × Nat)} {s : Int} (h : symW L s = none) : ∀ x ∈ L, x.1 ≠ s := by
 unfold symW at h
 rw [Option.map_eq_none_iff, List.find?_eq_none] at h
 intro x hx
 simpa using h x (by simpa using hx)
theorem codW_mem {L : List (Int × Nat × Nat)} {a b : Nat} {s : Int} (h : codW L ((a : Int), (b : Int)) = some s) : (s, a, b) ∈ L := by
 unfold codW at h
 cases hf : L.reverse.find? fun x => decide (((a : Int), (b : Int)) = ((x.2.1 : Int), (x.2.2 : Int))) with
 | none => rw [hf] at h; cases h
 | some x =>
  rw [hf] at h
  have h1 := List.mem_of_find?_eq_some hf
  have h2 := List.find?_some hf
  simp only [Option.map_some, Option.some.injEq] at h
  simp only [decide_eq_true_eq, Prod.mk.injEq] at h2
  obtain ⟨s', a', b'⟩ := x
  simp only at h h2
  obtain ⟨h3, h4⟩ := h2
  have h5 : a = a' := by omega
  have h6 : b = b' := by omega
  subst h; subst h5; subst h6
  simpa using h1
theorem codW_none {L : List (Int × Nat × Nat)} {a b : Nat} (h : codW L ((a : Int), (b : Int)) = none) : ∀ x ∈ L, x.2 ≠ (a, b) := by
 unfold codW at h
 rw [Option.map_eq_none_iff, List.find?_eq_none] at h
 intro x hx
 have := h x (by simpa using hx)
 intro e
 rw [e] at this
 simp at this
structure Good (L : List (Int × Nat × Nat)) : Prop where
 long : ∀ x ∈ L, 1 ≤ x.2.1 ∧ x.2.1 ≤ 16 ∧ x.2.2 + 1 < 2 ^ x.2.1
 sym : ∀ x ∈ L, ∀ y ∈ L, x.1 = y.1 → x = y
 pre : ∀ x ∈ L, ∀ y ∈ L, x.2.1 ≤ y.2.1 → y.2.2 / 2 ^ (y.2.1 - x.2.1) = x.2.2 → x = y
 range : ∀ x ∈ L, 0 ≤ x.1 ∧ x.1 < 256
theorem wds_good {C S : List Int} (h : tabE C S = 0) : Good (wds C S) := by
 obtain ⟨h1, h2, h3, h4, h5, h6⟩ := tabE_ok h
 have idx : ∀ x ∈ wds C S, ∃ i, i < S.length ∧ x.1 = nth S i ∧ (cds (cc C) 16)[i]? = some x.2 ∧ (wds C S)[i]? = some x := fun x hx => by
  obtain ⟨i, hi, e⟩ := List.getElem_of_mem hx
  rw [wds_len C S h2] at hi
  obtain ⟨y, e1, e2⟩ := wds_get C S h2 i hi
  have e3 : (wds C S)[i]? = some x := by rw [List.getElem?_eq_getElem (by rw [wds_len C S h2]; exact hi), e]
  rw [e2] at e3
  obtain rfl : (nth S i, y) = x := by simpa using e3
  exact ⟨i, hi, rfl, e1, e2⟩
 refine ⟨fun x hx => ?_, fun x hx y hy e => ?_, fun x hx y hy hl hp => ?_, fun x hx => h4 _ (wds_mem C S x hx).1⟩
 · have := cds_lt (cc C) h6 x.2 (wds_mem C S x hx).2
   exact ⟨this.2.1, this.2.2, this.1⟩
 · obtain ⟨i, hi, ei, ci, wi⟩ := idx x hx
   obtain ⟨j, hj, ej, cj, wj⟩ := idx y hy
   have hij : i = j := by
    rw [ei, ej] at e
    have gi := get_nth S i hi
    have gj := get_nth S j hj
    rw [e] at gi
    exact (List.getElem?_inj hi h5).1 (by rw [gi, gj])
   subst hij
   rw [wi] at wj
   simpa using wj
 · obtain ⟨i, hi, ei, ci, wi⟩ := idx x hx
   obtain ⟨j, hj, ej, cj, wj⟩ := idx y hy
   by_cases hij : i = j
   · subst hij; rw [wi] at wj; simpa using wj
   · exact absurd hp (cds_apart (cc C) i j x.2 y.2 ci cj hij hl)
theorem Good.symW {L : List (Int × Nat × Nat)} (h : Good L) {x : Int × Nat × Nat} (hx : x ∈ L) : symW L x.1 = some x.2 := by
 cases hs : Go.Proofs.YtehbjhocgnfpmaaDoor.symW L x.1 with
 | none => exact absurd rfl (symW_none hs x hx)
 | some y =>
  have := h.sym _ (symW_mem hs) x hx rfl
  rw [← this]
theorem Good.codW {L : List (Int × Nat × Nat)} (h : Good L) {x : Int × Nat × Nat} (hx : x ∈ L) : codW L ((x.2.1 : Int), (x.2.2 : Int)) = some x.1 := by
 cases hs : Go.Proofs.YtehbjhocgnfpmaaDoor.codW L ((x.2.1 : Int), (x.2.2 : Int)) with
 | none => exact absurd rfl (codW_none hs x hx)
 | some y =>
  have := h.pre _ (codW_mem hs) x hx (Nat.le_refl _) (by simp)
  rw [← this]

end Go.Proofs.YtehbjhocgnfpmaaDoor
/- Maps that a call makes, keyed by ints or by pairs of ints, told by a function from keys to values. -/
namespace Go.Proofs.YtehbjhocgnfpmaaDoor
open Go.RowKit
def entryOf {K : Type} (enc : K → Value) (x : K × Value × Nat) : MapEntry := { key := enc x.1, val := x.2.1, born := x.2.2 }
def findIn {K : Type} [DecidableEq K] (k : K) : List (K × Value × Nat) → Nat → Option (Nat × Value)
 | [], _ => none
 | x :: l, i => if k = x.1 then some (i, x.2.1) else findIn k l (i + 1)
structure KeyLaw {K : Type} [DecidableEq K] (P : Program) (kt : TypeId) (enc : K → Value) : Prop where
 check : ∀ (w : World) (b : Bool) (k : K), (Instr.checkKey b 10000 kt (enc k)).run P w = .ok () w
 find : ∀ (w : World) (k : K) (l : List (K × Value × Nat)), (Instr.findKey kt (enc k) (l.map (entryOf enc))).run P w = .ok (findIn k l 0) w
 same : ∀ k, Instr.sameBits 10000 (enc k) (enc k) = true
def MapF {K : Type} [DecidableEq K] (enc : K → Value) (w : World) (b : Nat) (f : K → Option Value) : Prop :=
 ∃ (l : List (K × Value × Nat)) (clock : Nat), w.heap[b]? = some (.map (l.map (entryOf enc)).toArray clock) ∧ ∀ k, (findIn k l 0).map (·.2) = f k
section
variable {K : Type} [DecidableEq K] {P : Program} {enc : K → Value}
theorem findIn_shift (k : K) (l : List (K × Value × Nat)) : ∀ i, findIn k l i = (findIn k l 0).map fun x => (x.1 + i, x.2) := by
 induction l with
 | nil => intro i; rfl
 | cons x l ih =>
  intro i
  simp only [findIn]
  split
  · simp
  · rw [ih (i + 1), ih (0 + 1)]
    cases findIn k l 0 with
    | none => rfl
    | some y => simp; omega
theorem findIn_append (k : K) (l m : List (K × Value × Nat)) : ∀ i, findIn k (l ++ m) i = (findIn k l i).or (findIn k m (i + l.length)) := by
 induction l with
 | nil => intro i; simp [findIn]
 | cons x l ih =>
  intro i
  simp only [List.cons_append, findIn]
  split
  · simp
  · rw [ih, List.length_cons, show i + 1 + l.length = i + (l.length + 1) by omega]
theorem findIn_modify (k j : K) (v : Value) : ∀ (l : List (K × Value × Nat)) (n i : Nat) (u : Value), findIn k l n = some (n + i, u) →
 (findIn j (l.modify i fun e => (k, v, e.2.2)) n).map (·.2) = if j = k then some v else (findIn j l n).map (·.2) := by
 intro l
 induction l with
 | nil => intro n i u h; simp [findIn] at h
 | cons x l ih =>
  intro n i u h
  simp only [findIn] at h
  split at h
  · rename_i hk
    simp only [Option.some.injEq, Prod.mk.injEq] at h
    have hi : i = 0 := by omega
    subst hi
    simp only [List.modify_zero_cons, findIn]
    by_cases hj : j = k
    · simp [hj]
    · have : ¬ j = x.1 := fun e => hj (e.trans hk.symm)
      simp [hj, this]
  · rename_i hk
    cases i with
    | zero =>
     exfalso
     rw [findIn_shift] at h
     cases hf : findIn k l 0 with
     | none => simp [hf] at h
     | some y => simp [hf] at h; omega
    | succ i =>
     simp only [List.modify_succ_cons, findIn]
     have h' : findIn k l (n + 1) = some (n + 1 + i, u) := by rw [h]; congr 2; omega
     split
     · rename_i hj
       have : ¬ j = k := fun e => hk (e ▸ hj)
       simp [this]
     · exact ih (n + 1) i u h'
theorem MapF.new (w : World) : MapF enc (w.alloc (.map #[] 0)) w.heap.size (fun _ => none) :=
 ⟨[], 0, heap_alloc_new w _, fun _ => rfl⟩
theorem MapF.lt {w : World} {b : Nat} {f : K → Option Value} (h : MapF enc w b f) : b < w.heap.size := by
 obtain ⟨l, c, h, _⟩ := h
 exact (Array.getElem?_eq_some_iff.1 h).1
theorem MapF.of_heap {w w' : World} {b : Nat} {f : K → Option Value} (h : MapF enc w b f) (hh : w'.heap[b]? = w.heap[b]?) : MapF enc w' b f := by
 obtain ⟨l, c, h, hf⟩ := h
 exact ⟨l, c, by rw [hh]; exact h, hf⟩
theorem shape_map {w : World} {b : Nat} {es : Array MapEntry} {c : Nat} (h : w.heap[b]? = some (.map es c)) : (getObj b : Sem Obj).run P w = .ok (.map es c) w := by
 simp [getObj, Sem.run, h]
theorem MapF.lookup {w : World} {b : Nat} {f : K → Option Value} {mt kt et : TypeId} (h : MapF enc w b f) (hm : P.underlying mt = some (.map kt et)) (law : KeyLaw P kt enc) (k : K) (ok : Bool)
 {z : Value} (hz : ∀ w, (zeroValue et).run P w = .ok z w) :
 (Instr.lookup mt (.map (some b)) (enc k) ok).run P w = .ok (if ok then .tuple #[(f k).getD z, .bool (f k).isSome] else (f k).getD z) w := by
 obtain ⟨l, c, hb, hf⟩ := h
 have hfk := hf k
 simp only [Instr.lookup, Sem.run_bind, run_underlying hm, Result.andThen_ok, shape_map hb, Sem.run_pure, law.check, law.find]
 cases hfi : findIn k l 0 with
 | none =>
  rw [hfi] at hfk
  simp only [Option.map_none] at hfk
  rw [← hfk]
  simp [hz]
 | some y =>
  rw [hfi] at hfk
  simp only [Option.map_some] at hfk
  rw [← hfk]
  simp
theorem MapF.update {w : World} {b : Nat} {f : K → Option Value} {mt kt et : TypeId} (h : MapF enc w b f) (hm : P.underlying mt = some (.map kt et)) (law : KeyLaw P kt enc) (k : K) (v : Value) :
 ∃ w', (Instr.mapUpdate mt (.map (some b)) (enc k) v).run P w = .ok () w' ∧ MapF enc w' b (fun j => if j = k then some v else f j) ∧
  (∀ W, W.heap.size ≤ b → Ext W w → Ext W w') ∧ ∀ i, i ≠ b → w'.heap[i]? = w.heap[i]? := by
 obtain ⟨l, c, hb, hf⟩ := h
 have hlt : b < w.heap.size := (Array.getElem?_eq_some_iff.1 hb).1
 have hset : ∀ o : Obj, (setObj b o).run P w = .ok () { w with heap := w.heap.setIfInBounds b o } := by
  intro o
  simp [setObj, Sem.run, hb]
 have hext : ∀ (o : Obj) W, W.heap.size ≤ b → Ext W w → Ext W { w with heap := w.heap.setIfInBounds b o } := fun o W hW hE =>
  Below.trans hE ⟨rfl, rfl, rfl, by simp, fun i hi => by simp only [Array.getElem?_setIfInBounds]; rw [if_neg (by omega)]⟩
 have hoth : ∀ (o : Obj) i, i ≠ b → ({ w with heap := w.heap.setIfInBounds b o } : World).heap[i]? = w.heap[i]? := fun o i hi => by
  simp only [Array.getElem?_setIfInBounds]; rw [if_neg (fun e => hi e.symm)]
 have hnew : ∀ (o : Obj), ({ w with heap := w.heap.setIfInBounds b o } : World).heap[b]? = some o := fun o => by
  simp [hlt]
 cases hfi : findIn k l 0 with
 | none =>
  refine ⟨{ w with heap := w.heap.setIfInBounds b (.map ((l ++ [(k, v, c)]).map (entryOf enc)).toArray (c + 1)) }, ?_, ⟨l ++ [(k, v, c)], c + 1, hnew _, fun j => ?_⟩, hext _, hoth _⟩
  · simp only [Instr.mapUpdate, Sem.run_bind, run_underlying hm, Result.andThen_ok, shape_map hb, law.check, law.find, hfi]
    rw [hset]
    congr 4
    simp [entryOf]
  · show _ = if j = k then some v else f j
    rw [findIn_append, ← hf j]
    by_cases hj : j = k
    · subst hj; simp [hfi, findIn]
    · cases findIn j l 0 <;> simp [findIn, hj]
 | some y =>
  obtain ⟨i, u⟩ := y
  have hmod := fun j => findIn_modify k j v l 0 i u (by rw [hfi]; simp)
  have hik : ∃ e, l[i]? = some e ∧ e.1 = k := by
   have : ∀ (l : List (K × Value × Nat)) n i u, findIn k l n = some (n + i, u) → ∃ e, l[i]? = some e ∧ e.1 = k := by
    intro l
    induction l with
    | nil => intro n i u h; simp [findIn] at h
    | cons x l ih =>
     intro n i u h
     simp only [findIn] at h
     split at h
     · rename_i hk
       simp only [Option.some.injEq, Prod.mk.injEq] at h
       have hi : i = 0 := by omega
       subst hi
       exact ⟨x, rfl, hk.symm⟩
     · cases i with
       | zero =>
        exfalso
        rw [findIn_shift] at h
        cases hf : findIn k l 0 with
        | none => simp [hf] at h
        | some y => simp [hf] at h; omega
       | succ i => exact ih (n + 1) i u (by rw [h]; congr 2; omega)
   exact this l 0 i u (by rw [hfi]; simp)
  obtain ⟨e, he, hek⟩ := hik
  refine ⟨{ w with heap := w.heap.setIfInBounds b (.map ((l.modify i fun e => (k, v, e.2.2)).map (entryOf enc)).toArray c) }, ?_, ⟨l.modify i fun e => (k, v, e.2.2), c, hnew _, fun j => ?_⟩, hext _, hoth _⟩
  · simp only [Instr.mapUpdate, Sem.run_bind, run_underlying hm, Result.andThen_ok, shape_map hb, law.check, law.find, hfi]
    have hold : (((l.map (entryOf enc)).toArray[i]?).map (·.key)).getD (enc k) = enc k := by simp [he, entryOf, hek]
    rw [hold]
    simp only [Instr.keyThatStays, law.same, if_true, Sem.run_pure, Result.andThen_ok]
    rw [hset]
    congr 4
    apply Array.ext_getElem?
    intro j
    simp only [Array.getElem?_modify, List.getElem?_toArray, List.getElem?_map, List.getElem?_modify]
    by_cases hij : i = j
    · subst hij; simp [he, entryOf]
    · simp [hij]
  · rw [hmod j, hf j]
end
def ik (n : Int) : Value := .int .i64 n
theorem keyLaw_int {P : Program} {kt : TypeId} (h : P.underlying kt = some (.int .i64)) : KeyLaw P kt ik where
 check w b k := by
  unfold ik
  rw [show (10000 : Nat) = 9999 + 1 from rfl, Instr.checkKey]
  simp [run_underlying h]
 find w k l := by
  have key : ∀ (l : List (Int × Value × Nat)) i, Instr.findNow (.int .i64) (ik k) (l.map (entryOf ik)) i = some (findIn k l i) := by
   intro l
   induction l with
   | nil => intro i; rfl
   | cons x l ih =>
    intro i
    simp only [List.map_cons, Instr.findNow, findIn, entryOf, ik, Instr.sameNow, if_true]
    by_cases hx : k = x.1
    · simp [hx]
    · have : (k == x.1) = false := by simpa using hx
      simp only [this, hx, if_false]
      exact ih (i + 1)
  simp [Instr.findKey, run_underlying h, key]
 same k := by unfold ik; rw [Instr.sameBits.eq_2]; simp
section
variable {K : Type} [DecidableEq K] {P : Program} {enc : K → Value}
end

end Go.Proofs.YtehbjhocgnfpmaaDoor
/- Slices of arrays. -/
namespace Go.Proofs.YtehbjhocgnfpmaaDoor
open Go.RowKit
set_option linter.unusedVariables false
section
variable {P : Program} {W w : World} {a : Act} {x : Operand} {t ty : TypeId}
theorem V.sliceA {b off N l h s q m c : Nat} {e : TypeId} {lo hi : Option Operand} (ht : P.underlying t = some (.array N e)) (hs : (P.info? e).map (·.size) = some s) (hx : a.eval x = .pointer (some ⟨b, off, none⟩)) (hl : Lo a lo l) (hh : Up a N hi h) (h1 : l ≤ h) (h2 : h ≤ N) (h3 : l < N) (hq : off + l * s = q) (hm : h - l = m) (hc : N - l = c) :
 Val P (.slice t x lo hi none) ty a (.slice (some ⟨b, q, none⟩) m c) := fun d pos af g w => by
 subst hm; subst hc
 have e0 : P.elem t = e := by simp [Program.elem, ht]
 have e1 : P.arrayLen t = N := by simp [Program.arrayLen, ht]
 have ht' : P.underlying t = some (.array (P.arrayLen t) (P.elem t)) := by rw [e0, e1]; exact ht
 have fin : ∀ {lv hv : Option Value}, lo.map a.eval = lv → hi.map a.eval = hv → (Instr.sliceAt t (.pointer (some ⟨b, off, none⟩)) lv hv none).run P w = ((sizeOf (P.elem t)).run P w).andThen (fun s w => .ok (slicedAt ⟨b, off, none⟩ l h N s) w) →
  (execOp a.eval ⟨d, .slice t x lo hi none, ty, pos, af, g⟩).run P w = .ok (.value (.slice (some ⟨b, q, none⟩) (h - l) (N - l))) w := by
  intro lv hv e1 e2 hr
  rw [e0, run_sizeOf' w hs, Result.andThen_ok] at hr
  have e3 : slicedAt (⟨b, off, none⟩ : Addr) l h N s = .slice (some ⟨b, q, none⟩) (h - l) (N - l) := by
   unfold slicedAt
   rw [if_neg (by omega)]
   simp only [Addr.add_mid, hq]
  simp only [execOp, hx, e1, e2, Option.map_none, Sem.run_bind, hr, Result.andThen_ok, Sem.run_pure, e3]
 cases hl with
 | none => cases hh with
  | none => exact fin rfl rfl (by have := run_sliceAt_array_all (P := P) w t ⟨b, off, none⟩ ht'; rwa [e1] at this)
  | @some y k2 i2 _ hy hj =>
   unfold IsN at hj
   subst hj
   have := run_sliceAt_array_h (P := P) w t ⟨b, off, none⟩ ht' k2 (h : Int) (by omega) (by omega)
   rw [Int.toNat_natCast, e1] at this
   exact fin rfl (by rw [Option.map_some, hy]) this
 | @some y1 k1 i1 _ hy1 hj1 =>
  unfold IsN at hj1
  subst hj1
  cases hh with
  | none =>
   have := run_sliceAt_array_l (P := P) w t ⟨b, off, none⟩ ht' k1 (l : Int) (by omega) (by omega)
   rw [Int.toNat_natCast, e1] at this
   exact fin (by rw [Option.map_some, hy1]) rfl this
  | @some y k2 i2 _ hy hj =>
   unfold IsN at hj
   subst hj
   have := run_sliceAt_array_lh (P := P) w t ⟨b, off, none⟩ ht' k1 k2 (l : Int) (h : Int) (by omega) (by omega) (by omega)
   rw [Int.toNat_natCast, Int.toNat_natCast, e1] at this
   exact fin (by rw [Option.map_some, hy1]) (by rw [Option.map_some, hy]) this
structure EqT (P : Program) (t : TypeId) (n : Nat) : Prop where
 guard : P.eqGuardType P.depth t = false
 eq : ∀ (l m : List Int) (w : World), l.length = n → m.length = n → (Op.equal t (.agg (iv l)) (.agg (iv m))).run P w = .ok (decide (l = m)) w
theorem V.neqA {y : Operand} {u : TypeId} {l m : List Int} {n : Nat} (ht : EqT P t n) (hx : a.eval x = .agg (iv l)) (hy : a.eval y = .agg (iv m)) (hl : Len l n) (hm : Len m n) : Val P (.binOp .neq t x y u) ty a (.bool (decide (l ≠ m))) := fun d pos af g w => by
 have e := ht.eq l m w hl hm
 have e1 : (eqGuard .neq t x y (.agg (iv l)) (.agg (iv m))).run P w = .ok () w := by
  unfold eqGuard
  have hp : ∀ w : World, (program : Sem Program).run P w = .ok P w := fun w => rfl
  simp [Sem.run_bind, ht.guard, hp]
 have e2 : (binOp .neq t (.agg (iv l)) (.agg (iv m))).run P w = .ok (.bool (decide (l ≠ m))) w := by
  have : binOp .neq t (.agg (iv l)) (.agg (iv m)) = (do pure (.bool (!(← Op.equal t (.agg (iv l)) (.agg (iv m)))))) := rfl
  rw [this]
  simp only [Sem.run_bind, e, Result.andThen_ok, Sem.run_pure, ne_eq, decide_not]
 simp only [execOp, hx, hy, Sem.run_bind, e1, Result.andThen_ok, e2, Sem.run_pure]
theorem V.shrB {yk k : IntKind} {y : Operand} {u : TypeId} {m n : Int} {j N : Nat} (hx : a.eval x = .int k m) (hy : a.eval y = .int yk n) (hj : IsN n j) (h : j ≤ N) (hk : k.bits = N) : Val P (.binOp .shr t x y u) ty a (.int k (m / 2 ^ j)) := fun d pos af g w => by
 unfold IsN at hj
 subst hk
 have e : m.fdiv (2 ^ j) = m / 2 ^ j := Int.fdiv_eq_ediv_of_nonneg _ (Int.pow_nonneg (by omega))
 have h0 : ¬ n < 0 := by omega
 have hm : Min.min n.toNat k.bits = j := by omega
 simp only [execOp, hx, hy, binOp_shr, Op.shift, eqGuard, if_neg h0, hm, e]; rfl
end
section
variable {W w : World} {rs rs' : List Res}
theorem St.isl {g n : Nat} {l : List Int} (hS : St W w rs) (p : Pull (Go.Proofs.YtehbjhocgnfpmaaDoor.arr g n l) rs rs') (hn : n ≤ 9223372036854775807) : ISl w (.slice (some ⟨g, 0, none⟩) n n) l :=
 ISl.of_row (hS.arr p).1 (hS.arr p).2 (by unfold maxLen; omega)
end
theorem mapk1 (k : IntKind) (l : List Int) (a : Int) : l.map (Value.int k) ++ [Value.int k a] = (l ++ [a]).map (Value.int k) := by simp
theorem mapk2 (k : IntKind) (l : List Int) (a b : Int) : l.map (Value.int k) ++ [Value.int k a, Value.int k b] = (l ++ [a, b]).map (Value.int k) := by simp
theorem mapk3 (k : IntKind) (l : List Int) (a b c : Int) : l.map (Value.int k) ++ [Value.int k a, Value.int k b, Value.int k c] = (l ++ [a, b, c]).map (Value.int k) := by simp
theorem mapk4 (k : IntKind) (l : List Int) (a b c d : Int) : l.map (Value.int k) ++ [Value.int k a, Value.int k b, Value.int k c, Value.int k d] = (l ++ [a, b, c, d]).map (Value.int k) := by simp
theorem mapkl (k : IntKind) (l m : List Int) : l.map (Value.int k) ++ m.map (Value.int k) = (l ++ m).map (Value.int k) := by simp
theorem oneAll {l : List Value} (h : l.all (·.oneCell') = true) : ∀ u ∈ l, u.oneCell' = true := List.all_eq_true.1 h
theorem oneMap (k : IntKind) (l : List Int) : ∀ u ∈ l.map (Value.int k), u.oneCell' = true := fun u hu => by
 obtain ⟨x, _, rfl⟩ := List.mem_map.1 hu; rfl
theorem St.nilk {W w : World} {rs : List Res} (h : St W w rs) (e : TypeId) (s : Nat) (k : IntKind) : St W w (Go.Proofs.YtehbjhocgnfpmaaDoor.own e s none 0 0 (([] : List Int).map (Value.int k)) :: rs) := h.nil e s
def allFrom (l m : List Int) : Nat → Nat → Bool
 | _, 0 => true
 | k, n + 1 => (nth l k == nth m k) && allFrom l m (k + 1) n
theorem allFrom_iff (l m : List Int) : ∀ n k, allFrom l m k n = true ↔ ∀ i, i < n → nth l (k + i) = nth m (k + i)
 | 0, k => by simp [allFrom]
 | n + 1, k => by
  rw [allFrom, Bool.and_eq_true, allFrom_iff l m n (k + 1)]
  constructor
  · intro ⟨h1, h2⟩ i hi
    cases i with
    | zero => simpa using h1
    | succ i => have := h2 i (by omega); rwa [show k + (i + 1) = k + 1 + i by omega]
  · intro h
    refine ⟨by simpa using h 0 (by omega), fun i hi => ?_⟩
    have := h (i + 1) (by omega)
    rwa [show k + 1 + i = k + (i + 1) by omega]
theorem EqT.struct {P : Program} {t : TypeId} {fs : Array Field} {n : Nat} (hg : P.eqGuardType P.depth t = false) (ht : P.underlying t = some (.struct fs)) (hsi : P.stoodInHeld t = false) (hn : fs.toList.length = n)
 (hf : ∀ (i : Nat) (f : Field), fs.toList[i]? = some f → f.name ≠ "_" ∧ f.offset = i ∧ P.underlying f.type = some (.int .i64)) : EqT P t n :=
 ⟨hg, fun l m w hl hm => by
  have he : (Op.equal t (.agg (iv l)) (.agg (iv m))).run P w = .ok (allFrom l m 0 n) w := by
   unfold Op.equal
   rw [show Op.maxDepth = (Op.maxDepth - 2) + 1 + 1 from rfl, Op.equalIn]
   have hp : (program : Sem Program).run P w = .ok P w := rfl
   simp only [Sem.run_bind, run_underlying ht, Result.andThen_ok, hp, hsi, Bool.false_eq_true, if_false]
   rw [← Array.forIn_toList]
   have hlen : fs.toList.length = n := hn
   have hf' : ∀ (i : Nat) (f : Field), fs.toList[i]? = some f → f.name ≠ "_" ∧ f.offset = 0 + i ∧ P.underlying f.type = some (.int .i64) := fun i f h => by rw [Nat.zero_add]; exact hf i f h
   have hk : 0 + fs.toList.length = n := by omega
   rw [show allFrom l m 0 n = allFrom l m 0 fs.toList.length by rw [hlen]]
   generalize fs.toList = L at hf' hk
   generalize 0 = k at hf' hk ⊢
   clear hlen hf hn
   induction L generalizing k with
   | nil => simp [allFrom]
   | cons f L ih =>
    obtain ⟨h1, h2, h3⟩ := hf' 0 f rfl
    rw [Nat.add_zero] at h2
    simp only [List.length_cons] at hk
    have px : (part f.type (iv l) f.offset).run P w = .ok (.int .i64 (nth l k)) w := by
     rw [run_part, h2, iv_get l k (by omega)]
     simp [isAgg, run_underlying h3]
    have py : (part f.type (iv m) f.offset).run P w = .ok (.int .i64 (nth m k)) w := by
     rw [run_part, h2, iv_get m k (by omega)]
     simp [isAgg, run_underlying h3]
    have pe : (Op.equalIn (Op.maxDepth - 2 + 1) f.type (.int .i64 (nth l k)) (.int .i64 (nth m k))).run P w = .ok (nth l k == nth m k) w :=
     run_equalIn_int w _ f.type .i64 .i64 _ _ h3
    simp only [List.forIn_cons, Sem.run_bind, h1, ne_eq, not_false_eq_true, if_true, px, py, pe, Result.andThen_ok, allFrom, List.length_cons]
    cases hb : (nth l k == nth m k)
    · simp
    · simp only [Bool.not_true, Bool.false_eq_true, if_false, Sem.run_pure, Result.andThen_ok, Bool.true_and]
      exact ih (k + 1) (fun i f h => by have := hf' (i + 1) f (by simpa using h); rwa [show k + (i + 1) = k + 1 + i by omega] at this) (by omega)
  rw [he]
  congr 1
  rw [Bool.eq_iff_iff, allFrom_iff, decide_eq_true_eq]
  constructor
  · intro h; exact list_ext (by omega) fun i hi => by have := h i (by omega); rwa [Nat.zero_add] at this
  · intro h i _; rw [h]⟩
theorem St.allocOwn {W w : World} {rs : List Res} (h : St W w rs) (e : TypeId) (s n : Nat) (cs : List Value) (hl : cs.length = n * s) (hn : n ≤ maxLen) : St W (w.alloc (.cells cs.toArray e)) (Go.Proofs.YtehbjhocgnfpmaaDoor.own e s (some ⟨w.heap.size, 0, none⟩) n n cs :: rs) := by
 have ht : cs.toArray.toList.take (n * s) = cs := by rw [← hl]; simp
 obtain ⟨h1, f, h2, h3, h4⟩ := h
 refine ⟨h1.alloc _, w.heap.size :: f, List.nodup_cons.2 ⟨fun hm => by have := h4.lt _ hm; omega, h2⟩, fun b hb => ?_, [w.heap.size], f, rfl, ⟨rfl, hl, .inr ⟨w.heap.size, n, cs.toArray, rfl, Nat.zero_le _, heap_alloc_new w _, Nat.le_refl _, hn, by simpa using hl, ht⟩⟩, h4.loc fun b hb => ?_⟩
 · rcases List.mem_cons.1 hb with h | h
   · rw [h]; exact h1.sz
   · exact h3 b h
 · exact heap_alloc_old w _ (h4.lt b hb)
section
variable {P : Program} {W w : World} {rs rs' : List Res} {Q : Exit → Act → World → Prop} {K : Act → World → Prop} {o : Oper} {a : Act}
theorem wp_buildSliceO (hS : St W w rs) (t : TypeId) (n : Nat) (ps : List (Nat × Operand)) (ho : o.op = .buildSlice t n ps.toArray) (e : TypeId) (s b : Nat) (el : ElemT P t e s b) (vs cs : List Value) (hvs : Parts a s 0 ps vs cs) (hn : vs.length = n) (hn0 : 0 < n) (hns : n * s ≤ 2 ^ 24)
 (h : ∀ g w', St W w' (own e s (some ⟨g, 0, none⟩) n n cs :: rs) → K (a.put o.dst (.slice (some ⟨g, 0, none⟩) n n)) w') : o.wp P a w K Q := by
 obtain ⟨ht, ⟨i, z, hi, hz, rfl, hb, hzs⟩, hp⟩ := el
 obtain ⟨h1, h2, hcs, hsz⟩ := hvs.vals
 have hns' : 0 < n * i.size := Nat.mul_pos hn0 hp
 have hnm : n ≤ maxLen := by
  have : n * 1 ≤ n * i.size := Nat.mul_le_mul_left _ hp
  unfold maxLen; omega
 have hcl : ∀ us : List Value, (∀ v ∈ us, v.cells.size = i.size) → (us.flatMap (·.cells.toList)).length = us.length * i.size := by
  intro us
  induction us with
  | nil => intro _; simp
  | cons u us ih =>
   intro hu
   have h1 := hu u (by simp)
   rw [List.flatMap_cons, List.length_append, ih fun v hv => hu v (by simp [hv]), List.length_cons, Nat.add_mul, Nat.one_mul, Array.length_toList, h1, Nat.add_comm]
 have hcl' : cs.length = n * i.size := by rw [← hcs, hcl vs hsz, hn]
 refine Go.wp_buildSlice t e n ps.toArray ho (cs.toArray) i z ht hi hz (by omega) (by omega) ?_ (h _ _ (hS.allocOwn e i.size n cs hcl' hnm))
 have h3 := fill_parts i.size vs 0 [] (((List.range (n * i.size)).map (fun j => z.cells[j % z.cells.size]!))) (by simp) (by simp [hn]) hsz
 simp only [List.nil_append] at h3
 rw [← hcs]
 have e1 : (Array.map (fun x : Nat × Operand => (x.1, a.eval x.2)) ps.toArray).toList = (vs.zipIdx 0).map fun x => (x.2, x.1) := by
  rw [← h1]; simp
 rw [e1]
 rw [← h3]
 congr 1
 apply Array.ext_getElem?
 intro j
 simp only [Array.getElem?_map, Array.getElem?_range, List.getElem?_toArray, List.getElem?_map]
 by_cases hj : j < n * i.size
 · simp [hj]
 · simp [hj]
end

end Go.Proofs.YtehbjhocgnfpmaaDoor
/- The types of this translation: what a slice that is made holds. -/
namespace Go.Proofs.YtehbjhocgnfpmaaDoor
theorem eqt68 : EqT Tryd.prog 68 3 := EqT.struct kr9 Tryd.underlying68 kr9 rfl (fun i f h => by
 match i, h with
 | 0, h => cases h; exact ⟨by decide, rfl, Tryd.underlying3⟩
 | 1, h => cases h; exact ⟨by decide, rfl, Tryd.underlying3⟩
 | 2, h => cases h; exact ⟨by decide, rfl, Tryd.underlying3⟩
 | i + 3, h => cases h)
theorem eqt69 : EqT Tryd.prog 69 3 := EqT.struct kr9 Tryd.underlying69 kr9 rfl (fun i f h => by
 match i, h with
 | 0, h => cases h; exact ⟨by decide, rfl, Tryd.underlying3⟩
 | 1, h => cases h; exact ⟨by decide, rfl, Tryd.underlying3⟩
 | 2, h => cases h; exact ⟨by decide, rfl, Tryd.underlying3⟩
 | i + 3, h => cases h)
theorem elz24 : ElemZ Tryd.prog 24 3 .i64 1 8 := ElemZ.mk' (.int .i64 0) Tryd.underlying24 kr9 kr9 (by decide)
theorem elz34 : ElemZ Tryd.prog 34 5 .u8 1 1 := ElemZ.mk' (.int .u8 0) Tryd.underlying34 kr9 kr9 (by decide)

end Go.Proofs.YtehbjhocgnfpmaaDoor
/- What a call hands back: results in slots and results in memory; a call of a function value. -/
namespace Go.Proofs.YtehbjhocgnfpmaaDoor
open Go.RowKit
set_option linter.unusedVariables false
section
variable {P : Program} {W w : World} {rs rs' : List Res} {tmps : Array Value}
def resRun (tmps : Array Value) : ResultVar → Sem Value
 | .tmp t => pure (tmps.getD t undef)
 | .cell a t => do loadVar t (← asAddr (tmps.getD a undef))
def OneRes (P : Program) (tmps : Array Value) (w : World) (r : ResultVar) (v : Value) : Prop := (resRun tmps r).run P w = .ok v w
theorem OneRes.tmp {t : Tmp} {v : Value} (h : tmps.getD t undef = v) : OneRes P tmps w (.tmp t) v := by
 show (pure (tmps.getD t undef) : Sem Value).run P w = .ok v w
 rw [h]; rfl
theorem OneRes.row {p g n : Nat} {ty : TypeId} {cs : List Value} (hp : tmps.getD p undef = .pointer (some ⟨g, 0, none⟩)) (h1 : RowN P ty n) (hn : cs.length = n) (hc : w.rangeAt g 0 cs) : OneRes P tmps w (.cell p ty) (.agg cs.toArray) := by
 show (do loadVar ty (← asAddr (tmps.getD p undef)) : Sem Value).run P w = .ok (.agg cs.toArray) w
 rw [hp]
 obtain ⟨hr, hs⟩ := h1
 cases hu : P.underlying ty with
 | none => rw [hu] at hr; cases hr
 | some d =>
  rw [hu, Option.map_some, Option.some.injEq] at hr
  exact run_loadVar_mid (P := P) w g 0 ty cs d hc hu hr (by rw [hs, hn])
theorem OneRes.arr {p g n : Nat} {ty : TypeId} {l : List Int} (hS : St W w rs) (hp : tmps.getD p undef = .pointer (some ⟨g, 0, none⟩)) (h1 : RowN P ty n) (pl : Pull (Go.Proofs.YtehbjhocgnfpmaaDoor.arr g n l) rs rs') : OneRes P tmps w (.cell p ty) (.agg (iv l)) := by
 obtain ⟨hr, hn⟩ := hS.arr pl
 exact OneRes.row (cs := l.map (Value.int .i64)) hp h1 (by simpa using hn) hr.range
theorem OneRes.blk {p g n : Nat} {ty : TypeId} {cs : List Value} (hS : St W w rs) (hp : tmps.getD p undef = .pointer (some ⟨g, 0, none⟩)) (h1 : RowN P ty n) (pl : Pull (Go.Proofs.YtehbjhocgnfpmaaDoor.blk g cs) rs rs') (hn : cs.length = n) : OneRes P tmps w (.cell p ty) (.agg cs.toArray) :=
 OneRes.row hp h1 hn (hS.blk pl).1.range
inductive AllRes (P : Program) (tmps : Array Value) (w : World) : List ResultVar → List Value → Prop
 | nil : AllRes P tmps w [] []
 | cons {r : ResultVar} {v : Value} {rs : List ResultVar} {vs : List Value} (h : OneRes P tmps w r v) (t : AllRes P tmps w rs vs) : AllRes P tmps w (r :: rs) (v :: vs)
theorem AllRes.run {rs : List ResultVar} {vs : List Value} (h : AllRes P tmps w rs vs) : (rs.mapM (resRun tmps)).run P w = .ok vs w := by
 induction h with
 | nil => rfl
 | @cons r v rs vs h t ih =>
  rw [List.mapM_cons]
  have h' := h
  unfold OneRes at h'
  simp only [Sem.run_bind]
  rw [h', Result.andThen_ok, ih, Result.andThen_ok]
  rfl
theorem results_ok {fn : Func} {xs : List ResultVar} {vs : List Value} (hr : fn.results = xs.toArray) (h : AllRes P tmps w xs vs) :
 (results fn tmps).run P w = .ok (if h : vs.toArray.size = 1 then vs.toArray[0] else .tuple vs.toArray) w := by
 have e : results fn tmps = (do
  let vs ← fn.results.mapM (resRun tmps)
  pure (if h : vs.size = 1 then vs[0] else .tuple vs)) := by
  unfold results
  congr 1
 have h2 := h.run
 rw [e, hr, List.mapM_toArray, Sem.run_bind, Sem.run_map, h2]
 rfl
theorem ret_all {fn : Func} {R : Ending → World → Prop} {a : Act} {xs : List ResultVar} {vs : List Value} (hr : fn.results = xs.toArray) (h : AllRes P a.tmps w xs vs) (hl : vs.length ≠ 1) (hd : a.defers = []) (hR : R (.returned (.tuple vs.toArray)) w) : bodyPost P fn R .ret a w := by
 refine bodyPost_ret (v := .tuple vs.toArray) ?_ hd hR
 rw [results_ok hr h, dif_neg (by simpa using hl)]
theorem ret_one {fn : Func} {R : Ending → World → Prop} {a : Act} {x : ResultVar} {v : Value} (hr : fn.results = #[x]) (h : OneRes P a.tmps w x v) (hd : a.defers = []) (hR : R (.returned v) w) : bodyPost P fn R .ret a w := by
 refine bodyPost_ret (v := v) ?_ hd hR
 rw [results_ok (xs := [x]) hr (AllRes.cons h AllRes.nil)]
 rfl
end
section
variable {P : Program} {w : World} {Q : Exit → Act → World → Prop} {K : Act → World → Prop} {o : Oper} {a : Act}
theorem wp_callV {f : FuncId} {x : Operand} {xs : List Operand} {ats : Array TypeId} {caps : Array Value} (ho : o.op = .call { callee := .value x, args := xs.toArray, argTypes := ats }) (hx : a.eval x = .func (.func f) #[] caps)
 (hcall : ∀ (args : Array Value) (w : World), (callFunc f args).run P w = .ok (.enter f args) w)
 {R : Ending → World → Prop} (hc : Calls P f ((xs.map a.eval).toArray ++ caps) w R) (h : ∀ e w', R e w' → ∃ v, e = .returned v ∧ K (a.put o.dst v) w') : o.wp P a w K Q := by
 have e1 : (execOp a.eval o).run P w = (callFunc f ((xs.map a.eval).toArray ++ caps)).run P w := by
  unfold execOp
  rw [ho]
  have e2 : (#[] ++ (xs.toArray).map a.eval ++ caps : Array Value) = (xs.map a.eval).toArray ++ caps := by simp
  rw [← e2]
  simp only [resolve, hx]
  rfl
 unfold Oper.wp
 rw [e1, hcall, Oper.upon_enter]
 refine hc.mono fun e w' hR => ?_
 obtain ⟨v, rfl, h2⟩ := h e w' hR
 exact h2
theorem wp_callI {m : String} {x : Operand} {xs : List Operand} {ats : Array TypeId} (ho : o.op = .call { callee := .invoke x m, args := xs.toArray, argTypes := ats }) (v : Value) (hx : a.eval x = v) (vs : List Value) (hvs : xs.map a.eval = vs) (f : FuncId) (args : Array Value)
 (hcall : ∀ (w : World), (invoke (.fn (.method m) #[]) (v :: vs).toArray).run P w = .ok (.enter f args) w)
 {R : Ending → World → Prop} (hc : Calls P f args w R) (h : ∀ e w', R e w' → ∃ v, e = .returned v ∧ K (a.put o.dst v) w') : o.wp P a w K Q := by
 have e1 : (execOp a.eval o).run P w = (invoke (.fn (.method m) #[]) (v :: vs).toArray).run P w := by
  unfold execOp
  rw [ho]
  have e2 : (#[a.eval x] ++ (xs.toArray).map a.eval : Array Value) = (v :: vs).toArray := by simp [hx, hvs]
  rw [← e2]
  simp only [resolve]
  rfl
 unfold Oper.wp
 rw [e1, hcall, Oper.upon_enter]
 refine hc.mono fun e w' hR => ?_
 obtain ⟨v, rfl, h2⟩ := h e w' hR
 exact h2
end

inductive Part where
 | ints (l : List Int)
 | val (v : Value)
def Part.cells : Part → List Value
 | .ints l => l.map (Value.int .i64)
 | .val v => [v]
def pcells : List Part → List Value
 | [] => []
 | p :: ps => p.cells ++ pcells ps
def prt (g : Nat) (ps : List Part) : Res := blk g (pcells ps)
inductive AtI : List Part → Nat → List Int → Nat → Prop
 | head {l : List Int} {ps : List Part} {off n : Nat} (hn : Len l n) (h : off < n) : AtI (.ints l :: ps) off l off
 | skipI {l : List Int} {ps : List Part} {off n o2 r : Nat} {l' : List Int} (hn : Len l n) (h : n ≤ off) (ho : off - n = o2) (t : AtI ps o2 l' r) : AtI (.ints l :: ps) off l' r
 | skipV {v : Value} {ps : List Part} {off r : Nat} {l' : List Int} (t : AtI ps off l' r) : AtI (.val v :: ps) (off + 1) l' r
theorem AtI.get {ps : List Part} {off r : Nat} {l : List Int} (h : AtI ps off l r) : (pcells ps)[off]? = some (.int .i64 (nth l r)) := by
 induction h with
 | @head l ps off n hn h =>
  have hl := hn.out
  rw [pcells, Part.cells, List.getElem?_append_left (by simp; omega), List.getElem?_map, get_nth l off (by omega)]; rfl
 | @skipI l ps off n o2 r l' hn h ho t ih =>
  have hl := hn.out
  rw [pcells, Part.cells, List.getElem?_append_right (by simp; omega), List.length_map, hl, ho, ih]
 | @skipV v ps off r l' t ih =>
  rw [pcells, Part.cells, List.singleton_append, List.getElem?_cons_succ, ih]
inductive AtV : List Part → Nat → Value → Prop
 | head {v : Value} {ps : List Part} : AtV (.val v :: ps) 0 v
 | skipI {l : List Int} {ps : List Part} {off n o2 : Nat} {v : Value} (hn : Len l n) (h : n ≤ off) (ho : off - n = o2) (t : AtV ps o2 v) : AtV (.ints l :: ps) off v
 | skipV {u v : Value} {ps : List Part} {off : Nat} (t : AtV ps off v) : AtV (.val u :: ps) (off + 1) v
theorem AtV.get {ps : List Part} {off : Nat} {v : Value} (h : AtV ps off v) : (pcells ps)[off]? = some v := by
 induction h with
 | head => rfl
 | @skipI l ps off n o2 v hn h ho t ih =>
  have hl := hn.out
  rw [pcells, Part.cells, List.getElem?_append_right (by simp; omega), List.length_map, hl, ho, ih]
 | @skipV u v ps off t ih =>
  rw [pcells, Part.cells, List.singleton_append, List.getElem?_cons_succ, ih]
inductive Pre : List Part → Nat → List Part → Prop
 | nil {ps : List Part} : Pre ps 0 []
 | ints {l : List Int} {ps ss : List Part} {n m m2 : Nat} (hn : Len l n) (h : n ≤ m) (hm : m - n = m2) (t : Pre ps m2 ss) : Pre (.ints l :: ps) m (.ints l :: ss)
 | val {v : Value} {ps ss : List Part} {m : Nat} (t : Pre ps m ss) : Pre (.val v :: ps) (m + 1) (.val v :: ss)
theorem Pre.take {ps ss : List Part} {m : Nat} (h : Pre ps m ss) : (pcells ps).take m = pcells ss ∧ (pcells ss).length = m := by
 induction h with
 | nil => exact ⟨by simp [pcells], rfl⟩
 | @ints l ps ss n m m2 hn h hm t ih =>
  have hl := hn.out
  refine ⟨?_, by simp only [pcells, Part.cells, List.length_append, List.length_map, ih.2]; omega⟩
  rw [pcells, pcells, Part.cells, List.take_append, List.length_map, hl, hm, ih.1, List.take_of_length_le (by simp; omega)]
 | @val v ps ss m t ih =>
  exact ⟨by simp only [pcells, Part.cells, List.singleton_append, List.take_succ_cons, ih.1], by simp only [pcells, Part.cells, List.singleton_append, List.length_cons, ih.2]⟩
inductive AtP : List Part → Nat → Nat → List Part → Prop
 | head {ps ss : List Part} {m : Nat} (h : Pre ps m ss) : AtP ps 0 m ss
 | skipI {l : List Int} {ps ss : List Part} {off n o2 m : Nat} (hn : Len l n) (h : n ≤ off) (ho : off - n = o2) (t : AtP ps o2 m ss) : AtP (.ints l :: ps) off m ss
 | skipV {u : Value} {ps ss : List Part} {off m : Nat} (t : AtP ps off m ss) : AtP (.val u :: ps) (off + 1) m ss
theorem AtP.get {ps ss : List Part} {off m : Nat} (h : AtP ps off m ss) : ((pcells ps).drop off).take m = pcells ss ∧ (pcells ss).length = m := by
 induction h with
 | head h => rw [List.drop_zero]; exact h.take
 | @skipI l ps ss off n o2 m hn h ho t ih =>
  have hl := hn.out
  rw [pcells, Part.cells, List.drop_append, List.length_map, hl, ho, List.drop_of_length_le (by simp; omega), List.nil_append]; exact ih
 | @skipV u ps ss off m t ih =>
  rw [pcells, Part.cells, List.singleton_append, List.drop_succ_cons]; exact ih
inductive AtR : List Part → Nat → Nat → List Int → Prop
 | head {l : List Int} {ps : List Part} {n : Nat} (hn : Len l n) : AtR (.ints l :: ps) 0 n l
 | skipI {l l' : List Int} {ps : List Part} {off n o2 m : Nat} (hn : Len l n) (h : n ≤ off) (ho : off - n = o2) (t : AtR ps o2 m l') : AtR (.ints l :: ps) off m l'
 | skipV {u : Value} {l' : List Int} {ps : List Part} {off m : Nat} (t : AtR ps off m l') : AtR (.val u :: ps) (off + 1) m l'
theorem AtR.get {ps : List Part} {off m : Nat} {l : List Int} (h : AtR ps off m l) : ((pcells ps).drop off).take m = l.map (Value.int .i64) ∧ l.length = m := by
 induction h with
 | @head l ps n hn =>
  have hl := hn.out
  rw [List.drop_zero, pcells, Part.cells, List.take_append, List.length_map, hl, Nat.sub_self, List.take_of_length_le (by simp; omega)]
  exact ⟨by simp, rfl⟩
 | @skipI l l' ps off n o2 m hn h ho t ih =>
  have hl := hn.out
  rw [pcells, Part.cells, List.drop_append, List.length_map, hl, ho, List.drop_of_length_le (by simp; omega), List.nil_append]; exact ih
 | @skipV u l' ps off m t ih =>
  rw [pcells, Part.cells, List.singleton_append, List.drop_succ_cons]; exact ih
section
variable {P : Program} {W w : World} {rs rs' : List Res} {Q : Exit → Act → World → Prop} {K : Act → World → Prop} {o : Oper} {a : Act}
theorem wp_load1P (hS : St W w rs) (ty : TypeId) (x : Operand) (ho : o.op = .load ty x) (g off : Nat) (hx : a.eval x = .pointer (some ⟨g, off, none⟩)) (h1 : One P ty) (ps : List Part) (hp : Pull (prt g ps) rs rs')
 (l : List Int) (r : Nat) (hi : AtI ps off l r) (h : K (a.put o.dst (.int .i64 (nth l r))) w) : o.wp P a w K Q :=
 wp_load1 hS ty x ho g off hx h1 _ hp _ hi.get h
theorem wp_loadVP (hS : St W w rs) (ty : TypeId) (x : Operand) (ho : o.op = .load ty x) (g off : Nat) (hx : a.eval x = .pointer (some ⟨g, off, none⟩)) (h1 : One P ty) (ps : List Part) (hp : Pull (prt g ps) rs rs')
 (v : Value) (hi : AtV ps off v) (h : K (a.put o.dst v) w) : o.wp P a w K Q :=
 wp_load1 hS ty x ho g off hx h1 _ hp _ hi.get h
theorem prt_range {g off m : Nat} {ps : List Part} {cs : List Value} (hS : St W w rs) (hp : Pull (prt g ps) rs rs') (h : ((pcells ps).drop off).take m = cs) : w.rangeAt g off cs := fun j v hv => by
 rw [← h, List.getElem?_take] at hv
 split at hv
 · rw [List.getElem?_drop] at hv
   rw [(St.blk hS hp).1.cell]; simpa using hv
 · cases hv
theorem wp_loadRP (hS : St W w rs) (ty : TypeId) (x : Operand) (ho : o.op = .load ty x) (g off : Nat) (hx : a.eval x = .pointer (some ⟨g, off, none⟩)) (m : Nat) (h1 : RowN P ty m) (ps : List Part) (hp : Pull (prt g ps) rs rs')
 (l : List Int) (hi : AtR ps off m l) (h : K (a.put o.dst (.agg (iv l))) w) : o.wp P a w K Q :=
 wp_loadR ty x ho g off hx m h1 (l.map (Value.int .i64)) (by simpa using hi.get.2) (prt_range hS hp hi.get.1) h
theorem wp_loadPP (hS : St W w rs) (ty : TypeId) (x : Operand) (ho : o.op = .load ty x) (g off : Nat) (hx : a.eval x = .pointer (some ⟨g, off, none⟩)) (m : Nat) (h1 : RowN P ty m) (ps : List Part) (hp : Pull (prt g ps) rs rs')
 (ss : List Part) (hi : AtP ps off m ss) (h : K (a.put o.dst (.agg (pcells ss).toArray)) w) : o.wp P a w K Q :=
 wp_loadR ty x ho g off hx m h1 (pcells ss) hi.get.2 (prt_range hS hp hi.get.1) h
theorem wp_boxP (hS : St W w rs) (ty : TypeId) (x : Operand) (ho : o.op = .box ty x) (ps : List Part) (hx : a.eval x = .agg (pcells ps).toArray)
 (h : ∀ g w', St W w' (prt g ps :: rs) → K (a.put o.dst (.pointer (some ⟨g, 0, none⟩))) w') : o.wp P a w K Q :=
 wp_boxG hS ty x ho (pcells ps) hx h
end
inductive PutI (z : Int) : List Part → Nat → List Part → Prop
 | head {l : List Int} {ps : List Part} {off n : Nat} (hn : Len l n) (h : off < n) : PutI z (.ints l :: ps) off (.ints (l.set off z) :: ps)
 | skipI {l : List Int} {ps ps' : List Part} {off n o2 : Nat} (hn : Len l n) (h : n ≤ off) (ho : off - n = o2) (t : PutI z ps o2 ps') : PutI z (.ints l :: ps) off (.ints l :: ps')
 | skipV {v : Value} {ps ps' : List Part} {off : Nat} (t : PutI z ps off ps') : PutI z (.val v :: ps) (off + 1) (.val v :: ps')
theorem PutI.eq {z : Int} {ps ps' : List Part} {off : Nat} (h : PutI z ps off ps') : off < (pcells ps).length ∧ pcells ps' = (pcells ps).set off (.int .i64 z) := by
 induction h with
 | @head l ps off n hn h =>
  have hl := hn.out
  refine ⟨by simp [pcells, Part.cells]; omega, ?_⟩
  rw [pcells, pcells, Part.cells, Part.cells, List.set_append_left _ _ (by simp; omega), List.map_set]
 | @skipI l ps ps' off n o2 hn h ho t ih =>
  have hl := hn.out
  refine ⟨by simp [pcells, Part.cells]; omega, ?_⟩
  rw [pcells, pcells, Part.cells, List.set_append_right _ _ (by simp; omega), List.length_map, hl, ho, ih.2]
 | @skipV v ps ps' off t ih =>
  refine ⟨by simp [pcells, Part.cells]; omega, ?_⟩
  rw [pcells, pcells, Part.cells, List.singleton_append, List.singleton_append, List.set_cons_succ, ih.2]
inductive PutV (z : Value) : List Part → Nat → List Part → Prop
 | head {v : Value} {ps : List Part} : PutV z (.val v :: ps) 0 (.val z :: ps)
 | skipI {l : List Int} {ps ps' : List Part} {off n o2 : Nat} (hn : Len l n) (h : n ≤ off) (ho : off - n = o2) (t : PutV z ps o2 ps') : PutV z (.ints l :: ps) off (.ints l :: ps')
 | skipV {v : Value} {ps ps' : List Part} {off : Nat} (t : PutV z ps off ps') : PutV z (.val v :: ps) (off + 1) (.val v :: ps')
theorem PutV.eq {z : Value} {ps ps' : List Part} {off : Nat} (h : PutV z ps off ps') : off < (pcells ps).length ∧ pcells ps' = (pcells ps).set off z := by
 induction h with
 | head => exact ⟨by simp [pcells, Part.cells], rfl⟩
 | @skipI l ps ps' off n o2 hn h ho t ih =>
  have hl := hn.out
  refine ⟨by simp [pcells, Part.cells]; omega, ?_⟩
  rw [pcells, pcells, Part.cells, List.set_append_right _ _ (by simp; omega), List.length_map, hl, ho, ih.2]
 | @skipV v ps ps' off t ih =>
  refine ⟨by simp [pcells, Part.cells]; omega, ?_⟩
  rw [pcells, pcells, Part.cells, List.singleton_append, List.singleton_append, List.set_cons_succ, ih.2]
theorem SetAt.of {v : Value} : ∀ {l : List Value} {i : Nat}, i < l.length → SetAt v i l (l.set i v)
 | [], i, h => by simp at h
 | x :: l, 0, _ => .head
 | x :: l, i + 1, h => .tail (SetAt.of (by simpa using h))
section
variable {P : Program} {W w : World} {rs rs' : List Res} {Q : Exit → Act → World → Prop} {K : Act → World → Prop} {o : Oper} {a : Act}
theorem wp_store1P (hS : St W w rs) (ty : TypeId) (x y : Operand) (ho : o.op = .store ty x y) (g off : Nat) (hx : a.eval x = .pointer (some ⟨g, off, none⟩)) (h1 : One P ty) (ps ps' : List Part) (hp : Pull (prt g ps) rs rs')
 (z : Int) (hy : a.eval y = .int .i64 z) (hi : PutI z ps off ps') (hd : o.dst = none) (h : ∀ w', St W w' (prt g ps' :: rs') → K a w') : o.wp P a w K Q := by
 obtain ⟨h2, h3⟩ := hi.eq
 refine wp_store1 hS ty x y ho g off hx h1 (pcells ps) (pcells ps') hp (.int .i64 z) (.int hy) rfl ?_ hd h
 rw [h3]; exact SetAt.of h2
theorem wp_storeVP (hS : St W w rs) (ty : TypeId) (x y : Operand) (ho : o.op = .store ty x y) (g off : Nat) (hx : a.eval x = .pointer (some ⟨g, off, none⟩)) (h1 : One P ty) (ps ps' : List Part) (hp : Pull (prt g ps) rs rs')
 (z : Value) (hy : IsV (a.eval y) z) (hz : z.oneCell' = true) (hi : PutV z ps off ps') (hd : o.dst = none) (h : ∀ w', St W w' (prt g ps' :: rs') → K a w') : o.wp P a w K Q := by
 obtain ⟨h2, h3⟩ := hi.eq
 refine wp_store1 hS ty x y ho g off hx h1 (pcells ps) (pcells ps') hp z hy hz ?_ hd h
 rw [h3]; exact SetAt.of h2
def partOk : Part → Bool
 | .ints _ => true
 | .val v => v.oneCell'
theorem parts_one : ∀ {ps : List Part}, ps.all partOk = true → (pcells ps).all (·.oneCell') = true
 | [], _ => rfl
 | .ints l :: ps, h => by
  simp only [List.all_cons, Bool.and_eq_true] at h
  simp only [pcells, Part.cells, List.all_append, Bool.and_eq_true]
  refine ⟨?_, parts_one h.2⟩
  rw [List.all_eq_true]; intro u hu; obtain ⟨x, _, rfl⟩ := List.mem_map.1 hu; rfl
 | .val v :: ps, h => by
  simp only [List.all_cons, Bool.and_eq_true] at h
  simp only [pcells, Part.cells, List.all_append, Bool.and_eq_true]
  exact ⟨by simpa [partOk] using h.1, parts_one h.2⟩
theorem wp_storePP (hS : St W w rs) (ty : TypeId) (x y : Operand) (ho : o.op = .store ty x y) (g : Nat) (hx : a.eval x = .pointer (some ⟨g, 0, none⟩)) (m : Nat) (h1 : RowN P ty m) (ps ps' : List Part) (hp : Pull (prt g ps) rs rs')
 (hy : a.eval y = .agg (pcells ps').toArray) (hn : Pre ps m ps) (hn' : Pre ps' m ps') (hv : ps'.all partOk = true) (hd : o.dst = none) (h : ∀ w', St W w' (prt g ps' :: rs') → K a w') : o.wp P a w K Q :=
 wp_storeG hS ty x y ho g hx m h1 (pcells ps) (pcells ps') hp hy hn.take.2 hn'.take.2 (parts_one hv) hd h
theorem wp_allocP (hS : St W w rs) (ty : TypeId) (ho : o.op = .alloc ty) (ps : List Part) (hz : ∀ w, (zeroValue ty).run P w = .ok (.agg (pcells ps).toArray) w)
 (h : ∀ g w', St W w' (prt g ps :: rs) → K (a.put o.dst (.pointer (some ⟨g, 0, none⟩))) w') : o.wp P a w K Q :=
 wp_alloc hS ty ho _ (pcells ps) hz rfl h
end

def mp {K : Type} [DecidableEq K] (enc : K → Value) (g : Nat) (f : K → Option Value) : Res where
 holds w fp := fp = [g] ∧ MapF enc w g f
 lt := fun ⟨e, h⟩ b hb => by rw [e, List.mem_singleton] at hb; rw [hb]; exact h.lt
 loc := fun ⟨e, h⟩ hs => ⟨e, h.of_heap (hs _ (by rw [e]; simp))⟩
def pk (x : Int × Int) : Value := .agg #[.int .i64 x.1, .int .i64 x.2]
theorem sameBits_pk (k : Int × Int) : Instr.sameBits 10000 (pk k) (pk k) = true := by
 unfold pk
 rw [show (10000 : Nat) = 9999 + 1 from rfl, Instr.sameBits]
 simp [Instr.sameBits.eq_2]
theorem keyLaw_pair {P : Program} {kt e : TypeId} (ht : P.underlying kt = some (.array 2 e)) (he : P.underlying e = some (.int .i64)) (hs : (P.info? e).map (·.size) = some 1) : KeyLaw P kt pk where
 check w b k := by
  have px : ∀ i (v : Value), (#[Value.int .i64 k.1, .int .i64 k.2] : Array Value)[i]? = some v → (part e #[Value.int .i64 k.1, .int .i64 k.2] (i * 1)).run P w = .ok v w := fun i v hv => by
   have e3 : (isAgg e).run P w = .ok false w := by simp [isAgg, run_underlying he]
   rw [run_part, e3, Nat.mul_one, Result.andThen_ok]
   simp only [Bool.false_eq_true, if_false, hv]
  have p0 := px 0 (.int .i64 k.1) rfl
  have p1 := px 1 (.int .i64 k.2) rfl
  have ck : ∀ z : Int, (Instr.checkKey b 9999 e (.int .i64 z)).run P w = .ok () w := fun z => by
   rw [show (9999 : Nat) = 9998 + 1 from rfl, Instr.checkKey]
   simp [run_underlying he]
  have hsz := run_sizeOf' (P := P) w hs
  unfold pk
  rw [show (10000 : Nat) = 9999 + 1 from rfl, Instr.checkKey]
  simp only [Sem.run_bind, run_underlying ht, Result.andThen_ok, Std.Legacy.Range.forIn_eq_forIn_range', Std.Legacy.Range.size, Nat.sub_zero, Nat.add_sub_cancel, Nat.div_one]
  rw [show List.range' 0 2 1 = [0, 1] from rfl]
  simp [hsz, p0, p1, ck]
 find w k l := by
  have key : ∀ (l : List ((Int × Int) × Value × Nat)) i, (Instr.findAsking kt (pk k) (l.map (entryOf pk)) i).run P w = .ok (findIn k l i) w := by
   intro l
   induction l with
   | nil => intro i; rfl
   | cons x l ih =>
    intro i
    have e1 := run_equalIn_iv (P := P) w (Op.maxDepth - 2) kt e 2 ht he (fun w => run_sizeOf' w hs) [k.1, k.2] [x.1.1, x.1.2] rfl rfl
    have e2 : (Op.equal kt (pk k) (pk x.1)).run P w = .ok ([k.1, k.2] == [x.1.1, x.1.2]) w := e1
    simp only [List.map_cons, Instr.findAsking, findIn, entryOf, Sem.run_bind, e2, Result.andThen_ok]
    by_cases hx : k = x.1
    · have : ([k.1, k.2] == [x.1.1, x.1.2]) = true := by rw [hx]; simp
      rw [this]; simp [hx]
    · have : ([k.1, k.2] == [x.1.1, x.1.2]) = false := by
       rw [beq_eq_false_iff_ne]; intro h; injection h with h1 h2; injection h2 with h2 _
       exact hx (Prod.ext h1 h2)
      rw [this]; simp only [hx, Bool.false_eq_true, if_false]
      exact ih (i + 1)
  exact (run_findKey_eq (P := P) (w := w) (k := kt) (by rw [ht]) (pk k) _).trans (key l 0)
 same := sameBits_pk
section
variable {K : Type} [DecidableEq K] {P : Program} {enc : K → Value} {W w : World} {rs rs' : List Res} {Q : Exit → Act → World → Prop} {K' : Act → World → Prop} {o : Oper} {a : Act}
theorem St.mp {g : Nat} {f : K → Option Value} (h : St W w rs) (p : Pull (Go.Proofs.YtehbjhocgnfpmaaDoor.mp enc g f) rs rs') : MapF enc w g f := by
 obtain ⟨_, fp, _, _, f1, f2, e, ⟨e1, h4⟩, _⟩ := h.pull p
 exact h4
theorem wp_makeMap (enc : K → Value) (hS : St W w rs) (t : TypeId) (ho : o.op = .makeMap t none)
 (h : ∀ g w', St W w' (Go.Proofs.YtehbjhocgnfpmaaDoor.mp enc g (fun _ => none) :: rs) → K' (a.put o.dst (.map (some g))) w') : o.wp P a w K' Q := by
 have hE : Ext w (w.alloc (.map #[] 0)) := (Ext.refl w).alloc _
 have hst : St w (w.alloc (.map #[] 0)) [Go.Proofs.YtehbjhocgnfpmaaDoor.mp enc w.heap.size (fun _ => none)] :=
  ⟨hE, [w.heap.size], by simp, by simp, [w.heap.size], [], rfl, ⟨rfl, MapF.new w⟩, rfl⟩
 have hh := h _ _ (hS.call1 hst)
 unfold Oper.wp execOp
 simp only [ho]
 exact hh
theorem wp_lookupS (hS : St W w rs) (mt : TypeId) (x i : Operand) (ho : o.op = .lookup mt x i false) (b : Nat) (hx : a.eval x = .map (some b)) (k : K) (hk : a.eval i = enc k) {kt et : TypeId} (hm : P.underlying mt = some (.map kt et)) (law : KeyLaw P kt enc) (z : Value) (hz : ∀ w, (zeroValue et).run P w = .ok z w)
 (f : K → Option Value) (hp : Pull (Go.Proofs.YtehbjhocgnfpmaaDoor.mp enc b f) rs rs') (v : Value) (hf : f k = some v) (h : K' (a.put o.dst v) w) : o.wp P a w K' Q := by
 have hl := (hS.mp hp).lookup hm law k false hz
 unfold Oper.wp execOp
 simp only [ho, hx, hk, Sem.run_bind, hl, hf, Result.andThen_ok, Sem.run_pure]
 exact h
theorem wp_lookupN (hS : St W w rs) (mt : TypeId) (x i : Operand) (ho : o.op = .lookup mt x i false) (b : Nat) (hx : a.eval x = .map (some b)) (k : K) (hk : a.eval i = enc k) {kt et : TypeId} (hm : P.underlying mt = some (.map kt et)) (law : KeyLaw P kt enc) (z : Value) (hz : ∀ w, (zeroValue et).run P w = .ok z w)
 (f : K → Option Value) (hp : Pull (Go.Proofs.YtehbjhocgnfpmaaDoor.mp enc b f) rs rs') (hf : f k = none) (h : K' (a.put o.dst z) w) : o.wp P a w K' Q := by
 have hl := (hS.mp hp).lookup hm law k false hz
 unfold Oper.wp execOp
 simp only [ho, hx, hk, Sem.run_bind, hl, hf, Result.andThen_ok, Sem.run_pure]
 exact h
theorem wp_lookupS2 (hS : St W w rs) (mt : TypeId) (x i : Operand) (ho : o.op = .lookup mt x i true) (b : Nat) (hx : a.eval x = .map (some b)) (k : K) (hk : a.eval i = enc k) {kt et : TypeId} (hm : P.underlying mt = some (.map kt et)) (law : KeyLaw P kt enc) (z : Value) (hz : ∀ w, (zeroValue et).run P w = .ok z w)
 (f : K → Option Value) (hp : Pull (Go.Proofs.YtehbjhocgnfpmaaDoor.mp enc b f) rs rs') (v : Value) (hf : f k = some v) (h : K' (a.put o.dst (.tuple #[v, .bool true])) w) : o.wp P a w K' Q := by
 have hl := (hS.mp hp).lookup hm law k true hz
 unfold Oper.wp execOp
 simp only [ho, hx, hk, Sem.run_bind, hl, hf, Result.andThen_ok, Sem.run_pure]
 exact h
theorem wp_lookupN2 (hS : St W w rs) (mt : TypeId) (x i : Operand) (ho : o.op = .lookup mt x i true) (b : Nat) (hx : a.eval x = .map (some b)) (k : K) (hk : a.eval i = enc k) {kt et : TypeId} (hm : P.underlying mt = some (.map kt et)) (law : KeyLaw P kt enc) (z : Value) (hz : ∀ w, (zeroValue et).run P w = .ok z w)
 (f : K → Option Value) (hp : Pull (Go.Proofs.YtehbjhocgnfpmaaDoor.mp enc b f) rs rs') (hf : f k = none) (h : K' (a.put o.dst (.tuple #[z, .bool false])) w) : o.wp P a w K' Q := by
 have hl := (hS.mp hp).lookup hm law k true hz
 unfold Oper.wp execOp
 simp only [ho, hx, hk, Sem.run_bind, hl, hf, Result.andThen_ok, Sem.run_pure]
 exact h
theorem wp_mapUpdate (hS : St W w rs) (mt : TypeId) (x i y : Operand) (ho : o.op = .mapUpdate mt x i y) (b : Nat) (hx : a.eval x = .map (some b)) (k : K) (hk : a.eval i = enc k) {kt et : TypeId} (hm : P.underlying mt = some (.map kt et)) (law : KeyLaw P kt enc)
 (f : K → Option Value) (hp : Pull (Go.Proofs.YtehbjhocgnfpmaaDoor.mp enc b f) rs rs') (v : Value) (hv : IsV (a.eval y) v) (hd : o.dst = none) (h : ∀ w', St W w' (Go.Proofs.YtehbjhocgnfpmaaDoor.mp enc b (fun j => if j = k then some v else f j) :: rs') → K' a w') : o.wp P a w K' Q := by
 obtain ⟨w', hrun, h1, h2, h3⟩ := (hS.mp hp).update hm law k (a.eval y)
 rw [hv.eq] at h1
 have hE0 : Ext ({ w with heap := #[] } : World) w := ⟨rfl, rfl, rfl, by simp, fun i hi => by simp at hi⟩
 have hE1 := h2 _ (by simp) hE0
 have hlt' := h1.lt
 have hsz : w.heap.size ≤ w'.heap.size := by
  by_cases hc : w.heap.size ≤ b + 1
  · omega
  · have e1 := h3 (w.heap.size - 1) (by omega)
    have e2 : w.heap[w.heap.size - 1]? = some (w.heap[w.heap.size - 1]'(by omega)) := Array.getElem?_eq_getElem (by omega)
    rw [e2] at e1
    have := (Array.getElem?_eq_some_iff.1 e1).1
    omega
 have hO : Only [b] w w' := ⟨hE1.os, hE1.tape, hE1.output, hsz, fun i _ hi => h3 i (by simpa using hi)⟩
 have hh := h w' (by
  refine St.change (rs1 := [Go.Proofs.YtehbjhocgnfpmaaDoor.mp enc b (fun j => if j = k then some v else f j)]) (hS.pull hp) fun f1 hf1 _ _ => ?_
  obtain ⟨rfl, _⟩ := hf1
  exact ⟨[b], ⟨[b], [], rfl, ⟨rfl, h1⟩, rfl⟩, by simp, fun c hc => .inl hc, hO⟩)
 unfold Oper.wp execOp
 simp only [ho, hx, hk, Sem.run_bind, hrun, Result.andThen_ok, Sem.run_pure]
 show K' (a.put o.dst undef) _
 rw [hd]
 exact hh
end

end Go.Proofs.YtehbjhocgnfpmaaDoor
/- The types of this translation: structs in parts. -/
namespace Go.Proofs.YtehbjhocgnfpmaaDoor
theorem zp31 (w : World) : (zeroValue 31).run Tryd.prog w = .ok (.agg (pcells [.ints (List.replicate 16 0), .val (.slice none 0 0)]).toArray) w := by first | exact Tryd.zeroValue31 w | kernel_rfl
theorem zp33 (w : World) : (zeroValue 33).run Tryd.prog w = .ok (.agg (pcells [.ints (List.replicate 16 0), .val (.slice none 0 0), .ints (List.replicate 16 0), .val (.slice none 0 0)]).toArray) w := by first | exact Tryd.zeroValue33 w | kernel_rfl

end Go.Proofs.YtehbjhocgnfpmaaDoor
/- The walks of tables: total, Check, words, Words. -/
namespace Go.Proofs.YtehbjhocgnfpmaaDoor
open Go.RowKit
set_option linter.unusedVariables false
theorem bl91_0_1_2 (m0 : Int) (m1 : Int) (m2 : Int) (w : World) : (Instr.build 91 #[(0, .int .i64 m0), (1, .int .i64 m1), (2, .int .i64 m2)]).run Tryd.prog w = .ok (.agg #[.int .i64 m0, .int .i64 m1, .int .i64 m2]) w := by kernel_rfl
abbrev tv (C : List Int) (v : Value) : Value := .agg (pcells [.ints C, .val v]).toArray
theorem cc_int (C : List Int) (k : Nat) (h : 0 ≤ nth C k) : nth C k = ((cc C k : Nat) : Int) := by unfold cc; omega
theorem ret2_bool {a : Value} {x y : Bool} (h : x = y) : Ending.returned (.tuple #[a, .bool x]) = .returned (.tuple #[a, .bool y]) := by rw [h]
set_option maxRecDepth 100000 in
theorem total_yes (w0 : World) (C : List Int) (v : Value) (hC : Len C 16) (h : totOk C = true) : Calls Tryd.prog 76 #[tv C v] w0 fun e w => e = .returned (.tuple #[.int .i64 (sm (cc C) 16 : Nat), .bool true]) ∧ Ext w0 w := by
 obtain ⟨hb, h16⟩ := (totOk_iff C).1 h
 have HB := hid hb
 clear hb h
 have hS := St.start w0
 go_enter Tryd.func76, Tryd.ntmps76
 repeat' (first
  | (refine y91 ?_) | (refine y9106 ?_) | ((with_reducible refine gs9 1 ?_); (refine wl9 ?_; apply wp_boxP (o := ⟨some 1, _, _, _, _, _⟩) hS 31 _ rfl _ rfl; clear hS; intro g1 w hS; refine put_move ?_; go_step)) | (refine y9120 ?_) | ((fail_if_success with_reducible refine ga9 ?_); go_step))
 go_loopg [4, 9] 16 (fun gk av kv w => ∃ k : Nat, gk + k = 16 ∧ kv = .int .i64 k ∧ av = .int .i64 (sm (cc C) k : Nat) ∧ sm (cc C) k ≤ 256 * k ∧ St w0 w [])
 case atStart => exact ⟨0, rfl, rfl, rfl, by simp [sm], hS.sub sb9⟩
 case round =>
  clear hS
  obtain ⟨k, hk, rfl, rfl, hs, hS⟩ := hrel
  by_cases hlt : k < 16
  · have hx := HB.out k hlt
    have hsm := hid (show sm (cc C) (k + 1) = sm (cc C) k + cc C k from rfl)
    have hci := cc_int C k hx.1
    obtain ⟨y, hy⟩ : ∃ y, cc C k = y := ⟨_, rfl⟩
    rw [hy] at hci hsm
    obtain ⟨x, hxe⟩ : ∃ x, nth C k = x := ⟨_, rfl⟩
    have HX := hid hxe
    rw [hxe] at hci hx
    subst hci
    clear hxe hy
    repeat' (first
     | (refine y98 ?_) | (refine y91 ?_) | (refine y9139 ?_) | ((with_reducible refine gs9 13 ?_); (refine wplD _ (V.lss rfl rfl) kr9 (fun hB => ?_) (fun hB => ?_) <;> (try (have hF : False := (by omega); cases hF)) <;> go_step)) | (refine y990 ?_) | (refine y988 ?_) | (refine y985 ?_) | ((fail_if_success with_reducible refine ga9 ?_); go_step))
    go_roundg (gk - 1)
    case measure => omega
    case rel => exact ⟨k + 1, by omega, by go_num, by rw [hsm.out]; go_num, by rw [hsm.out]; omega, hS⟩
  · obtain rfl : k = 16 := by omega
    repeat' (first
     | (refine y91 ?_) | (refine y990 ?_) | (refine y989 ?_) | ((fail_if_success with_reducible refine ga9 ?_); go_step))
    refine ret_all (xs := [_, _]) rfl (.cons (OneRes.tmp rfl) (.cons (OneRes.tmp rfl) (.nil))) (by simp) rfl ?_
    exact ⟨ret2_bool (decide_eq_true (by omega)), hS.1⟩
set_option maxRecDepth 100000 in
theorem total_no (w0 : World) (C : List Int) (v : Value) (hC : Len C 16) (h : totOk C = false) : Calls Tryd.prog 76 #[tv C v] w0 fun e w => ∃ z, e = .returned (.tuple #[.int .i64 z, .bool false]) ∧ Ext w0 w := by
 have hb : ¬ ((∀ k, k < 16 → 0 ≤ nth C k ∧ nth C k ≤ 256) ∧ sm (cc C) 16 ≤ 256) := by rw [← totOk_iff, h]; simp
 have HB := hid hb
 clear hb h
 have hS := St.start w0
 go_enter Tryd.func76, Tryd.ntmps76
 repeat' (first
  | (refine y91 ?_) | (refine y9106 ?_) | ((with_reducible refine gs9 1 ?_); (refine wl9 ?_; apply wp_boxP (o := ⟨some 1, _, _, _, _, _⟩) hS 31 _ rfl _ rfl; clear hS; intro g1 w hS; refine put_move ?_; go_step)) | (refine y9120 ?_) | ((fail_if_success with_reducible refine ga9 ?_); go_step))
 go_loopg [4, 9] 16 (fun gk av kv w => ∃ k : Nat, gk + k = 16 ∧ kv = .int .i64 k ∧ av = .int .i64 (sm (cc C) k : Nat) ∧ Hid (∀ j, j < k → 0 ≤ nth C j ∧ nth C j ≤ 256) ∧ sm (cc C) k ≤ 256 * k ∧ St w0 w [])
 case atStart => exact ⟨0, rfl, rfl, rfl, hid (fun j hj => absurd hj (by omega)), by simp [sm], hS.sub sb9⟩
 case round =>
  clear hS
  obtain ⟨k, hk, rfl, rfl, HA, hs, hS⟩ := hrel
  by_cases hlt : k < 16
  · have hsm := hid (show sm (cc C) (k + 1) = sm (cc C) k + cc C k from rfl)
    by_cases hx : 0 ≤ nth C k ∧ nth C k ≤ 256
    · have hci := cc_int C k hx.1
      have HA2 : Hid (∀ j, j < k + 1 → 0 ≤ nth C j ∧ nth C j ≤ 256) := hid fun j hj => by
       by_cases hjk : j < k
       · exact HA.out j hjk
       · obtain rfl : j = k := by omega
         exact hx
      obtain ⟨y, hy⟩ : ∃ y, cc C k = y := ⟨_, rfl⟩
      rw [hy] at hci hsm
      obtain ⟨x, hxe⟩ : ∃ x, nth C k = x := ⟨_, rfl⟩
      have HX := hid hxe
      rw [hxe] at hci hx
      subst hci
      clear hxe hy
      repeat' (first
       | (refine y98 ?_) | (refine y91 ?_) | (refine y9139 ?_) | ((with_reducible refine gs9 13 ?_); (refine wplD _ (V.lss rfl rfl) kr9 (fun hB => ?_) (fun hB => ?_) <;> (try (have hF : False := (by omega); cases hF)) <;> go_step)) | (refine y990 ?_) | (refine y988 ?_) | (refine y985 ?_) | ((fail_if_success with_reducible refine ga9 ?_); go_step))
      go_roundg (gk - 1)
      case measure => omega
      case rel => exact ⟨k + 1, by omega, by go_num, by rw [hsm.out]; go_num, HA2, by rw [hsm.out]; omega, hS⟩
    · obtain ⟨x, hxe⟩ : ∃ x, nth C k = x := ⟨_, rfl⟩
      have HX := hid hxe
      rw [hxe] at hx
      have hx2 : x < 0 ∨ 256 < x := by omega
      clear hxe hx
      repeat' (first
       | ((with_reducible refine gs9 11 ?_); refine wplV (.int .i64 x) (V.as (V.indexIv Tryd.underlying29 Tryd.underlying3 isz3 rfl rfl hC IsN.cast (by omega)) HX.out) kr9 ?_; go_step) | go_big_skip | (refine y91 ?_) | (refine y9141 ?_) | ((with_reducible refine gs9 13 ?_); (refine wplD _ (V.lss rfl rfl) kr9 (fun hB => ?_) (fun hB => ?_) <;> (try (have hF : False := (by omega); cases hF)) <;> go_step)) | (refine y990 ?_) | (refine y988 ?_) | ((fail_if_success with_reducible refine ga9 ?_); go_step))
      all_goals
       refine ret_all (xs := [_, _]) rfl (.cons (OneRes.tmp rfl) (.cons (OneRes.tmp rfl) (.nil))) (by simp) rfl ?_
       exact ⟨_, rfl, hS.1⟩
  · obtain rfl : k = 16 := by omega
    have hgt : 256 < sm (cc C) 16 := by
     have := HB.out
     have h2 := HA.out
     by_cases h3 : sm (cc C) 16 ≤ 256
     · exact absurd ⟨h2, h3⟩ this
     · omega
    repeat' (first
     | (refine y91 ?_) | (refine y990 ?_) | (refine y989 ?_) | ((fail_if_success with_reducible refine ga9 ?_); go_step))
    refine ret_all (xs := [_, _]) rfl (.cons (OneRes.tmp rfl) (.cons (OneRes.tmp rfl) (.nil))) (by simp) rfl ?_
    exact ⟨_, ret2_bool (decide_eq_false (by omega)), hS.1⟩
def hasF (l : List Int) (s : Int) : Option Value := if s ∈ l then some (.bool true) else none
theorem hasF_snoc (S : List Int) (k : Nat) (hk : k < S.length) : (fun j => if j = nth S k then some (Value.bool true) else hasF (S.take k) j) = hasF (S.take (k + 1)) := by
 funext j
 have e : S.take (k + 1) = S.take k ++ [nth S k] := by rw [List.take_add_one, get_nth S k hk]; rfl
 unfold hasF
 rw [e]
 by_cases h : j = nth S k
 · simp [h]
 · simp [h]
theorem nth_mem (S : List Int) (k : Nat) (h : k < S.length) : nth S k ∈ S := List.mem_of_getElem? (get_nth S k h)
theorem nodup_snoc (S : List Int) (k : Nat) (hk : k < S.length) : (S.take (k + 1)).Nodup ↔ (S.take k).Nodup ∧ nth S k ∉ S.take k := by
 have e : S.take (k + 1) = S.take k ++ [nth S k] := by rw [List.take_add_one, get_nth S k hk]; rfl
 rw [e, List.nodup_append]
 constructor
 · intro h; exact ⟨h.1, fun hm => h.2.2 _ hm _ (by simp) rfl⟩
 · intro h; refine ⟨h.1, by simp, fun a ha b hb => ?_⟩
   simp only [List.mem_singleton] at hb
   subst hb
   intro e; subst e; exact h.2 ha
set_option maxRecDepth 100000 in
set_option maxHeartbeats 4000000 in
theorem check_any (w0 : World) (C S : List Int) (ad : Option Addr) (n c : Nat) (hC : Len C 16) (hv : Sl w0 1 (.slice ad n c) n (S.map (Value.int .i64))) (hn : n ≤ 9223372036854775807) :
 Calls Tryd.prog 52 #[tv C (.slice ad n c)] w0 fun e w => e = .returned (.int .i64 (tabE C S)) ∧ Ext w0 w := by
 have hSl : S.length = n := by have := hv.1; simpa using this
 have HSl := hid hSl
 clear hSl
 have hS := St.start w0
 by_cases ht : totOk C = true
 case neg =>
  have hE := hid (show tabE C S = 4 by unfold tabE; rw [if_neg (fun h => ht h.1)])
  have ht2 := hid (show totOk C = false by simpa using ht)
  clear ht
  go_enter Tryd.func52, Tryd.ntmps52
  repeat' (first
   | ((with_reducible refine gt9 _ (.call ⟨.value (.func 76), _, _⟩) ?_); refine wpl_call (f := 76) Tryd.call76 kr9 ?_; refine ⟨_, (total_no _ C _ hC ht2.out), ?_⟩; rintro e w ⟨z, rfl, hE2⟩; replace hS := hS.ext hE2; clear hE2; refine ⟨_, rfl, ?_⟩; refine put_move ?_; go_step) | go_skip | (refine y91 ?_) | (refine y9140 ?_) | ((with_reducible refine gs9 18 ?_); (refine wplB _ (V.not rfl) kr9 (fun hB => ?_) (fun hB => ?_) <;> (try (have hF : False := (absurd hB (by decide)); cases hF)) <;> go_step)) | (refine y9105 ?_) | ((with_reducible refine gs9 1 ?_); (refine wl9 ?_; apply wp_boxP (o := ⟨some 1, _, _, _, _, _⟩) hS 31 _ rfl _ rfl; clear hS; intro g1 w hS; refine put_move ?_; go_step)) | (refine y9126 ?_) | ((fail_if_success with_reducible refine ga9 ?_); go_step))
  refine ret_one rfl (OneRes.tmp rfl) rfl ?_
  exact ⟨(by rw [hE.out]; first | done | rfl), hS.1⟩
 have HT := hid ht
 clear ht
 by_cases hs : sm (cc C) 16 = n
 case neg =>
  have hE := hid (show tabE C S = 4 by unfold tabE; rw [if_neg (fun h => hs (h.2.trans HSl.out))])
  obtain ⟨t, ht⟩ : ∃ t, sm (cc C) 16 = t := ⟨_, rfl⟩
  rw [ht] at hs
  have HT2 := hid ht
  clear ht
  go_enter Tryd.func52, Tryd.ntmps52
  repeat' (first
   | ((with_reducible refine gt9 _ (.call ⟨.value (.func 76), _, _⟩) ?_); refine wpl_call (f := 76) Tryd.call76 kr9 ?_; refine ⟨_, (total_yes _ C _ hC HT.out), ?_⟩; rintro e w ⟨rfl, hE2⟩; rw [HT2.out]; replace hS := hS.ext hE2; clear hE2; refine ⟨_, rfl, ?_⟩; refine put_move ?_; go_step) | (refine y91 ?_) | (refine y9139 ?_) | ((with_reducible refine gs9 18 ?_); (refine wplB _ (V.not rfl) kr9 (fun hB => ?_) (fun hB => ?_) <;> (try (have hF : False := (absurd hB (by decide)); cases hF)) <;> go_step)) | (refine y9105 ?_) | (refine y9107 ?_) | (refine y9100 ?_) | (refine y992 ?_) | ((with_reducible refine gs9 1 ?_); (refine wl9 ?_; apply wp_boxP (o := ⟨some 1, _, _, _, _, _⟩) hS 31 _ rfl _ rfl; clear hS; intro g1 w hS; refine put_move ?_; go_step)) | (refine y9126 ?_) | (refine y9118 ?_) | ((fail_if_success with_reducible refine ga9 ?_); go_step))
  refine ret_one rfl (OneRes.tmp rfl) rfl ?_
  exact ⟨(by rw [hE.out]; first | done | rfl), hS.1⟩
 have h256 : n ≤ 256 := by
  have := (totOk_iff C).1 HT.out
  omega
 have HS2 := hid hs
 have HE := hid (show tabE C S = if symsB S then if S.Nodup ∧ roomB (cc C) = true then 0 else 4 else 1 by unfold tabE; rw [if_pos ⟨HT.out, hs.trans HSl.out.symm⟩])
 clear hs
 go_enter Tryd.func52, Tryd.ntmps52
 repeat' (first
  | ((with_reducible refine gt9 _ (.call ⟨.value (.func 76), _, _⟩) ?_); refine wpl_call (f := 76) Tryd.call76 kr9 ?_; refine ⟨_, (total_yes _ C _ hC HT.out), ?_⟩; rintro e w ⟨rfl, hE2⟩; rw [HS2.out]; replace hS := hS.ext hE2; clear hE2; refine ⟨_, rfl, ?_⟩; refine put_move ?_; go_step) | (refine y91 ?_) | (refine y9139 ?_) | ((with_reducible refine gs9 18 ?_); (refine wplB _ (V.not rfl) kr9 (fun hB => ?_) (fun hB => ?_) <;> (try (have hF : False := (absurd hB (by decide)); cases hF)) <;> go_step)) | (refine y9105 ?_) | (refine y9107 ?_) | (refine y9100 ?_) | (refine y992 ?_) | ((with_reducible refine gs9 1 ?_); (refine wl9 ?_; apply wp_boxP (o := ⟨some 1, _, _, _, _, _⟩) hS 31 _ rfl _ rfl; clear hS; intro g1 w hS; refine put_move ?_; go_step)) | (refine y9126 ?_) | (refine y9118 ?_) | ((with_reducible refine gs9 26 ?_); (refine wl9 ?_; apply wp_makeMap (o := ⟨some 26, _, _, _, _, _⟩) ik hS 152 rfl; clear hS; intro g26 w hS; refine put_move ?_; go_step)) | ((fail_if_success with_reducible refine ga9 ?_); go_step))
 go_loopg [6, 30] n (fun gk bv kv w => ∃ (k : Nat) (b : Bool), gk + k = n ∧ kv = .int .i64 k ∧ bv = .bool b ∧ Hid (b = true ↔ ¬ (S.take k).Nodup) ∧ Hid (∀ j, j < k → 0 ≤ nth S j ∧ nth S j < 256) ∧ St w0 w [mp ik g26 (hasF (S.take k)), prt g1 [.ints C, .val (.slice ad n c)]])
 case atStart => exact ⟨0, false, rfl, rfl, rfl, hid (by simp), hid (fun j hj => absurd hj (by omega)), (by rw [show hasF (S.take 0) = fun _ => none from (by funext s; simp [hasF])]; exact hS)⟩
 case round =>
  clear hS
  obtain ⟨k, b, hk, rfl, rfl, HB, HR, hS⟩ := hrel
  by_cases hlt : k < n
  · have hk2 := hid (show k < S.length by rw [HSl.out]; exact hlt)
    have HF := hid (hasF_snoc S k hk2.out)
    have HN := hid (nodup_snoc S k hk2.out)
    obtain ⟨x, hx⟩ : ∃ x, nth S k = x := ⟨_, rfl⟩
    have HX := hid hx
    rw [hx] at HF HN
    clear hx
    by_cases hr : 0 ≤ x ∧ x < 256
    · have HR2 : Hid (∀ j, j < k + 1 → 0 ≤ nth S j ∧ nth S j < 256) := hid fun j hj => by
       by_cases hjk : j < k
       · exact HR.out j hjk
       · obtain rfl : j = k := by omega
         rw [HX.out]; exact hr
      by_cases hm : x ∈ S.take k
      · have hf : hasF (S.take k) x = some (.bool true) := by rw [hasF, if_pos hm]
        have HB2 : Hid (true = true ↔ ¬ (S.take (k + 1)).Nodup) := hid (by rw [HN.out]; simp [hm])
        clear HN hm
        cases b
        all_goals
         repeat' (first
          | ((with_reducible refine gs9 32 ?_); refine wpl_indexI hv Tryd.underlying24 isz3 rfl rfl IsN.cast (by omega) rfl ?_; rw [HX.out]; intro b32 o32 hc32; go_step) | go_big_skip | (refine y91 ?_) | (refine y9141 ?_) | ((with_reducible refine gs9 35 ?_); (refine wplD _ (V.lss rfl rfl) kr9 (fun hB => ?_) (fun hB => ?_) <;> (try (have hF : False := (by omega); cases hF)) <;> go_step)) | (refine y990 ?_) | (refine y987 ?_) | (refine y985 ?_) | (refine y9124 ?_) | ((with_reducible refine gs9 44 ?_); (refine wl9 ?_; apply wp_lookupS (enc := ik) hS 152 _ _ rfl _ rfl _ rfl Tryd.underlying152 (keyLaw_int Tryd.underlying3) (.bool false) (fun w => Tryd.zeroValue4 w) _; (case hp => exact pl9); (case hf => with_reducible assumption); refine put_move ?_; go_step)) | ((with_reducible refine gt9 _ (.mapUpdate 152 _ _ _) ?_); (refine wl9 ?_; apply wp_mapUpdate (enc := ik) hS 152 _ _ _ rfl _ rfl _ rfl Tryd.underlying152 (keyLaw_int Tryd.underlying3) _; (case hp => exact pl9); (case hv => (first | exact IsV.int rfl | exact IsV.bool rfl | exact IsV.slice rfl | exact IsV.pointer rfl | exact IsV.string rfl | exact IsV.map rfl | exact IsV.func rfl | exact IsV.agg rfl)); (case hd => exact rfl); clear hS; intro w hS)) | ((fail_if_success with_reducible refine ga9 ?_); go_step))
         go_roundg (gk - 1)
         case measure => omega
         case rel => exact ⟨k + 1, true, by omega, by go_num, rfl, HB2, HR2, by rw [← HF.out]; exact hS.sub sb9⟩
      · have hf : hasF (S.take k) x = none := by rw [hasF, if_neg hm]
        have HB2 : Hid (b = true ↔ ¬ (S.take (k + 1)).Nodup) := hid (by rw [HN.out, HB.out]; simp [hm])
        clear HN hm
        cases b
        all_goals
         repeat' (first
          | ((with_reducible refine gs9 32 ?_); refine wpl_indexI hv Tryd.underlying24 isz3 rfl rfl IsN.cast (by omega) rfl ?_; rw [HX.out]; intro b32 o32 hc32; go_step) | go_big_skip | (refine y91 ?_) | (refine y9141 ?_) | ((with_reducible refine gs9 35 ?_); (refine wplD _ (V.lss rfl rfl) kr9 (fun hB => ?_) (fun hB => ?_) <;> (try (have hF : False := (by omega); cases hF)) <;> go_step)) | (refine y990 ?_) | (refine y987 ?_) | (refine y985 ?_) | (refine y9124 ?_) | ((with_reducible refine gs9 44 ?_); (refine wl9 ?_; apply wp_lookupN (enc := ik) hS 152 _ _ rfl _ rfl _ rfl Tryd.underlying152 (keyLaw_int Tryd.underlying3) (.bool false) (fun w => Tryd.zeroValue4 w) _; (case hp => exact pl9); (case hf => with_reducible assumption); refine put_move ?_; go_step)) | ((with_reducible refine gt9 _ (.mapUpdate 152 _ _ _) ?_); (refine wl9 ?_; apply wp_mapUpdate (enc := ik) hS 152 _ _ _ rfl _ rfl _ rfl Tryd.underlying152 (keyLaw_int Tryd.underlying3) _; (case hp => exact pl9); (case hv => (first | exact IsV.int rfl | exact IsV.bool rfl | exact IsV.slice rfl | exact IsV.pointer rfl | exact IsV.string rfl | exact IsV.map rfl | exact IsV.func rfl | exact IsV.agg rfl)); (case hd => exact rfl); clear hS; intro w hS)) | ((fail_if_success with_reducible refine ga9 ?_); go_step))
         go_roundg (gk - 1)
         case measure => omega
         case rel => exact ⟨k + 1, _, by omega, by go_num, rfl, HB2, HR2, by rw [← HF.out]; exact hS.sub sb9⟩
    · have hE4 : Hid (tabE C S = 1) := hid (by
       rw [HE.out, if_neg]
       intro h
       have := List.all_eq_true.1 h x (by rw [← HX.out]; exact nth_mem S k hk2.out)
       simp at this; omega)
      clear HF HN
      have hr2 : x < 0 ∨ 256 ≤ x := by omega
      clear hr
      repeat' (first
       | ((with_reducible refine gs9 32 ?_); refine wpl_indexI hv Tryd.underlying24 isz3 rfl rfl IsN.cast (by omega) rfl ?_; rw [HX.out]; intro b32 o32 hc32; go_step) | go_big_skip | (refine y91 ?_) | (refine y9141 ?_) | ((with_reducible refine gs9 35 ?_); (refine wplD _ (V.lss rfl rfl) kr9 (fun hB => ?_) (fun hB => ?_) <;> (try (have hF : False := (by omega); cases hF)) <;> go_step)) | (refine y990 ?_) | (refine y987 ?_) | (refine y9124 ?_) | ((fail_if_success with_reducible refine ga9 ?_); go_step))
      all_goals
       refine ret_one rfl (OneRes.tmp rfl) rfl ?_
       exact ⟨(by rw [hE4.out]; first | done | rfl), hS.1⟩
  · obtain rfl : k = n := by omega
    have hall : symsB S = true := by
     rw [symsB, List.all_eq_true]
     intro s hs
     obtain ⟨j, hj, rfl⟩ := List.getElem_of_mem hs
     have := HR.out j (by rw [← HSl.out]; exact hj)
     simp [nth, List.getD, hj] at this
     simpa using this
    have htk : S.take k = S := by rw [← HSl.out]; exact List.take_length
    have HB3 : Hid (b = true ↔ ¬ S.Nodup) := hid (by have := HB.out; rwa [htk] at this)
    have HE3 : Hid (tabE C S = if S.Nodup ∧ roomB (cc C) = true then 0 else 4) := hid (by rw [HE.out, if_pos hall])
    have HCp := hid ((totOk_iff C).1 HT.out).1
    clear hall htk HB HE HR
    repeat' (first
     | (refine y91 ?_) | (refine y990 ?_) | (refine y9106 ?_) | (refine y9120 ?_) | ((fail_if_success with_reducible refine ga9 ?_); go_step))
    go_loopg [9, 51] 16 (fun gk nv kv w => ∃ (i : Nat), gk + i = 16 ∧ kv = .int .i64 i ∧ nv = .int .i64 (nx (cc C) i : Nat) ∧ nx (cc C) i < 2 ^ i ∧ Hid (∀ j, j < i → nx (cc C) (j + 1) < 2 ^ (j + 1)) ∧ Hid (0 < i → b = false) ∧ St w0 w [])
    case atStart => exact ⟨0, rfl, rfl, rfl, by simp [nx], hid (fun j hj => absurd hj (by omega)), hid (fun h => absurd h (by omega)), hS.sub sb9⟩
    case round =>
     clear hS
     obtain ⟨i, hi, rfl, rfl, hlt2, HA, HZ, hS⟩ := hrel
     by_cases hlt : i < 16
     · have hx := HCp.out i hlt
       have hci := cc_int C i hx.1
       have HNx := hid (show nx (cc C) (i + 1) = 2 * nx (cc C) i + cc C i from rfl)
       obtain ⟨y, hy⟩ : ∃ y, cc C i = y := ⟨_, rfl⟩
       rw [hy] at hci HNx
       have HX := hid hci
       have hy2 : y ≤ 256 := by omega
       obtain ⟨p, hp⟩ : ∃ p, p = 2 ^ i := ⟨_, rfl⟩
       have hp2 : p ≤ 32768 := by rw [hp]; exact Nat.pow_le_pow_right (n := 2) (j := 15) (by omega) (by omega)
       obtain ⟨z, hz⟩ : ∃ z, nx (cc C) i = z := ⟨_, rfl⟩
       rw [← hp] at hlt2
       have HP : Hid ((2 : Int) ^ (i + 1) = ((2 * p : Nat) : Int)) := hid (by rw [hp, Int.pow_succ]; push_cast; omega)
       have HP2 : Hid (2 ^ (i + 1) = 2 * p) := hid (by rw [hp, Nat.pow_succ]; omega)
       rw [hz] at hlt2 HNx ⊢
       clear hci hy hp hz hx
       by_cases hbad : b = true ∨ 2 * p ≤ 2 * z + y
       · have hE4 : Hid (tabE C S = 4) := hid (by
          rw [HE3.out, if_neg]
          rintro ⟨h1, h2⟩
          rcases hbad with h | h
          · exact (HB3.out.1 h) h1
          · have := (roomB_iff _).1 h2 i hlt
            rw [HNx.out, HP2.out] at this; omega)
         have hbad2 : b = false → 2 * p ≤ 2 * z + y := fun h => by
          rcases hbad with h' | h'
          · rw [h] at h'; cases h'
          · exact h'
         clear hbad
         cases b
         · replace hbad2 := hbad2 rfl
           repeat' (first
            | (refine y973 ?_) | (refine y975 ?_) | (refine y977 ?_) | (refine y983 ?_) | (refine y91 ?_) | (refine y9139 ?_) | (refine y990 ?_) | (refine y985 ?_) | (refine y995 ?_) | (refine y988 ?_) | ((fail_if_success with_reducible refine ga9 ?_); go_step))
           refine ret_one rfl (OneRes.tmp rfl) rfl ?_
           exact ⟨(by rw [hE4.out]; first | done | rfl), hS.1⟩
         · clear hbad2
           repeat' (first
            | (refine y973 ?_) | (refine y975 ?_) | (refine y977 ?_) | go_big_skip | (refine y91 ?_) | (refine y9140 ?_) | (refine y990 ?_) | ((fail_if_success with_reducible refine ga9 ?_); go_step))
           refine ret_one rfl (OneRes.tmp rfl) rfl ?_
           exact ⟨(by rw [hE4.out]; first | done | rfl), hS.1⟩
       · obtain rfl : b = false := by cases b <;> simp_all
         have hgood : 2 * z + y < 2 * p := by
          by_cases h : 2 * p ≤ 2 * z + y
          · exact absurd (.inr h) hbad
          · omega
         have HA2 : Hid (∀ j, j < i + 1 → nx (cc C) (j + 1) < 2 ^ (j + 1)) := hid fun j hj => by
          by_cases hji : j < i
          · exact HA.out j hji
          · obtain rfl : j = i := by omega
            rw [HNx.out, HP2.out]; exact hgood
         clear hbad
         repeat' (first
          | (refine y973 ?_) | (refine y975 ?_) | (refine y977 ?_) | (refine y983 ?_) | (refine y91 ?_) | (refine y9139 ?_) | (refine y990 ?_) | (refine y985 ?_) | (refine y995 ?_) | (refine y988 ?_) | ((fail_if_success with_reducible refine ga9 ?_); go_step))
         go_roundg (gk - 1)
         case measure => omega
         case rel => exact ⟨i + 1, by omega, by go_num, by rw [HNx.out], by rw [HNx.out, HP2.out]; exact hgood, HA2, hid (fun _ => rfl), hS⟩
     · obtain rfl : i = 16 := by omega
       have hE0 : Hid (tabE C S = 0) := hid (by
        rw [HE3.out, if_pos]
        refine ⟨?_, (roomB_iff _).2 HA.out⟩
        have h1 := HZ.out (by omega)
        have h2 := HB3.out
        rw [h1] at h2
        simpa using h2)
       repeat' (first
        | (refine y92 ?_) | (refine y990 ?_) | ((fail_if_success with_reducible refine ga9 ?_); go_step))
       refine ret_one rfl (OneRes.tmp rfl) rfl ?_
       exact ⟨(by rw [hE0.out]; first | done | rfl), hS.1⟩

theorem sm_le (c : Nat → Nat) (k : Nat) : ∀ d, sm c k ≤ sm c (k + d)
 | 0 => Nat.le_refl _
 | d + 1 => by have := sm_le c k d; rw [← Nat.add_assoc, sm]; omega
theorem nx_le (c : Nat → Nat) (k : Nat) (hk : k ≤ 16) (h : nx c 16 < 65536) : nx c k < 65536 := by
 have := nx_up c k (16 - k)
 rw [show k + (16 - k) = 16 by omega] at this
 have h2 : nx c k * 1 ≤ nx c k * 2 ^ (16 - k) := Nat.mul_le_mul_left _ (Nat.two_pow_pos _)
 omega
set_option maxRecDepth 100000 in
set_option maxHeartbeats 4000000 in
theorem wordsOf_any (w0 : World) (C S : List Int) (ad : Option Addr) (n c : Nat) (hC : Len C 16) (hv : Sl w0 1 (.slice ad n c) n (S.map (Value.int .i64))) (hn : n ≤ 9223372036854775807) (hok : tabE C S = 0) :
 Calls Tryd.prog 61 #[tv C (.slice ad n c)] w0 fun e w => ∃ a' c', e = .returned (.slice a' n c') ∧ St w0 w [own 91 3 a' n c' ((wfl (wds C S)).map (Value.int .i64))] := by
 have hSl : S.length = n := by have := hv.1; simpa using this
 obtain ⟨hb, h16, h256, _, _, hroom⟩ := tabE_ok hok
 rw [hSl] at h256 h16
 have hnx := hid ((roomy_iff _).1 hroom)
 have HSl := hid hSl
 have HB := hid hb
 have H16 := hid h16
 clear hSl hb h16 hroom hok
 have hS := St.start w0
 go_enter Tryd.func61, Tryd.ntmps61
 repeat' (first
  | (refine y91 ?_) | (refine y9106 ?_) | ((with_reducible refine gs9 1 ?_); (refine wl9 ?_; apply wp_boxP (o := ⟨some 1, _, _, _, _, _⟩) hS 31 _ rfl _ rfl; clear hS; intro g1 w hS; refine put_move ?_; go_step)) | (refine y9120 ?_) | ((fail_if_success with_reducible refine ga9 ?_); go_step))
 replace hS := hS.nilk 91 3 .i64
 go_loopg [3, 4, 9] 16 (fun gk ov nv kv w => ∃ (k m q : Nat) (a' : Option Addr) (c' : Nat), gk + k = 16 ∧ kv = .int .i64 k ∧ q = nx (cc C) k ∧ nv = .int .i64 q ∧ m = sm (cc C) k ∧ m ≤ n ∧ ov = .slice a' m c' ∧ St w0 w [own 91 3 a' m c' ((wfl (S.zip (cds (cc C) k))).map (Value.int .i64)), prt g1 [.ints C, .val (.slice ad n c)]])
 case atStart => exact ⟨0, 0, 0, none, 0, rfl, rfl, rfl, rfl, rfl, by omega, rfl, by rw [show wfl (S.zip (cds (cc C) 0)) = [] by simp [cds, wfl]]; exact hS.sub sb9⟩
 case round =>
  clear hS
  obtain ⟨k, m, q, a', c', hk, rfl, hq, rfl, hm, hmn, rfl, hS⟩ := hrel
  by_cases hlt : k < 16
  · have hx := HB.out k hlt
    have hci := cc_int C k hx.1
    have HNx := hid (show nx (cc C) (k + 1) = 2 * nx (cc C) k + cc C k from rfl)
    have HSm := hid (show sm (cc C) (k + 1) = sm (cc C) k + cc C k from rfl)
    have hsl : sm (cc C) (k + 1) ≤ n := by have := sm_le (cc C) (k + 1) (15 - k); rw [show k + 1 + (15 - k) = 16 by omega, H16.out] at this; exact this
    have hnl := nx_le (cc C) (k + 1) (by omega) hnx.out
    have HCd := hid (show cds (cc C) (k + 1) = cds (cc C) k ++ (List.range (cc C k)).map (fun j => (k + 1, 2 * nx (cc C) k + j)) from rfl)
    obtain ⟨y, hy⟩ : ∃ y, cc C k = y := ⟨_, rfl⟩
    rw [hy] at hci HNx HSm HCd
    rw [HSm.out, ← hm] at hsl
    rw [HNx.out, ← hq] at hnl
    have HX := hid hci
    have HQ := hid hq
    have HM := hid hm
    have hy2 : y ≤ 256 := by omega
    clear hci hy hx hq hm
    repeat' (first
     | ((with_reducible refine gs9 12 ?_); refine wplV (.int .i64 ((y : Nat) : Int)) (V.as (V.indexIv Tryd.underlying29 Tryd.underlying3 isz3 rfl rfl hC IsN.cast (by omega)) HX.out) kr9 ?_; go_step) | ((with_reducible refine gs9 14 ?_); (refine wplV (.int _ (((2 * q : Nat) : Int))) (V.as (V.shlI rfl rfl isn9 (by omega) (by omega)) (by omega)) rfl ?_; go_step)) | (refine y91 ?_) | (refine y990 ?_) | ((fail_if_success with_reducible refine ga9 ?_); go_step))
    obtain ⟨gk1, hgk1⟩ : ∃ x, x = gk := ⟨_, rfl⟩
    subst hgk1
    go_loopg [3, 4, 16] y (fun gk ov nv kv w => ∃ (j M : Nat) (a' : Option Addr) (c' : Nat) (L : List (Nat × Nat)), gk + j = y ∧ M = m + j ∧ kv = .int .i64 j ∧ nv = .int .i64 (2 * q + j : Nat) ∧ Hid (L = cds (cc C) k ++ (List.range j).map (fun i => (k + 1, 2 * q + i))) ∧ ov = .slice a' M c' ∧ St w0 w [own 91 3 a' M c' ((wfl (S.zip L)).map (Value.int .i64)), prt g1 [.ints C, .val (.slice ad n c)]])
    case atStart => exact ⟨0, m, a', c', _, rfl, rfl, rfl, rfl, hid rfl, rfl, by rw [List.range_zero, List.map_nil, List.append_nil]; exact hS.sub sb9⟩
    case round =>
     clear hS
     obtain ⟨j, M, a2, c2, L, hj, hM, rfl, rfl, HL, rfl, hS⟩ := hrel
     by_cases hlt2 : j < y
     · have HLl : Hid (L.length = M) := hid (by rw [HL.out, List.length_append, cds_len]; simp; have := HM.out; omega)
       have HSn : Hid (wfl (S.zip (L ++ [(k + 1, 2 * q + j)])) = wfl (S.zip L) ++ [nth S M, ((k + 1 : Nat) : Int), ((2 * q + j : Nat) : Int)]) := hid (by
        rw [zip_snoc S L _ (by rw [HLl.out, HSl.out]; omega), wfl_snoc, HLl.out])
       have HL2 : Hid (L ++ [(k + 1, 2 * q + j)] = cds (cc C) k ++ (List.range (j + 1)).map (fun i => (k + 1, 2 * q + i))) := hid (by
        rw [HL.out, List.range_succ, List.map_append, List.append_assoc]; rfl)
       repeat' (first
        | ((with_reducible refine gs9 26 ?_); (refine wplV (.int _ (((k + 1 : Nat) : Int))) (V.as (V.addI rfl rfl (by omega)) (by omega)) rfl ?_; go_step)) | ((with_reducible refine gs9 32 ?_); (refine wplV (.int _ (((2 * q + (j + 1) : Nat) : Int))) (V.as (V.addI rfl rfl (by omega)) (by omega)) rfl ?_; go_step)) | (refine y91 ?_) | (refine y990 ?_) | (refine y9107 ?_) | (refine y9103 ?_) | ((with_reducible refine gs9 23 ?_); (refine wpl_indexI (by with_reducible assumption) Tryd.underlying24 isz3 rfl rfl isn9 (by omega) rfl ?_; intro b23 o23 hc23; go_step)) | (refine y985 ?_) | ((with_reducible refine gs9 28 ?_); (refine wvv9 (V.build (vs := [(0, _), (1, _), (2, _)]) rfl (bl91_0_1_2 _ _ _)) ?_; go_step)) | (refine y9118 ?_) | (refine y9124 ?_) | ((with_reducible refine gs9 29 ?_); (refine wl9 ?_; apply wp_buildSlice1 (o := ⟨some 29, _, _, _, _, _⟩) hS 85 1 _ rfl 91 3 24 el85 _ _; (case hvs => (repeat (first | exact Parts.nil | (apply Parts.agg; (rfl); (rfl)) | (apply Parts.one; exact isv9; (rfl); (rfl))))); (case hn => rfl); (case hn0 => decide); (case hns => decide); clear hS; intro g29 w hS; simp only [List.cons_append, List.nil_append] at hS; refine put_move ?_; go_step)) | ((with_reducible refine gs9 30 ?_); (refine wl9 ?_; apply wp_append (o := ⟨some 30, _, _, _, _, _⟩) hS _ _ 85 rfl 91 3 24 el85 _ _ _ _ rfl; (case hp => exact pl9); (case hx => exact rfl); (case hm => (first | exact hS.slBlk pl9 (by rfl) (by decide) | exact hS.sl pl9 | with_reducible assumption | exact Sl.ext (by with_reducible assumption) hS.1 | exact Sl.nil _ _ | exact Sl.ext (by assumption) hS.1 | assumption)); (case h1 => (first | exact oneAll rfl | exact oneMap _ _ | (intro u hu; cases hu))); (case h63 => unfold maxLen; omega); (case hb => omega); clear hS; intro ad30 c30 w hS; (first | simp only [mapk1] at hS | simp only [mapk2] at hS | simp only [mapk3] at hS | simp only [mapk4] at hS | simp only [mapkl] at hS | skip); refine put_move ?_; go_step)) | ((fail_if_success with_reducible refine ga9 ?_); go_step))
       go_roundg (gk - 1)
       case measure => omega
       case rel =>
        refine ⟨j + 1, M + 1, _, _, L ++ [(k + 1, 2 * q + j)], by omega, by omega, by go_num, rfl, HL2, rfl, ?_⟩
        rw [HSn.out]
        exact hS.sub sb9
     · obtain rfl : j = y := by omega
       have HL3 : Hid (L = cds (cc C) (k + 1)) := hid (by rw [HL.out, HCd.out, HQ.out])
       repeat' (first
        | (refine y9146 ?_) | (refine y990 ?_) | (refine y985 ?_) | ((fail_if_success with_reducible refine ga9 ?_); go_step))
       go_roundg (gk1 - 1)
       case measure => omega
       case rel =>
        refine ⟨k + 1, M, 2 * q + j, _, _, by omega, by go_num, by rw [HNx.out, HQ.out], rfl, by rw [HSm.out, hM, HM.out], by omega, rfl, ?_⟩
        rw [← HL3.out]
        exact hS.sub sb9
  · obtain rfl : k = 16 := by omega
    have hmn2 : m = n := by rw [hm, H16.out]
    subst hmn2
    repeat' (first
     | (refine y91 ?_) | (refine y990 ?_) | ((fail_if_success with_reducible refine ga9 ?_); go_step))
    go_ret
    refine ⟨_, _, rfl, ?_⟩
    unfold wds
    exact hS.sub sb9

end Go.Proofs.YtehbjhocgnfpmaaDoor