/- General lemmas over the model, for any program: array indexing, min and max, results of four values, small arithmetic. -/
import Derived.WalkKit
import Derived.WalkLawsBesides
import Derived.WalkSpells
import Derived.BigQuiet
import Derived.Deep.QuietTactic
import Derived.Deep.LoopGhost
import Derived.Deep.DeepFit
import Derived.Laws.Tables
import Derived.Laws.Rows
import Derived.Deep.WholeRow
import Derived.Deep.MidRow
import Derived.Deep.RegionHeld3
namespace Go
@[go_sem] theorem run_index_arr {P : Program} (w : World) (t : TypeId) (cs : Array Value) (k : IntKind) (i : Int) (h : P.underlying t = some (.array (P.arrayLen t) (P.elem t))) :
    (Instr.index t (.agg cs) (.int k i)).run P w =
      if 0 ≤ i ∧ i < P.arrayLen t then ((sizeOf (P.elem t)).run P w).andThen fun s w => (part (P.elem t) cs (i.toNat * s)).run P w
      else (boundsPanic k i (P.arrayLen t) .index).run P w := by
  simp [Instr.index, run_underlying h, asIntOf]
@[go_sem] theorem run_part {P : Program} (w : World) (t : TypeId) (cs : Array Value) (off : Nat) :
    (part t cs off).run P w = ((isAgg t).run P w).andThen fun b w => if b then ((sizeOf t).run P w).andThen fun s w => .ok (.agg (cs.extract off (off + s))) w else
      match cs[off]? with | some v => .ok v w | none => .halt (.stuck "part: no such cell") w := by
  simp only [part, Sem.run_bind]
  congr 1
  funext b w
  cases b
  · simp only [Bool.false_eq_true, if_false]
    cases cs[off]? <;> rfl
  · simp
@[go_sem high] theorem run_max_int2' {P : Program} (w : World) (ts : Array TypeId) (t : TypeId) (k k' : IntKind) (x y : Int) : (Builtin.max_ ts t #[.int k x, .int k' y]).run P w = .ok (.int k (max x y)) w := by
  rw [run_max_int2]
  congr 2
  omega
@[go_sem high] theorem run_min_int2' {P : Program} (w : World) (ts : Array TypeId) (t : TypeId) (k k' : IntKind) (x y : Int) : (Builtin.min_ ts t #[.int k x, .int k' y]).run P w = .ok (.int k (min x y)) w := by
  rw [run_min_int2]
  congr 2
  omega
@[go_sem high] theorem run_max_int3' {P : Program} (w : World) (ts : Array TypeId) (t : TypeId) (k k' k'' : IntKind) (x y z : Int) : (Builtin.max_ ts t #[.int k x, .int k' y, .int k'' z]).run P w = .ok (.int k (max (max x y) z)) w := by
  rw [run_max_int3]
  congr 2
  omega
@[go_sem high] theorem run_min_int3' {P : Program} (w : World) (ts : Array TypeId) (t : TypeId) (k k' k'' : IntKind) (x y z : Int) : (Builtin.min_ ts t #[.int k x, .int k' y, .int k'' z]).run P w = .ok (.int k (min (min x y) z)) w := by
  rw [run_min_int3]
  congr 2
  omega
theorem results_tmp4 {fn : Func} {t u x y : Tmp} (h : fn.results = #[.tmp t, .tmp u, .tmp x, .tmp y]) (tmps : Array Value) (P : Program) (w : World) :
    (results fn tmps).run P w = .ok (.tuple #[tmps.getD t undef, tmps.getD u undef, tmps.getD x undef, tmps.getD y undef]) w := by
  simp [results, h]
end Go
namespace Go.Proofs.YthmkhpijdpbfbaaDoor
open Go.RowKit
/-- A fact kept from the walk. -/
theorem hid {p : Prop} (h : p) : Hid p := h
/-- The world w' is W with new blocks behind it, and draws made: of what was there nothing has turned. -/
def Ext (W w' : World) : Prop := Below W.heap.size W w'
theorem Ext.refl (W : World) : Ext W W := Below.refl _ _
theorem Ext.trans {a b c : World} (h : Ext a b) (k : Ext b c) : Ext a c := Below.trans h (Below.mono k h.size)
theorem Ext.drew {W w : World} (h : Ext W w) : Ext W w.drew := Below.drew h
theorem Ext.drewN {W w : World} {n : Nat} (h : Ext W w) : Ext W (w.drewN n) := ⟨h.os, h.tape, h.output, h.size, h.block⟩
theorem Ext.alloc {W w : World} (h : Ext W w) (o : Obj) : Ext W (w.alloc o) := Below.alloc h h.size o
theorem Ext.setCell {W w : World} (h : Ext W w) {a : Addr} (ha : W.heap.size ≤ a.block) (v : Value) : Ext W (w.setCell a v) := Below.setCell h ha v
theorem Ext.sz {W w : World} (h : Ext W w) : W.heap.size ≤ w.heap.size := h.size
theorem Ext.at {W w : World} (h : Ext W w) {k : Nat} (hk : k < W.heap.size) : w.heap[k]? = W.heap[k]? := h.block k hk
theorem Ext.cell {W w : World} (h : Ext W w) {p : Addr} {v : Value} (hp : W.cell? p = some v) : w.cell? p = some v :=
  (Below.cell h (World.block_lt_of_cell? W p hp)).trans hp
theorem ret_eq {a b : Value} (h : a = b) : Ending.returned a = .returned b := by rw [h]
theorem int_eq {k : IntKind} {a b : Int} (h : a = b) : Value.int k a = .int k b := by rw [h]
theorem ret_int {k : IntKind} {a b : Int} (h : a = b) : Ending.returned (.int k a) = .returned (.int k b) := by rw [h]
theorem ret_bool {a b : Bool} (h : a = b) : Ending.returned (.bool a) = .returned (.bool b) := by rw [h]

theorem emod_of_tmod_neg (n m : Int) (hm : 0 < m) (h : n.tmod m < 0) : n.tmod m + m = n % m := by
  have := Int.tmod_eq_emod (a := n) (b := m)
  have h2 := Int.emod_nonneg n (b := m) (by omega)
  split at this <;> omega
theorem emod_of_tmod_pos (n m : Int) (hm : 0 < m) (h : 0 ≤ n.tmod m) : n.tmod m = n % m := by
  have := Int.tmod_eq_emod (a := n) (b := m)
  have h2 := Int.emod_nonneg n (b := m) (by omega)
  have h3 := Int.emod_lt_of_pos n hm
  split at this <;> omega

/-- Rounding: the nearest integer to n/d, halves away from nought. -/
def rnd (n d : Int) : Int := if n < 0 then -((2 * -n + d) / (2 * d)) else (2 * n + d) / (2 * d)
theorem rnd_neg (n d : Int) (hd : 1 ≤ d) : rnd (-n) d = - rnd n d := by
  unfold rnd
  by_cases h : n < 0
  · rw [if_neg (by omega), if_pos h]; simp
  · by_cases h0 : n = 0
    · subst h0
      have : d / (2 * d) = 0 := Int.ediv_eq_zero_of_lt (by omega) (by omega)
      simp [this]
    · rw [if_pos (by omega), if_neg h]; simp
theorem rnd_bounds (n d : Int) (B : Int) (h0 : -B ≤ n) (h1 : n ≤ B) (hd : 1 ≤ d) : -B ≤ rnd n d ∧ rnd n d ≤ B := by
  have key : ∀ m : Int, 0 ≤ m → m ≤ B → 0 ≤ (2 * m + d) / (2 * d) ∧ (2 * m + d) / (2 * d) ≤ B := by
    intro m hm hB
    constructor
    · exact Int.ediv_nonneg (by omega) (by omega)
    · have h3 : m * 1 ≤ m * d := Int.mul_le_mul_of_nonneg_left hd hm
      have h4 : (2 * m + d) / (2 * d) < m + 1 := by
        apply Int.ediv_lt_of_lt_mul (by omega)
        have h5 : (m + 1) * (2 * d) = 2 * (m * d) + 2 * d := by rw [Int.add_mul, Int.one_mul, Int.mul_left_comm]
        omega
      omega
  unfold rnd
  split
  · have := key (-n) (by omega) (by omega); omega
  · have := key n (by omega) (by omega); omega
theorem rnd_mono (m n d : Int) (hd : 1 ≤ d) (h : m ≤ n) : rnd m d ≤ rnd n d := by
  have key : ∀ a b : Int, 0 ≤ a → a ≤ b → (2 * a + d) / (2 * d) ≤ (2 * b + d) / (2 * d) := fun a b _ hab =>
    Int.ediv_le_ediv (by omega) (by omega)
  have pos : ∀ a : Int, 0 ≤ a → 0 ≤ (2 * a + d) / (2 * d) := fun a ha => Int.ediv_nonneg (by omega) (by omega)
  unfold rnd
  by_cases h1 : m < 0
  · rw [if_pos h1]
    have := pos (-m) (by omega)
    by_cases h2 : n < 0
    · rw [if_pos h2]
      have := key (-n) (-m) (by omega) (by omega)
      omega
    · rw [if_neg h2]
      have := pos n (by omega)
      omega
  · rw [if_neg h1, if_neg (by omega)]
    exact key m n (by omega) h
theorem rnd_spec (n d : Int) (hd : 1 ≤ d) : 2 * n ≤ 2 * (d * rnd n d) + d ∧ 2 * (d * rnd n d) - d ≤ 2 * n := by
  have key : ∀ a : Int, 2 * a ≤ 2 * (d * ((2 * a + d) / (2 * d))) + d ∧ 2 * (d * ((2 * a + d) / (2 * d))) - d ≤ 2 * a := by
    intro a
    have h1 := Int.mul_ediv_add_emod (2 * a + d) (2 * d)
    have h2 := Int.emod_nonneg (2 * a + d) (b := 2 * d) (by omega)
    have h3 := Int.emod_lt_of_pos (2 * a + d) (b := 2 * d) (by omega)
    rw [Int.mul_assoc] at h1
    omega
  unfold rnd
  split
  · have := key (-n)
    rw [Int.mul_neg d]
    omega
  · exact key n
/-- Clamped to a sample. -/
def samp (n : Int) : Int := min (max n 0) 255
theorem samp_bounds (n : Int) : 0 ≤ samp n ∧ samp n ≤ 255 := by unfold samp; omega
theorem samp_mono (m n : Int) (h : m ≤ n) : samp m ≤ samp n := by unfold samp; omega
theorem mulb (a r A : Int) (R : Int) (ha : -A ≤ a ∧ a ≤ A) (hr : 0 ≤ r ∧ r ≤ R) : -(A * R) ≤ a * r ∧ a * r ≤ A * R := by
  obtain ⟨h1, h2⟩ := ha
  obtain ⟨h3, h4⟩ := hr
  have hA : 0 ≤ A := by omega
  have h6 : A * r ≤ A * R := Int.mul_le_mul_of_nonneg_left h4 hA
  constructor
  · have h5 : -A * r ≤ a * r := Int.mul_le_mul_of_nonneg_right h1 h3
    rw [Int.neg_mul] at h5
    omega
  · have h5 : a * r ≤ A * r := Int.mul_le_mul_of_nonneg_right h2 h3
    omega
end Go.Proofs.YthmkhpijdpbfbaaDoor
