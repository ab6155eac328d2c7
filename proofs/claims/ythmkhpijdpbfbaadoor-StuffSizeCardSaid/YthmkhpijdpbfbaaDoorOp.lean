/- The operations that reach memory, under the word St: an allocation, a load, a store, a slice that is built, an append. -/
import Derived.Test.YthmkhpijdpbfbaaDoorSt
import Derived.Great.BuildSlice
namespace Go.Proofs.YthmkhpijdpbfbaaDoor
open Go.RowKit
section
variable {P : Program} {ops : Array Oper} {Q : Exit → Act → World → Prop} {rest : List Oper} {o : Oper} {a : Act} {w : World}
theorem wpl (hw : Region.wanted o (yielded ops a.tmps) = true) (h : o.wp P a w (wpList P ops Q rest) Q) : wpList P ops Q (o :: rest) a w := by
  unfold wpList
  rw [if_pos hw]
  exact .inl h
/-- Where no arm fits the walk stands still. -/
def Stopped (p : Prop) : Prop := p
theorem stop_load {d : Option Tmp} {t : TypeId} {x : Operand} {ty : TypeId} {pos : String} {af : Array Edge} {g : Option (Nat × Bool)} (h : Stopped (wpList P ops Q (⟨d, .load t x, ty, pos, af, g⟩ :: rest) a w)) : wpList P ops Q (⟨d, .load t x, ty, pos, af, g⟩ :: rest) a w := h
theorem stop_store {d : Option Tmp} {t : TypeId} {x y : Operand} {ty : TypeId} {pos : String} {af : Array Edge} {g : Option (Nat × Bool)} (h : Stopped (wpList P ops Q (⟨d, .store t x y, ty, pos, af, g⟩ :: rest) a w)) : wpList P ops Q (⟨d, .store t x y, ty, pos, af, g⟩ :: rest) a w := h
theorem stop_alloc {d : Option Tmp} {t : TypeId} {ty : TypeId} {pos : String} {af : Array Edge} {g : Option (Nat × Bool)} (h : Stopped (wpList P ops Q (⟨d, .alloc t, ty, pos, af, g⟩ :: rest) a w)) : wpList P ops Q (⟨d, .alloc t, ty, pos, af, g⟩ :: rest) a w := h
theorem stop_box {d : Option Tmp} {t : TypeId} {x : Operand} {ty : TypeId} {pos : String} {af : Array Edge} {g : Option (Nat × Bool)} (h : Stopped (wpList P ops Q (⟨d, .box t x, ty, pos, af, g⟩ :: rest) a w)) : wpList P ops Q (⟨d, .box t x, ty, pos, af, g⟩ :: rest) a w := h
/-- The frame behind an operation, written out. -/
theorem wpl_put {l : List Oper} {a1 : Act} (h : a = a1) (k : wpList P ops Q l a1 w) : wpList P ops Q l a w := h ▸ k
end
/-- A type of one cell. -/
def One (P : Program) (ty : TypeId) : Prop := (P.underlying ty).map TypeDesc.isRow = some false ∧ (P.info? ty).map (·.size) = some 1
/-- A type of n cells, an array's or a struct's. -/
def RowN (P : Program) (ty : TypeId) (n : Nat) : Prop := (P.underlying ty).map TypeDesc.isRow = some true ∧ (P.info? ty).map (·.size) = some n
/-- A slice's type, its elements of s cells and b bytes. -/
structure ElemT (P : Program) (t e : TypeId) (s b : Nat) : Prop where
  ht : P.underlying t = some (.slice e)
  ex : ∃ i z, P.info? e = some i ∧ i.zero = some z ∧ i.size = s ∧ i.bytes = b ∧ z.cells.size = s
  pos : 0 < s
theorem ElemT.mk' {P : Program} {t e : TypeId} {s b : Nat} (z : Value) (ht : P.underlying t = some (.slice e)) (hi : (P.info? e).map (fun i => (i.zero, i.size, i.bytes)) = some (some z, s, b)) (hz : z.cells.size = s) (hp : 0 < s) : ElemT P t e s b := by
  obtain ⟨i, h1, h2, h3, h4⟩ := info_parts hi
  exact ⟨ht, ⟨i, z, h1, h2, h3, h4, hz⟩, hp⟩
/-- The length of a list, as a word that the walk lets be. -/
def Len {α : Type} (l : List α) (n : Nat) : Prop := l.length = n
theorem Len.out {α : Type} {l : List α} {n : Nat} (h : Len l n) : l.length = n := h
theorem Len.rep {α : Type} {z : α} {n : Nat} : Len (List.replicate n z) n := List.length_replicate
theorem Len.set {α : Type} {l : List α} {z : α} {n i : Nat} (h : Len l n) : Len (l.set i z) n := by unfold Len at *; simpa using h
/-- A value is written out. -/
inductive IsV (u : Value) : Value → Prop
  | int {k : IntKind} {n : Int} (h : u = .int k n) : IsV u (.int k n)
  | bool {b : Bool} (h : u = .bool b) : IsV u (.bool b)
  | slice {a : Option Addr} {n c : Nat} (h : u = .slice a n c) : IsV u (.slice a n c)
  | pointer {p : Option Addr} (h : u = .pointer p) : IsV u (.pointer p)
  | string {s : ByteArray} (h : u = .string s) : IsV u (.string s)
  | map {m : Option Nat} (h : u = .map m) : IsV u (.map m)
  | func {f : Fn} {x y : Array Value} (h : u = .func f x y) : IsV u (.func f x y)
  | agg {cs : List Value} (h : u = .agg cs.toArray) : IsV u (.agg cs.toArray)
theorem IsV.eq {u v : Value} (h : IsV u v) : u = v := by cases h <;> assumption
section
variable {P : Program} {W w : World} {rs rs' : List Res} {Q : Exit → Act → World → Prop} {K : Act → World → Prop} {o : Oper} {a : Act}
theorem run_isAgg (w : World) {ty : TypeId} {b : Bool} (h : (P.underlying ty).map TypeDesc.isRow = some b) : (isAgg ty).run P w = .ok b w := by
  cases hu : P.underlying ty with
  | none => simp [hu] at h
  | some d =>
    rw [hu, Option.map_some, Option.some.injEq] at h
    unfold isAgg
    rw [Sem.run_bind, run_underlying hu w]
    subst h
    cases d <;> rfl
theorem run_sizeOf' (w : World) {ty : TypeId} {n : Nat} (h : (P.info? ty).map (·.size) = some n) : (sizeOf ty).run P w = .ok n w := by
  cases hq : P.info? ty with
  | none => simp [hq] at h
  | some i => simp [hq] at h; simp [sizeOf, typeInfo, hq, h]
theorem run_load1 (w : World) {ty : TypeId} {v : Value} {p : Addr} (h1 : One P ty) (hc : w.cell? p = some v) : (Instr.loadAt ty (.pointer (some p))).run P w = .ok v w := by
  simp only [Instr.loadAt, Instr.sureAddr, Sem.run_bind, Sem.run_pure, Result.andThen_ok, loadVar, run_isAgg w h1.1, Bool.false_eq_true, if_false, run_load, hc]
theorem run_store1 (w : World) {ty : TypeId} {u v : Value} {p : Addr} (h1 : One P ty) (hc : w.cell? p = some u) (hf : w.frozen? p = false) (ho : v.oneCell' = true) :
    (Instr.storeAt ty (.pointer (some p)) v).run P w = .ok () (w.setCell p v) := by
  have hcs : v.cells = #[v] := by cases v <;> first | rfl | cases ho
  have ha : p.add 0 = p := by simp [Addr.add]
  simp only [Instr.storeAt, Instr.sureAddr, Sem.run_bind, Sem.run_pure, Result.andThen_ok, storeVar, run_sizeOf' w h1.2, hcs]
  simp only [List.size_toArray, List.length_cons, List.length_nil, Nat.zero_add, ne_eq, not_true_eq_false, if_false, storeCells, Sem.run_bind, ha, run_store P w p v _ ho, hc, hf, Bool.false_eq_true, Result.andThen_ok, Sem.run_pure]
/-- A variable. -/
theorem wp_alloc (hS : St W w rs) (ty : TypeId) (ho : o.op = .alloc ty) (v : Value) (cs : List Value) (hz : ∀ w, (zeroValue ty).run P w = .ok v w) (hc : v.cells = cs.toArray)
    (h : ∀ g w', St W w' (blk g cs :: rs) → K (a.put o.dst (.pointer (some ⟨g, 0, none⟩))) w') : o.wp P a w K Q := by
  have hh := h _ _ (hS.alloc cs ty)
  rw [← hc] at hh
  unfold Oper.wp execOp
  simp only [ho]
  simp [go_sem, hz, newVar, newRow]
  exact hh
theorem wp_allocA (hS : St W w rs) (ty : TypeId) (ho : o.op = .alloc ty) (l : List Int) (n : Nat) (hn : Len l n) (hz : ∀ w, (zeroValue ty).run P w = .ok (.agg (iv l)) w)
    (h : ∀ g w', St W w' (arr g n l :: rs) → K (a.put o.dst (.pointer (some ⟨g, 0, none⟩))) w') : o.wp P a w K Q := by
  have hh := h _ _ (hS.allocArr l n hn ty)
  unfold Oper.wp execOp
  simp only [ho]
  simp [go_sem, hz, newVar, newRow, Value.cells]
  exact hh
/-- A parameter that has an address. -/
theorem wp_box1 (hS : St W w rs) (ty : TypeId) (x : Operand) (ho : o.op = .box ty x) (v : Value) (hx : IsV (a.eval x) v) (h1 : v.oneCell' = true)
    (h : ∀ g w', St W w' (blk g [v] :: rs) → K (a.put o.dst (.pointer (some ⟨g, 0, none⟩))) w') : o.wp P a w K Q := by
  have hh := h _ _ (hS.alloc [v] ty)
  have hcs : v.cells = #[v] := by cases v <;> first | rfl | cases h1
  rw [show [v].toArray = v.cells from hcs.symm] at hh
  unfold Oper.wp execOp
  simp only [ho, hx.eq]
  simp [go_sem, newVar, newRow]
  exact hh
theorem wp_boxG (hS : St W w rs) (ty : TypeId) (x : Operand) (ho : o.op = .box ty x) (cs : List Value) (hx : a.eval x = .agg cs.toArray)
    (h : ∀ g w', St W w' (blk g cs :: rs) → K (a.put o.dst (.pointer (some ⟨g, 0, none⟩))) w') : o.wp P a w K Q := by
  have hh := h _ _ (hS.alloc cs ty)
  unfold Oper.wp execOp
  simp only [ho, hx]
  simp [go_sem, newVar, newRow, Value.cells]
  exact hh
theorem wp_boxA (hS : St W w rs) (ty : TypeId) (x : Operand) (ho : o.op = .box ty x) (l : List Int) (n : Nat) (hx : a.eval x = .agg (iv l)) (hn : Len l n)
    (h : ∀ g w', St W w' (arr g n l :: rs) → K (a.put o.dst (.pointer (some ⟨g, 0, none⟩))) w') : o.wp P a w K Q := by
  have hh := h _ _ (hS.allocArr l n hn ty)
  unfold Oper.wp execOp
  simp only [ho, hx]
  simp [go_sem, newVar, newRow, Value.cells]
  exact hh
/-- A load of one cell, whatever is known of it. -/
theorem wp_load (ty : TypeId) (x : Operand) (ho : o.op = .load ty x) (p : Addr) (hx : a.eval x = .pointer (some p)) (h1 : One P ty) (v : Value) (hc : w.cell? p = some v)
    (h : K (a.put o.dst v) w) : o.wp P a w K Q := by
  unfold Oper.wp execOp
  simp only [ho, hx, Sem.run_bind, run_load1 w h1 hc, Result.andThen_ok, Sem.run_pure]
  exact h
/-- A cell that was there when the call began. -/
theorem wp_loadW (hS : St W w rs) (ty : TypeId) (x : Operand) (ho : o.op = .load ty x) (p : Addr) (hx : a.eval x = .pointer (some p)) (h1 : One P ty) (v : Value) (hc : W.cell? p = some v)
    (h : K (a.put o.dst v) w) : o.wp P a w K Q := wp_load ty x ho p hx h1 v (hS.1.cell hc) h
theorem wp_load1 (hS : St W w rs) (ty : TypeId) (x : Operand) (ho : o.op = .load ty x) (g off : Nat) (hx : a.eval x = .pointer (some ⟨g, off, none⟩)) (h1 : One P ty) (cs : List Value) (hp : Pull (blk g cs) rs rs')
    (v : Value) (hc : cs[off]? = some v) (h : K (a.put o.dst v) w) : o.wp P a w K Q :=
  wp_load ty x ho _ hx h1 v (by rw [(hS.blk hp).1.cell]; simpa using hc) h
theorem wp_load1A (hS : St W w rs) (ty : TypeId) (x : Operand) (ho : o.op = .load ty x) (g off : Nat) (hx : a.eval x = .pointer (some ⟨g, off, none⟩)) (h1 : One P ty) (n : Nat) (l : List Int) (hp : Pull (arr g n l) rs rs')
    (hi : off < n) (h : K (a.put o.dst (.int .i64 (nth l off))) w) : o.wp P a w K Q := by
  obtain ⟨hr, hn⟩ := hS.arr hp
  exact wp_load ty x ho _ hx h1 _ (hr.cell off (by omega)) h
/-- A cell of a row of its own. -/
theorem own_cell {e : TypeId} {s n c g k : Nat} {xs : List Value} {v : Value} (hS : St W w rs) (hp : Pull (own e s (some ⟨g, 0, none⟩) n c xs) rs rs') (hv : xs[k]? = some v) : w.cell? ⟨g, k, none⟩ = some v := by
  rcases (hS.own hp).2 with ⟨h1, h2⟩ | ⟨g', cap, cur, h1, _, hg, _, _, _, htake⟩
  · cases h1
  · cases h1
    rw [cell_of_row w g k cur e _ hg]
    rw [← htake, List.getElem?_take] at hv
    split at hv
    · simpa using hv
    · cases hv
theorem own_some {e : TypeId} {s n c : Nat} {a : Option Addr} {xs : List Value} (hS : St W w rs) (hp : Pull (own e s a n c xs) rs rs') (hn : 0 < n) : ∃ g, a = some ⟨g, 0, none⟩ := by
  rcases (hS.own hp).2 with ⟨h1, h2⟩ | ⟨g', cap, cur, h1, _⟩
  · omega
  · cases h1; exact ⟨_, rfl⟩
theorem wp_load1O (hS : St W w rs) (ty : TypeId) (x : Operand) (ho : o.op = .load ty x) (g off : Nat) (hx : a.eval x = .pointer (some ⟨g, off, none⟩)) (h1 : One P ty) (e : TypeId) (s n c : Nat) (xs : List Value) (hp : Pull (own e s (some ⟨g, 0, none⟩) n c xs) rs rs')
    (v : Value) (hv : xs[off]? = some v) (h : K (a.put o.dst v) w) : o.wp P a w K Q := wp_load ty x ho _ hx h1 v (own_cell hS hp hv) h
/-- A load of cells that lie together. -/
theorem wp_loadR (ty : TypeId) (x : Operand) (ho : o.op = .load ty x) (g off : Nat) (hx : a.eval x = .pointer (some ⟨g, off, none⟩)) (n : Nat) (h1 : RowN P ty n) (cs : List Value) (hn : cs.length = n) (hc : w.rangeAt g off cs)
    (h : K (a.put o.dst (.agg cs.toArray)) w) : o.wp P a w K Q := by
  obtain ⟨h2, h3⟩ := h1
  cases hu : P.underlying ty with
  | none => simp [hu] at h2
  | some d =>
    rw [hu, Option.map_some, Option.some.injEq] at h2
    exact wp_load_mid ty x ho g off hx cs d hc hu h2 (by rw [h3, hn]) h
/-- Cells that were there when the call began. -/
theorem wp_loadRW (hS : St W w rs) (ty : TypeId) (x : Operand) (ho : o.op = .load ty x) (g off : Nat) (hx : a.eval x = .pointer (some ⟨g, off, none⟩)) (n : Nat) (h1 : RowN P ty n) (cs : List Value) (hc : W.rangeAt g off cs) (hn : cs.length = n)
    (h : K (a.put o.dst (.agg cs.toArray)) w) : o.wp P a w K Q := wp_loadR ty x ho g off hx n h1 cs hn (rangeAt_ext hc hS.1) h
theorem Blk.range {w : World} {g : Nat} {cs : List Value} (h : Blk w g cs.toArray) : w.rangeAt g 0 cs := fun j v hv => by rw [Nat.zero_add, h.cell]; simpa using hv
theorem wp_loadG (hS : St W w rs) (ty : TypeId) (x : Operand) (ho : o.op = .load ty x) (g : Nat) (hx : a.eval x = .pointer (some ⟨g, 0, none⟩)) (n : Nat) (h1 : RowN P ty n) (cs : List Value) (hp : Pull (blk g cs) rs rs') (hn : cs.length = n)
    (h : K (a.put o.dst (.agg cs.toArray)) w) : o.wp P a w K Q := wp_loadR ty x ho g 0 hx n h1 cs hn (hS.blk hp).1.range h
theorem wp_loadA (hS : St W w rs) (ty : TypeId) (x : Operand) (ho : o.op = .load ty x) (g : Nat) (hx : a.eval x = .pointer (some ⟨g, 0, none⟩)) (n : Nat) (h1 : RowN P ty n) (l : List Int) (hp : Pull (arr g n l) rs rs')
    (h : K (a.put o.dst (.agg (iv l))) w) : o.wp P a w K Q := by
  obtain ⟨hr, hn⟩ := hS.arr hp
  exact wp_loadR ty x ho g 0 hx n h1 (l.map (Value.int .i64)) (by simpa using hn) hr.range h
/-- Stores. -/
theorem wp_storeC (ty : TypeId) (x y : Operand) (ho : o.op = .store ty x y) (p : Addr) (hx : a.eval x = .pointer (some p)) (h1 : One P ty) (v u : Value) (hy : a.eval y = v) (hv : v.oneCell' = true)
    (hc : w.cell? p = some u) (hf : w.frozen? p = false) (hd : o.dst = none) (h : K a (w.setCell p v)) : o.wp P a w K Q := by
  unfold Oper.wp execOp
  simp only [ho, hx, hy, Sem.run_bind, run_store1 w h1 hc hf hv, Result.andThen_ok, Sem.run_pure]
  show K (a.put o.dst undef) _
  rw [hd]
  exact h
theorem wp_store1 (hS : St W w rs) (ty : TypeId) (x y : Operand) (ho : o.op = .store ty x y) (g off : Nat) (hx : a.eval x = .pointer (some ⟨g, off, none⟩)) (h1 : One P ty) (cs cs' : List Value) (hp : Pull (blk g cs) rs rs')
    (v : Value) (hy : IsV (a.eval y) v) (hv : v.oneCell' = true) (hc : SetAt v off cs cs') (hd : o.dst = none) (h : ∀ w', St W w' (blk g cs' :: rs') → K a w') : o.wp P a w K Q := by
  obtain ⟨hl, hcs⟩ := hc.eq
  have hb := (hS.blk hp).1
  refine wp_storeC ty x y ho _ hx h1 v (cs[off]) hy.eq hv (by rw [hb.cell]; simp [hl]) (hb.free off) hd (h _ ?_)
  refine St.change (rs1 := [blk g cs']) (hS.pull hp) fun f1 h1 _ _ => ?_
  obtain ⟨rfl, h1⟩ := h1
  refine ⟨[g], ⟨[g], [], rfl, ⟨rfl, ?_⟩, rfl⟩, by simp, fun b hb => .inl hb, Only.setCell w ⟨g, off, none⟩ v⟩
  have := h1.set off v
  rw [hcs]
  simpa using this
theorem wp_store1A (hS : St W w rs) (ty : TypeId) (x y : Operand) (ho : o.op = .store ty x y) (g off : Nat) (hx : a.eval x = .pointer (some ⟨g, off, none⟩)) (h1 : One P ty) (n : Nat) (l : List Int) (hp : Pull (arr g n l) rs rs')
    (z : Int) (hy : a.eval y = .int .i64 z) (hi : off < n) (hd : o.dst = none) (h : ∀ w', St W w' (arr g n (l.set off z) :: rs') → K a w') : o.wp P a w K Q := by
  obtain ⟨hr, hn⟩ := hS.arr hp
  refine wp_storeC ty x y ho _ hx h1 (.int .i64 z) _ hy rfl (hr.cell off (by omega)) (hr.free off) hd (h _ ?_)
  refine St.change (rs1 := [arr g n (l.set off z)]) (hS.pull hp) fun f1 h1 _ _ => ?_
  obtain ⟨rfl, h1, h2⟩ := h1
  exact ⟨[g], ⟨[g], [], rfl, ⟨rfl, h1.set off z, by simpa using h2⟩, rfl⟩, by simp, fun b hb => .inl hb, Only.setCell w ⟨g, off, none⟩ _⟩
/-- A whole block. -/
theorem wp_storeG (hS : St W w rs) (ty : TypeId) (x y : Operand) (ho : o.op = .store ty x y) (g : Nat) (hx : a.eval x = .pointer (some ⟨g, 0, none⟩)) (n : Nat) (h1 : RowN P ty n) (cs cs' : List Value) (hp : Pull (blk g cs) rs rs')
    (hy : a.eval y = .agg cs'.toArray) (hn : cs.length = n) (hn' : cs'.length = n) (hv : cs'.all (·.oneCell') = true) (hd : o.dst = none) (h : ∀ w', St W w' (blk g cs' :: rs') → K a w') : o.wp P a w K Q := by
  obtain ⟨t, hb⟩ := (hS.blk hp).1
  refine wp_store_row ty x y ho g cs'.toArray hx hy t cs.toArray hb (by rw [h1.2]; simp [hn']) (by simp [hn, hn']) (by simpa using hv) ?_
  rw [show a.put o.dst undef = a by rw [hd]; rfl]
  refine h _ ?_
  refine St.change (rs1 := [blk g cs']) (hS.pull hp) fun f1 h1 _ _ => ?_
  obtain ⟨rfl, t, h1⟩ := h1
  exact ⟨[g], ⟨[g], [], rfl, ⟨rfl, t, setRow_heap w g _ _ t _ h1⟩, rfl⟩, by simp, fun b hb => .inl hb, Only.setRow w g _⟩
theorem wp_storeA (hS : St W w rs) (ty : TypeId) (x y : Operand) (ho : o.op = .store ty x y) (g : Nat) (hx : a.eval x = .pointer (some ⟨g, 0, none⟩)) (n : Nat) (h1 : RowN P ty n) (l m : List Int) (hp : Pull (arr g n l) rs rs')
    (hy : a.eval y = .agg (iv m)) (hm : Len m n) (hd : o.dst = none) (h : ∀ w', St W w' (arr g n m :: rs') → K a w') : o.wp P a w K Q := by
  obtain ⟨⟨t, hb⟩, hn⟩ := hS.arr hp
  have hm' : m.length = n := hm
  refine wp_store_row ty x y ho g (iv m) hx hy t (iv l) hb (by rw [h1.2, iv_size, hm']) (by rw [iv_size, iv_size, hn, hm']) (iv_one m) ?_
  rw [show a.put o.dst undef = a by rw [hd]; rfl]
  refine h _ ?_
  refine St.change (rs1 := [arr g n m]) (hS.pull hp) fun f1 h1 _ _ => ?_
  obtain ⟨rfl, ⟨t, h1⟩, h2⟩ := h1
  exact ⟨[g], ⟨[g], [], rfl, ⟨rfl, ⟨t, setRow_heap w g _ _ t _ h1⟩, hm⟩, rfl⟩, by simp, fun b hb => .inl hb, Only.setRow w g _⟩
/-- The operands of a literal, in their order, and their cells. -/
inductive Parts (a : Act) (s : Nat) : Nat → List (Nat × Operand) → List Value → List Value → Prop
  | nil {k : Nat} : Parts a s k [] [] []
  | one {k : Nat} {x : Operand} {v : Value} {ps : List (Nat × Operand)} {vs cs : List Value} (h : IsV (a.eval x) v) (h1 : v.oneCell' = true) (hs : s = 1) (t : Parts a s (k + 1) ps vs cs) : Parts a s k ((k, x) :: ps) (v :: vs) (v :: cs)
  | agg {k : Nat} {x : Operand} {l : List Value} {ps : List (Nat × Operand)} {vs cs : List Value} (h : a.eval x = .agg l.toArray) (hs : l.length = s) (t : Parts a s (k + 1) ps vs cs) : Parts a s k ((k, x) :: ps) (.agg l.toArray :: vs) (l ++ cs)
theorem fill_parts (s : Nat) : ∀ (vs : List Value) (k : Nat) (done zs : List Value), done.length = k * s → zs.length = vs.length * s → (∀ v ∈ vs, v.cells.size = s) →
    Instr.fill (fun i => some (i * s, s)) (done ++ zs).toArray ((vs.zipIdx k).map fun x => (x.2, x.1)) = some (done ++ vs.flatMap (·.cells.toList)).toArray := by
  intro vs
  induction vs with
  | nil => intro k done zs _ hz _; simp at hz; simp [Instr.fill, hz]
  | cons v vs ih =>
    intro k done zs hd hz hv
    have hvs := hv v (by simp)
    have hlen : zs.length = s + vs.length * s := by rw [hz, List.length_cons, Nat.add_mul, Nat.one_mul, Nat.add_comm]
    simp only [List.zipIdx_cons, List.map_cons, Instr.fill, hvs, ne_eq, not_true_eq_false]
    rw [if_neg (by simp [hd, hlen])]
    have key : ∀ (us : List Value) (j : Nat) (d z : List Value), d.length = k * s + j → us.length ≤ z.length →
        List.foldl (fun cs (x : Value × Nat) => cs.setIfInBounds (k * s + x.2) x.1) (d ++ z).toArray (us.zipIdx j) = (d ++ us ++ z.drop us.length).toArray := by
      intro us
      induction us with
      | nil => intro j d z _ _; simp
      | cons u us ih2 =>
        intro j d z hd2 hz2
        cases z with
        | nil => simp at hz2
        | cons y z =>
          simp only [List.zipIdx_cons, List.foldl_cons]
          have e1 : (d ++ y :: z).toArray.setIfInBounds (k * s + j) u = ((d ++ [u]) ++ z).toArray := by
            rw [List.setIfInBounds_toArray, List.set_append_right _ _ (by omega), hd2, Nat.sub_self, List.set_cons_zero, List.append_assoc]
            rfl
          rw [e1, ih2 (j + 1) (d ++ [u]) z (by simp [hd2]; omega) (by simpa using hz2)]
          simp
    have e2 : v.cells.zipIdx.foldl (fun cs (x : Value × Nat) => cs.setIfInBounds (k * s + x.2) x.1) (done ++ zs).toArray = ((done ++ v.cells.toList) ++ zs.drop s).toArray := by
      have := key v.cells.toList 0 done zs (by simpa using hd) (by simp [hvs, hlen])
      rw [← Array.foldl_toList]
      simpa [hvs] using this
    rw [show (Array.foldl (fun cs (x : Value × Nat) => cs.setIfInBounds (k * s + x.2) x.1) (done ++ zs).toArray v.cells.zipIdx) = ((done ++ v.cells.toList) ++ zs.drop s).toArray from e2]
    rw [ih (k + 1) (done ++ v.cells.toList) (zs.drop s) (by simp [hd, hvs, Nat.add_mul]) (by rw [List.length_drop, hlen]; omega) (fun u hu => hv u (by simp [hu]))]
    simp
theorem Parts.vals {a : Act} {s : Nat} : ∀ {k : Nat} {ps : List (Nat × Operand)} {vs cs : List Value}, Parts a s k ps vs cs →
    (ps.map fun (i, x) => (i, a.eval x)) = ((vs.zipIdx k).map fun x => (x.2, x.1)) ∧ ps.length = vs.length ∧ (vs.flatMap (·.cells.toList)) = cs ∧ ∀ v ∈ vs, v.cells.size = s := by
  intro k ps vs cs h
  induction h with
  | nil => exact ⟨rfl, rfl, rfl, fun v hv => by cases hv⟩
  | @one k x v ps vs cs h h1 hs t ih =>
    have hc : v.cells = #[v] := by cases v <;> first | rfl | cases h1
    refine ⟨by simp only [List.map_cons, List.zipIdx_cons, ih.1, h.eq], by simp [ih.2.1], by rw [List.flatMap_cons, ih.2.2.1, hc]; rfl, fun u hu => ?_⟩
    rcases List.mem_cons.1 hu with rfl | hu
    · rw [hc, hs]; rfl
    · exact ih.2.2.2 u hu
  | @agg k x l ps vs cs h hs t ih =>
    refine ⟨by simp only [List.map_cons, List.zipIdx_cons, ih.1, h], by simp [ih.2.1], by rw [List.flatMap_cons, ih.2.2.1]; rfl, fun u hu => ?_⟩
    rcases List.mem_cons.1 hu with rfl | hu
    · simpa [Value.cells] using hs
    · exact ih.2.2.2 u hu
/-- A slice that is written out: a new block. -/
theorem wp_buildSlice1 (hS : St W w rs) (t : TypeId) (n : Nat) (ps : List (Nat × Operand)) (ho : o.op = .buildSlice t n ps.toArray) (e : TypeId) (s b : Nat) (el : ElemT P t e s b) (vs cs : List Value) (hvs : Parts a s 0 ps vs cs) (hn : vs.length = n) (hn0 : 0 < n) (hns : n * s ≤ 2 ^ 24)
    (h : ∀ g w', St W w' (blk g cs :: rs) → K (a.put o.dst (.slice (some ⟨g, 0, none⟩) n n)) w') : o.wp P a w K Q := by
  obtain ⟨ht, ⟨i, z, hi, hz, rfl, hb, hzs⟩, hp⟩ := el
  obtain ⟨h1, h2, hcs, hsz⟩ := hvs.vals
  have hns' : 0 < n * i.size := Nat.mul_pos hn0 hp
  refine Go.wp_buildSlice t e n ps.toArray ho (cs.toArray) i z ht hi hz (by omega) (by omega) ?_ (h _ _ (hS.alloc cs e))
  have h3 := fill_parts i.size vs 0 [] (((List.range (n * i.size)).map (fun j => z.cells[j % z.cells.size]!))) (by simp) (by simp [hn]) hsz
  simp only [List.nil_append] at h3
  rw [← hcs]
  have e1 : (Array.map (fun x : Nat × Operand => (x.1, a.eval x.2)) ps.toArray).toList = (vs.zipIdx 0).map fun x => (x.2, x.1) := by
    rw [← h1]; simp
  rw [e1]
  rw [← h3]
  congr 1
  apply Array.ext_getElem?
  intro j
  simp only [Array.getElem?_map, Array.getElem?_range, List.getElem?_toArray, List.getElem?_map]
  by_cases hj : j < n * i.size
  · simp [hj]
  · simp [hj]
/-- What an append finds: a row of its own, and readable cells. -/
theorem wp_append (hS : St W w rs) (s x : Operand) (t : TypeId) (ho : o.op = .call { callee := .builtin .append, args := #[s, x], argTypes := #[t, t] }) (e : TypeId) (sz b : Nat) (el : ElemT P t e sz b)
    (ad : Option Addr) (n c : Nat) (xs : List Value) (hs : a.eval s = .slice ad n c) (hp : Pull (own e sz ad n c xs) rs rs') (v : Value) (hx : a.eval x = v) (m : Nat) (news : List Value) (hm : Sl w sz v m news) (h1 : ∀ u ∈ news, u.oneCell' = true)
    (h63 : n + m ≤ maxLen) (hb : (n + m) * b ≤ 140737488355328)
    (h : ∀ ad' c' w', St W w' (own e sz ad' (n + m) c' (xs ++ news) :: rs') → K (a.put o.dst (.slice ad' (n + m) c')) w') : o.wp P a w K Q := by
  obtain ⟨ht, ⟨i, z, hi, hz, hsz, hby, hzs⟩, hpos⟩ := el
  have hown := hS.own hp
  have fin : ∀ v' w', w'.ownsRow 0 e sz v' (n + m) (xs ++ news) → w.grownBy w' (Value.slice ad n c).ownBlock → (v'.ownBlock = (Value.slice ad n c).ownBlock ∨ v'.ownBlock = some w.heap.size) → ∃ ad' c', v' = .slice ad' (n + m) c' ∧ St W w' (own e sz ad' (n + m) c' (xs ++ news) :: rs') := by
    intro v' w' ho' hg hat
    obtain ⟨ad', c', rfl⟩ : ∃ ad' c', v' = .slice ad' (n + m) c' := by
      rcases ho'.2 with ⟨h1, h2⟩ | ⟨g, cap, cur, h1, _⟩
      · exact ⟨none, 0, by rw [h2]; exact h1⟩
      · exact ⟨_, _, h1⟩
    refine ⟨ad', c', rfl, ?_⟩
    refine St.change (rs1 := [own e sz ad' (n + m) c' (xs ++ news)]) (hS.pull hp) fun f1 h1 hf1 hn1 => ?_
    obtain ⟨rfl, h1⟩ := h1
    refine ⟨(Value.slice ad' (n + m) c').ownBlock.toList, ⟨_, [], by simp, ⟨rfl, ho'⟩, rfl⟩, ?_, fun k hk => ?_, Only.grown hg⟩
    · cases (Value.slice ad' (n + m) c').ownBlock <;> simp
    · rcases hat with h | h
      · left; rw [← h]; exact hk
      · right; rw [h] at hk; simp at hk; omega
  obtain ⟨hl, aa, cc, rfl, hmc, hcm, hor⟩ := hm
  rcases hor with rfl | ⟨bb, off, rfl, hcells⟩
  · have hnews : news = [] := by simpa using hl
    subst hnews
    cases aa with
    | none =>
      obtain ⟨v', hr, hw⟩ : ∃ v', (Builtin.append_ #[t, t] o.type #[.slice ad n c, .slice none 0 cc]).run P w = .ok v' w ∧ v' = .slice ad n c := by
        rcases hown.2 with ⟨h1, h2⟩ | ⟨g, cap, cur, h1, _, _, hnc, _⟩
        · cases h1
          refine ⟨_, ?_, rfl⟩
          simp [Builtin.append_, run_underlying ht, sizeOf, typeInfo, hi, Builtin.lenOf, Builtin.firstCells]
        · cases h1
          refine ⟨_, ?_, rfl⟩
          simp [Builtin.append_, run_underlying ht, sizeOf, typeInfo, hi, Builtin.lenOf, hnc, Builtin.firstCells, storeCells]
      subst hw
      obtain ⟨ad', c', he, hst⟩ := fin (.slice ad n c) w (by simpa using hown) ⟨rfl, rfl, rfl, Nat.le_refl _, fun _ _ _ => rfl⟩ (.inl rfl)
      have hk := h ad' c' w hst
      unfold Oper.wp execOp
      simp only [ho, resolve, invoke, builtin, Sem.run_bind, Sem.run_pure, Result.andThen_ok, List.map_toArray, List.map_cons, List.map_nil, hs, hx, hr]
      rw [he]
      exact hk
    | some a0 =>
      obtain ⟨v', w', hr, h2, h3, h4, h5⟩ := run_append_own_at (P := P) w 0 t o.type e i z sz b ht hi hz hsz hby hzs hpos (.slice ad n c) n xs hown a0 0 cc [] (by simp) (by simp) (by simp) h63 hb (Nat.zero_le _)
      obtain ⟨ad', c', rfl, hst⟩ := fin v' w' h2 h3 h5
      have hk := h ad' c' w' hst
      unfold Oper.wp execOp
      simp only [ho, resolve, invoke, builtin, Sem.run_bind, Sem.run_pure, Result.andThen_ok, List.map_toArray, List.map_cons, List.map_nil, hs, hx, hr]
      exact hk
  · obtain ⟨v', w', hr, h2, h3, h4, h5⟩ := run_append_own_at (P := P) w 0 t o.type e i z sz b ht hi hz hsz hby hzs hpos (.slice ad n c) n xs hown ⟨bb, off, none⟩ m cc news hl (fun j u hu => by
        have hj : j < m * sz := by rw [← hl]; exact (List.getElem?_eq_some_iff.1 hu).1
        rw [Addr.add_mid, hcells j hj, hu]) h1 h63 hb (Nat.zero_le _)
    obtain ⟨ad', c', rfl, hst⟩ := fin v' w' h2 h3 h5
    have hk := h ad' c' w' hst
    unfold Oper.wp execOp
    simp only [ho, resolve, invoke, builtin, Sem.run_bind, Sem.run_pure, Result.andThen_ok, List.map_toArray, List.map_cons, List.map_nil, hs, hx, hr]
    exact hk
end
section
variable {P : Program} {w : World} {Q : Exit → Act → World → Prop} {K : Act → World → Prop} {o : Oper} {a : Act}
/-- A call of a function that the text names, by its contract. -/
theorem wp_callF {f : FuncId} {xs : List Operand} {ats : Array TypeId} (ho : o.op = .call { callee := .value (.func f), args := xs.toArray, argTypes := ats }) (hcall : ∀ (args : Array Value) (w : World), (callFunc f args).run P w = .ok (.enter f args) w)
    {R : Ending → World → Prop} (hc : Calls P f (xs.map a.eval).toArray w R) (h : ∀ e w', R e w' → ∃ v, e = .returned v ∧ K (a.put o.dst v) w') : o.wp P a w K Q := by
  have e1 : execOp a.eval o = callFunc f (xs.map a.eval).toArray := by
    unfold execOp
    rw [ho]
    have e2 : (#[] ++ (xs.toArray).map a.eval ++ #[] : Array Value) = (xs.map a.eval).toArray := by simp
    rw [← e2]
    rfl
  unfold Oper.wp
  rw [e1, hcall, Oper.upon_enter]
  refine hc.mono fun e w' hR => ?_
  obtain ⟨v, rfl, hk⟩ := h e w' hR
  exact hk
end
/-- What a call comes to, by a contract. -/
def CallGoal (P : Program) (f : FuncId) (args : Array Value) (w : World) (K : Value → World → Prop) : Prop := ∃ R : Ending → World → Prop, Calls P f args w R ∧ ∀ e w', R e w' → ∃ v, e = .returned v ∧ K v w'
theorem wpl_call {P : Program} {w : World} {Q : Exit → Act → World → Prop} {a : Act} {ops : Array Oper} {rest : List Oper} {f : FuncId} {d : Option Tmp} {xs : List Operand} {ats : Array TypeId} {ty : TypeId} {pos : String} {af : Array Edge} {g : Option (Nat × Bool)}
    (hcall : ∀ (args : Array Value) (w : World), (callFunc f args).run P w = .ok (.enter f args) w) (hw : Region.wanted ⟨d, .call ⟨.value (.func f), xs.toArray, ats⟩, ty, pos, af, g⟩ (yielded ops a.tmps) = true)
    (h : CallGoal P f (xs.map a.eval).toArray w fun v w' => wpList P ops Q rest (a.put d v) w') : wpList P ops Q (⟨d, .call ⟨.value (.func f), xs.toArray, ats⟩, ty, pos, af, g⟩ :: rest) a w := by
  obtain ⟨R, hc, hR⟩ := h
  exact wpl hw (wp_callF rfl hcall hc hR)
/-- A slice that lies in a block that is known whole. -/
theorem St.slBlk {W w : World} {rs rs' : List Res} {g n s : Nat} {cs : List Value} (h : St W w rs) (p : Pull (Go.Proofs.YthmkhpijdpbfbaaDoor.blk g cs) rs rs') (hl : cs.length = n * s) (hn : n ≤ maxLen) : Sl w s (.slice (some ⟨g, 0, none⟩) n n) n cs :=
  ⟨hl, _, _, rfl, Nat.le_refl _, hn, .inr ⟨g, 0, rfl, fun k hk => by rw [Nat.zero_add, (h.blk p).1.cell]; simp⟩⟩
theorem Sl.none (w : World) (s : Nat) : Sl w s (.slice none 0 0) 0 [] := Sl.nil w s
end Go.Proofs.YthmkhpijdpbfbaaDoor
