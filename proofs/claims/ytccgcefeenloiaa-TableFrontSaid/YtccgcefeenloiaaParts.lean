/- Structs with rows of ints and single values among their fields: cells in parts. -/
import Derived.Test.YtccgcefeenloiaaRet
namespace Go.Proofs.Ytccgcefeenloiaa
open Go.RowKit
set_option linter.unusedVariables false
/-- A part of a struct's cells: a row of ints, or one value. -/
inductive Part where
  | ints (l : List Int)
  | val (v : Value)
def Part.cells : Part → List Value
  | .ints l => l.map (Value.int .i64)
  | .val v => [v]
def pcells : List Part → List Value
  | [] => []
  | p :: ps => p.cells ++ pcells ps
/-- Block g holds these parts. -/
def prt (g : Nat) (ps : List Part) : Res := blk g (pcells ps)
/-- The number at a place. -/
inductive AtI : List Part → Nat → List Int → Nat → Prop
  | head {l : List Int} {ps : List Part} {off n : Nat} (hn : Len l n) (h : off < n) : AtI (.ints l :: ps) off l off
  | skipI {l : List Int} {ps : List Part} {off n o2 r : Nat} {l' : List Int} (hn : Len l n) (h : n ≤ off) (ho : off - n = o2) (t : AtI ps o2 l' r) : AtI (.ints l :: ps) off l' r
  | skipV {v : Value} {ps : List Part} {off r : Nat} {l' : List Int} (t : AtI ps off l' r) : AtI (.val v :: ps) (off + 1) l' r
theorem AtI.get {ps : List Part} {off r : Nat} {l : List Int} (h : AtI ps off l r) : (pcells ps)[off]? = some (.int .i64 (nth l r)) := by
  induction h with
  | @head l ps off n hn h =>
    have hl := hn.out
    rw [pcells, Part.cells, List.getElem?_append_left (by simp; omega), List.getElem?_map, get_nth l off (by omega)]; rfl
  | @skipI l ps off n o2 r l' hn h ho t ih =>
    have hl := hn.out
    rw [pcells, Part.cells, List.getElem?_append_right (by simp; omega), List.length_map, hl, ho, ih]
  | @skipV v ps off r l' t ih =>
    rw [pcells, Part.cells, List.singleton_append, List.getElem?_cons_succ, ih]
/-- The value at a place. -/
inductive AtV : List Part → Nat → Value → Prop
  | head {v : Value} {ps : List Part} : AtV (.val v :: ps) 0 v
  | skipI {l : List Int} {ps : List Part} {off n o2 : Nat} {v : Value} (hn : Len l n) (h : n ≤ off) (ho : off - n = o2) (t : AtV ps o2 v) : AtV (.ints l :: ps) off v
  | skipV {u v : Value} {ps : List Part} {off : Nat} (t : AtV ps off v) : AtV (.val u :: ps) (off + 1) v
theorem AtV.get {ps : List Part} {off : Nat} {v : Value} (h : AtV ps off v) : (pcells ps)[off]? = some v := by
  induction h with
  | head => rfl
  | @skipI l ps off n o2 v hn h ho t ih =>
    have hl := hn.out
    rw [pcells, Part.cells, List.getElem?_append_right (by simp; omega), List.length_map, hl, ho, ih]
  | @skipV u v ps off t ih =>
    rw [pcells, Part.cells, List.singleton_append, List.getElem?_cons_succ, ih]
/-- Some cells that are parts: m cells from a place on. -/
inductive Pre : List Part → Nat → List Part → Prop
  | nil {ps : List Part} : Pre ps 0 []
  | ints {l : List Int} {ps ss : List Part} {n m m2 : Nat} (hn : Len l n) (h : n ≤ m) (hm : m - n = m2) (t : Pre ps m2 ss) : Pre (.ints l :: ps) m (.ints l :: ss)
  | val {v : Value} {ps ss : List Part} {m : Nat} (t : Pre ps m ss) : Pre (.val v :: ps) (m + 1) (.val v :: ss)
theorem Pre.take {ps ss : List Part} {m : Nat} (h : Pre ps m ss) : (pcells ps).take m = pcells ss ∧ (pcells ss).length = m := by
  induction h with
  | nil => exact ⟨by simp [pcells], rfl⟩
  | @ints l ps ss n m m2 hn h hm t ih =>
    have hl := hn.out
    refine ⟨?_, by simp only [pcells, Part.cells, List.length_append, List.length_map, ih.2]; omega⟩
    rw [pcells, pcells, Part.cells, List.take_append, List.length_map, hl, hm, ih.1, List.take_of_length_le (by simp; omega)]
  | @val v ps ss m t ih =>
    exact ⟨by simp only [pcells, Part.cells, List.singleton_append, List.take_succ_cons, ih.1], by simp only [pcells, Part.cells, List.singleton_append, List.length_cons, ih.2]⟩
inductive AtP : List Part → Nat → Nat → List Part → Prop
  | head {ps ss : List Part} {m : Nat} (h : Pre ps m ss) : AtP ps 0 m ss
  | skipI {l : List Int} {ps ss : List Part} {off n o2 m : Nat} (hn : Len l n) (h : n ≤ off) (ho : off - n = o2) (t : AtP ps o2 m ss) : AtP (.ints l :: ps) off m ss
  | skipV {u : Value} {ps ss : List Part} {off m : Nat} (t : AtP ps off m ss) : AtP (.val u :: ps) (off + 1) m ss
theorem AtP.get {ps ss : List Part} {off m : Nat} (h : AtP ps off m ss) : ((pcells ps).drop off).take m = pcells ss ∧ (pcells ss).length = m := by
  induction h with
  | head h => rw [List.drop_zero]; exact h.take
  | @skipI l ps ss off n o2 m hn h ho t ih =>
    have hl := hn.out
    rw [pcells, Part.cells, List.drop_append, List.length_map, hl, ho, List.drop_of_length_le (by simp; omega), List.nil_append]; exact ih
  | @skipV u ps ss off m t ih =>
    rw [pcells, Part.cells, List.singleton_append, List.drop_succ_cons]; exact ih
/-- A row of ints alone. -/
inductive AtR : List Part → Nat → Nat → List Int → Prop
  | head {l : List Int} {ps : List Part} {n : Nat} (hn : Len l n) : AtR (.ints l :: ps) 0 n l
  | skipI {l l' : List Int} {ps : List Part} {off n o2 m : Nat} (hn : Len l n) (h : n ≤ off) (ho : off - n = o2) (t : AtR ps o2 m l') : AtR (.ints l :: ps) off m l'
  | skipV {u : Value} {l' : List Int} {ps : List Part} {off m : Nat} (t : AtR ps off m l') : AtR (.val u :: ps) (off + 1) m l'
theorem AtR.get {ps : List Part} {off m : Nat} {l : List Int} (h : AtR ps off m l) : ((pcells ps).drop off).take m = l.map (Value.int .i64) ∧ l.length = m := by
  induction h with
  | @head l ps n hn =>
    have hl := hn.out
    rw [List.drop_zero, pcells, Part.cells, List.take_append, List.length_map, hl, Nat.sub_self, List.take_of_length_le (by simp; omega)]
    exact ⟨by simp, rfl⟩
  | @skipI l l' ps off n o2 m hn h ho t ih =>
    have hl := hn.out
    rw [pcells, Part.cells, List.drop_append, List.length_map, hl, ho, List.drop_of_length_le (by simp; omega), List.nil_append]; exact ih
  | @skipV u l' ps off m t ih =>
    rw [pcells, Part.cells, List.singleton_append, List.drop_succ_cons]; exact ih
section
variable {P : Program} {W w : World} {rs rs' : List Res} {Q : Exit → Act → World → Prop} {K : Act → World → Prop} {o : Oper} {a : Act}
theorem wp_load1P (hS : St W w rs) (ty : TypeId) (x : Operand) (ho : o.op = .load ty x) (g off : Nat) (hx : a.eval x = .pointer (some ⟨g, off, none⟩)) (h1 : One P ty) (ps : List Part) (hp : Pull (prt g ps) rs rs')
    (l : List Int) (r : Nat) (hi : AtI ps off l r) (h : K (a.put o.dst (.int .i64 (nth l r))) w) : o.wp P a w K Q :=
  wp_load1 hS ty x ho g off hx h1 _ hp _ hi.get h
theorem wp_load1PE (hS : St W w rs) (ty : TypeId) (x : Operand) (ho : o.op = .load ty x) (g off : Nat) (hx : a.eval x = .pointer (some ⟨g, off, none⟩)) (h1 : One P ty) (ps : List Part) (hp : Pull (prt g ps) rs rs')
    (l : List Int) (r : Nat) (hi : AtI ps off l r) (z : Int) (hz : nth l r = z) (h : K (a.put o.dst (.int .i64 z)) w) : o.wp P a w K Q :=
  wp_load1P hS ty x ho g off hx h1 ps hp l r hi (by rw [hz]; exact h)
theorem wp_loadVP (hS : St W w rs) (ty : TypeId) (x : Operand) (ho : o.op = .load ty x) (g off : Nat) (hx : a.eval x = .pointer (some ⟨g, off, none⟩)) (h1 : One P ty) (ps : List Part) (hp : Pull (prt g ps) rs rs')
    (v : Value) (hi : AtV ps off v) (h : K (a.put o.dst v) w) : o.wp P a w K Q :=
  wp_load1 hS ty x ho g off hx h1 _ hp _ hi.get h
theorem prt_range {g off m : Nat} {ps : List Part} {cs : List Value} (hS : St W w rs) (hp : Pull (prt g ps) rs rs') (h : ((pcells ps).drop off).take m = cs) : w.rangeAt g off cs := fun j v hv => by
  rw [← h, List.getElem?_take] at hv
  split at hv
  · rw [List.getElem?_drop] at hv
    rw [(St.blk hS hp).1.cell]; simpa using hv
  · cases hv
theorem wp_loadRP (hS : St W w rs) (ty : TypeId) (x : Operand) (ho : o.op = .load ty x) (g off : Nat) (hx : a.eval x = .pointer (some ⟨g, off, none⟩)) (m : Nat) (h1 : RowN P ty m) (ps : List Part) (hp : Pull (prt g ps) rs rs')
    (l : List Int) (hi : AtR ps off m l) (h : K (a.put o.dst (.agg (iv l))) w) : o.wp P a w K Q :=
  wp_loadR ty x ho g off hx m h1 (l.map (Value.int .i64)) (by simpa using hi.get.2) (prt_range hS hp hi.get.1) h
theorem wp_loadPP (hS : St W w rs) (ty : TypeId) (x : Operand) (ho : o.op = .load ty x) (g off : Nat) (hx : a.eval x = .pointer (some ⟨g, off, none⟩)) (m : Nat) (h1 : RowN P ty m) (ps : List Part) (hp : Pull (prt g ps) rs rs')
    (ss : List Part) (hi : AtP ps off m ss) (h : K (a.put o.dst (.agg (pcells ss).toArray)) w) : o.wp P a w K Q :=
  wp_loadR ty x ho g off hx m h1 (pcells ss) hi.get.2 (prt_range hS hp hi.get.1) h
theorem wp_boxP (hS : St W w rs) (ty : TypeId) (x : Operand) (ho : o.op = .box ty x) (ps : List Part) (hx : a.eval x = .agg (pcells ps).toArray)
    (h : ∀ g w', St W w' (prt g ps :: rs) → K (a.put o.dst (.pointer (some ⟨g, 0, none⟩))) w') : o.wp P a w K Q :=
  wp_boxG hS ty x ho (pcells ps) hx h
end
/-- A part that is turned. -/
inductive PutI (z : Int) : List Part → Nat → List Part → Prop
  | head {l : List Int} {ps : List Part} {off n : Nat} (hn : Len l n) (h : off < n) : PutI z (.ints l :: ps) off (.ints (l.set off z) :: ps)
  | skipI {l : List Int} {ps ps' : List Part} {off n o2 : Nat} (hn : Len l n) (h : n ≤ off) (ho : off - n = o2) (t : PutI z ps o2 ps') : PutI z (.ints l :: ps) off (.ints l :: ps')
  | skipV {v : Value} {ps ps' : List Part} {off : Nat} (t : PutI z ps off ps') : PutI z (.val v :: ps) (off + 1) (.val v :: ps')
theorem PutI.eq {z : Int} {ps ps' : List Part} {off : Nat} (h : PutI z ps off ps') : off < (pcells ps).length ∧ pcells ps' = (pcells ps).set off (.int .i64 z) := by
  induction h with
  | @head l ps off n hn h =>
    have hl := hn.out
    refine ⟨by simp [pcells, Part.cells]; omega, ?_⟩
    rw [pcells, pcells, Part.cells, Part.cells, List.set_append_left _ _ (by simp; omega), List.map_set]
  | @skipI l ps ps' off n o2 hn h ho t ih =>
    have hl := hn.out
    refine ⟨by simp [pcells, Part.cells]; omega, ?_⟩
    rw [pcells, pcells, Part.cells, List.set_append_right _ _ (by simp; omega), List.length_map, hl, ho, ih.2]
  | @skipV v ps ps' off t ih =>
    refine ⟨by simp [pcells, Part.cells]; omega, ?_⟩
    rw [pcells, pcells, Part.cells, List.singleton_append, List.singleton_append, List.set_cons_succ, ih.2]
inductive PutV (z : Value) : List Part → Nat → List Part → Prop
  | head {v : Value} {ps : List Part} : PutV z (.val v :: ps) 0 (.val z :: ps)
  | skipI {l : List Int} {ps ps' : List Part} {off n o2 : Nat} (hn : Len l n) (h : n ≤ off) (ho : off - n = o2) (t : PutV z ps o2 ps') : PutV z (.ints l :: ps) off (.ints l :: ps')
  | skipV {v : Value} {ps ps' : List Part} {off : Nat} (t : PutV z ps off ps') : PutV z (.val v :: ps) (off + 1) (.val v :: ps')
theorem PutV.eq {z : Value} {ps ps' : List Part} {off : Nat} (h : PutV z ps off ps') : off < (pcells ps).length ∧ pcells ps' = (pcells ps).set off z := by
  induction h with
  | head => exact ⟨by simp [pcells, Part.cells], rfl⟩
  | @skipI l ps ps' off n o2 hn h ho t ih =>
    have hl := hn.out
    refine ⟨by simp [pcells, Part.cells]; omega, ?_⟩
    rw [pcells, pcells, Part.cells, List.set_append_right _ _ (by simp; omega), List.length_map, hl, ho, ih.2]
  | @skipV v ps ps' off t ih =>
    refine ⟨by simp [pcells, Part.cells]; omega, ?_⟩
    rw [pcells, pcells, Part.cells, List.singleton_append, List.singleton_append, List.set_cons_succ, ih.2]
theorem SetAt.of {v : Value} : ∀ {l : List Value} {i : Nat}, i < l.length → SetAt v i l (l.set i v)
  | [], i, h => by simp at h
  | x :: l, 0, _ => .head
  | x :: l, i + 1, h => .tail (SetAt.of (by simpa using h))
section
variable {P : Program} {W w : World} {rs rs' : List Res} {Q : Exit → Act → World → Prop} {K : Act → World → Prop} {o : Oper} {a : Act}
theorem wp_store1P (hS : St W w rs) (ty : TypeId) (x y : Operand) (ho : o.op = .store ty x y) (g off : Nat) (hx : a.eval x = .pointer (some ⟨g, off, none⟩)) (h1 : One P ty) (ps ps' : List Part) (hp : Pull (prt g ps) rs rs')
    (z : Int) (hy : a.eval y = .int .i64 z) (hi : PutI z ps off ps') (hd : o.dst = none) (h : ∀ w', St W w' (prt g ps' :: rs') → K a w') : o.wp P a w K Q := by
  obtain ⟨h2, h3⟩ := hi.eq
  refine wp_store1 hS ty x y ho g off hx h1 (pcells ps) (pcells ps') hp (.int .i64 z) (.int hy) rfl ?_ hd h
  rw [h3]; exact SetAt.of h2
theorem wp_storeVP (hS : St W w rs) (ty : TypeId) (x y : Operand) (ho : o.op = .store ty x y) (g off : Nat) (hx : a.eval x = .pointer (some ⟨g, off, none⟩)) (h1 : One P ty) (ps ps' : List Part) (hp : Pull (prt g ps) rs rs')
    (z : Value) (hy : IsV (a.eval y) z) (hz : z.oneCell' = true) (hi : PutV z ps off ps') (hd : o.dst = none) (h : ∀ w', St W w' (prt g ps' :: rs') → K a w') : o.wp P a w K Q := by
  obtain ⟨h2, h3⟩ := hi.eq
  refine wp_store1 hS ty x y ho g off hx h1 (pcells ps) (pcells ps') hp z hy hz ?_ hd h
  rw [h3]; exact SetAt.of h2
def partOk : Part → Bool
  | .ints _ => true
  | .val v => v.oneCell'
theorem parts_one : ∀ {ps : List Part}, ps.all partOk = true → (pcells ps).all (·.oneCell') = true
  | [], _ => rfl
  | .ints l :: ps, h => by
    simp only [List.all_cons, Bool.and_eq_true] at h
    simp only [pcells, Part.cells, List.all_append, Bool.and_eq_true]
    refine ⟨?_, parts_one h.2⟩
    rw [List.all_eq_true]; intro u hu; obtain ⟨x, _, rfl⟩ := List.mem_map.1 hu; rfl
  | .val v :: ps, h => by
    simp only [List.all_cons, Bool.and_eq_true] at h
    simp only [pcells, Part.cells, List.all_append, Bool.and_eq_true]
    exact ⟨by simpa [partOk] using h.1, parts_one h.2⟩
theorem wp_storePP (hS : St W w rs) (ty : TypeId) (x y : Operand) (ho : o.op = .store ty x y) (g : Nat) (hx : a.eval x = .pointer (some ⟨g, 0, none⟩)) (m : Nat) (h1 : RowN P ty m) (ps ps' : List Part) (hp : Pull (prt g ps) rs rs')
    (hy : a.eval y = .agg (pcells ps').toArray) (hn : Pre ps m ps) (hn' : Pre ps' m ps') (hv : ps'.all partOk = true) (hd : o.dst = none) (h : ∀ w', St W w' (prt g ps' :: rs') → K a w') : o.wp P a w K Q :=
  wp_storeG hS ty x y ho g hx m h1 (pcells ps) (pcells ps') hp hy hn.take.2 hn'.take.2 (parts_one hv) hd h
theorem wp_allocP (hS : St W w rs) (ty : TypeId) (ho : o.op = .alloc ty) (ps : List Part) (hz : ∀ w, (zeroValue ty).run P w = .ok (.agg (pcells ps).toArray) w)
    (h : ∀ g w', St W w' (prt g ps :: rs) → K (a.put o.dst (.pointer (some ⟨g, 0, none⟩))) w') : o.wp P a w K Q :=
  wp_alloc hS ty ho _ (pcells ps) hz rfl h
end
end Go.Proofs.Ytccgcefeenloiaa
