/- Rows of ints as values: the cells of an array or of a block of ints, read, written and handed on whole. -/
import Derived.Test.YthmkhpijdpbfbaaDoorBase
namespace Go.Proofs.YthmkhpijdpbfbaaDoor
open Go.RowKit
/-- The number at a place. (Its own word: the walk's simp turns getD into other forms.) -/
def nth (l : List Int) (i : Nat) : Int := l.getD i 0
/-- A row of ints, as cells. -/
def iv (l : List Int) : Array Value := (l.map (Value.int .i64)).toArray
theorem iv_size (l : List Int) : (iv l).size = l.length := by simp [iv]
theorem iv_get (l : List Int) (i : Nat) (h : i < l.length) : (iv l)[i]? = some (.int .i64 (nth l i)) := by
  simp [iv, nth, List.getElem?_eq_getElem h]
theorem iv_set (l : List Int) (i : Nat) (x : Int) : (iv l).setIfInBounds i (.int .i64 x) = iv (l.set i x) := by
  simp [iv, List.map_set]
theorem iv_one (l : List Int) : (iv l).all (·.oneCell') = true := by
  rw [Array.all_eq_true_iff_forall_mem]
  intro v hv
  simp only [iv, List.mem_toArray, List.mem_map] at hv
  obtain ⟨n, _, rfl⟩ := hv
  rfl
theorem all_nth (l m : List Int) (h : l.length = m.length) : ((List.range l.length).all fun i => nth l i == nth m i) = (l == m) := by
  rw [Bool.eq_iff_iff, List.all_eq_true]
  simp only [List.mem_range, beq_iff_eq]
  constructor
  · intro hall
    apply List.ext_getElem h
    intro i h1 h2
    have := hall i h1
    simpa [nth, List.getD, List.getElem?_eq_getElem h1, List.getElem?_eq_getElem h2] using this
  · intro e i _; rw [e]
/-- '==' of two arrays of ints. -/
theorem run_equalIn_iv {P : Program} (w : World) (d : Nat) (t e : TypeId) (n : Nat) (ht : P.underlying t = some (.array n e)) (he : P.underlying e = some (.int .i64)) (hsz : ∀ w, (sizeOf e).run P w = .ok 1 w)
    (xs ys : List Int) (hx : xs.length = n) (hy : ys.length = n) :
    (Op.equalIn (d + 2) t (.agg (iv xs)) (.agg (iv ys))).run P w = .ok (xs == ys) w := by
  rw [← all_nth xs ys (hx.trans hy.symm), hx, List.range_eq_range', Op.equalIn]
  simp only [Sem.run_bind, run_underlying ht, Result.andThen_ok, hsz, Std.Legacy.Range.forIn_eq_forIn_range', Std.Legacy.Range.size, Nat.sub_zero, Nat.add_sub_cancel, Nat.div_one]
  have hl : ∀ i ∈ List.range' 0 n 1, i < n := fun i hi => by simpa using (List.mem_range'_1.1 hi).2
  generalize List.range' 0 n 1 = l at hl ⊢
  induction l with
  | nil => simp
  | cons i l ih =>
    have hi : i < n := hl i (by simp)
    have px : (part e (iv xs) (i * 1)).run P w = .ok (.int .i64 (nth xs i)) w := by
      rw [run_part, Nat.mul_one, iv_get xs i (by omega)]
      simp [isAgg, run_underlying he]
    have py : (part e (iv ys) (i * 1)).run P w = .ok (.int .i64 (nth ys i)) w := by
      rw [run_part, Nat.mul_one, iv_get ys i (by omega)]
      simp [isAgg, run_underlying he]
    have pe : (Op.equalIn (d + 1) e (.int .i64 (nth xs i)) (.int .i64 (nth ys i))).run P w = .ok (nth xs i == nth ys i) w :=
      run_equalIn_int w d e .i64 .i64 _ _ he
    simp only [List.forIn_cons, Sem.run_bind, px, py, pe, Result.andThen_ok, List.all_cons]
    cases hb : (nth xs i == nth ys i)
    · simp
    · simp only [Bool.not_true, Bool.false_eq_true, if_false, Sem.run_pure, Result.andThen_ok, Bool.true_and]
      exact ih fun j hj => hl j (by simp [hj])
/-- Block g of the world holds the row of ints l; it may be written. -/
def Row (w : World) (g : Nat) (l : List Int) : Prop := ∃ t, w.heap[g]? = some (.cells (iv l) t (0, 0))
theorem Row.cell {w : World} {g : Nat} {l : List Int} (h : Row w g l) (i : Nat) (hi : i < l.length) : w.cell? ⟨g, i, none⟩ = some (.int .i64 (nth l i)) := by
  obtain ⟨t, h⟩ := h
  rw [cell_of_row w g i _ t _ h, iv_get l i hi]
theorem Row.free {w : World} {g : Nat} {l : List Int} (h : Row w g l) (i : Nat) : w.frozen? ⟨g, i, none⟩ = false := by
  obtain ⟨t, h⟩ := h
  exact frozen_of_row w g i _ t h
theorem Row.set {w : World} {g : Nat} {l : List Int} (h : Row w g l) (i : Nat) (x : Int) : Row (w.setCell ⟨g, i, none⟩ (.int .i64 x)) g (l.set i x) := by
  obtain ⟨t, h⟩ := h
  exact ⟨t, by rw [heap_setCell_same w g i _ t _ h, iv_set]⟩
theorem Row.setOther {w : World} {g : Nat} {l : List Int} (h : Row w g l) (a : Addr) (v : Value) (hne : g ≠ a.block) : Row (w.setCell a v) g l := by
  obtain ⟨t, h⟩ := h
  exact ⟨t, by rw [heap_setCell_other w a g v hne]; exact h⟩
theorem Row.lt {w : World} {g : Nat} {l : List Int} (h : Row w g l) : g < w.heap.size := by
  obtain ⟨t, h⟩ := h
  exact (Array.getElem?_eq_some_iff.1 h).1
theorem Row.ext {w w' : World} {g : Nat} {l : List Int} (h : Row w g l) (hE : Ext w w') : Row w' g l := by
  have hl := h.lt
  obtain ⟨t, h⟩ := h
  exact ⟨t, by rw [hE.at hl]; exact h⟩
theorem Row.of_heap {w w' : World} {g : Nat} {l : List Int} (h : Row w g l) (hh : w'.heap[g]? = w.heap[g]?) : Row w' g l := by
  obtain ⟨t, h⟩ := h
  exact ⟨t, by rw [hh]; exact h⟩
theorem Row.alloc {w : World} {g : Nat} {l : List Int} (h : Row w g l) (o : Obj) : Row (w.alloc o) g l := h.ext ((Ext.refl w).alloc o)
theorem Row.drew {w : World} {g : Nat} {l : List Int} (h : Row w g l) : Row w.drew g l := h
theorem Row.new (w : World) (l : List Int) (t : TypeId) : Row (w.alloc (.cells (iv l) t)) w.heap.size l := ⟨t, heap_alloc_new w _⟩
/-- A row that is being filled, place by place. -/
def filling (L : List Int) (k : Nat) : List Int := L.take k ++ List.replicate (L.length - k) 0
theorem filling_zero (L : List Int) : filling L 0 = List.replicate L.length 0 := by simp [filling]
theorem filling_len (L : List Int) (k : Nat) (h : k ≤ L.length) : (filling L k).length = L.length := by simp [filling]; omega
theorem filling_all (L : List Int) : filling L L.length = L := by simp [filling]
theorem filling_set (L : List Int) (k : Nat) (h : k < L.length) : (filling L k).set k (nth L k) = filling L (k + 1) := by
  unfold filling
  rw [List.set_append_right _ _ (by simp; omega)]
  have e1 : (List.take k L).length = k := by simp; omega
  rw [e1, Nat.sub_self, List.take_add_one, List.getElem?_eq_getElem h]
  have e2 : L.length - k = (L.length - (k + 1)) + 1 := by omega
  rw [e2, List.replicate_succ, List.set_cons_zero, List.append_assoc]
  simp [nth, List.getD, List.getElem?_eq_getElem h]
/-- The slice value v has n elements of s cells each, which read as the cells cs. -/
def Sl (w : World) (s : Nat) (v : Value) (n : Nat) (cs : List Value) : Prop :=
  cs.length = n * s ∧ ∃ a c, v = .slice a n c ∧ n ≤ c ∧ c ≤ maxLen ∧ (n = 0 ∨ ∃ b off, a = some ⟨b, off, none⟩ ∧ ∀ k, k < n * s → w.cell? ⟨b, off + k, none⟩ = cs[k]?)
theorem Sl.ext {w w' : World} {s : Nat} {v : Value} {n : Nat} {cs : List Value} (h : Sl w s v n cs) (hE : Ext w w') : Sl w' s v n cs := by
  obtain ⟨hl, a, c, hv, h1, h2, h3⟩ := h
  refine ⟨hl, a, c, hv, h1, h2, ?_⟩
  rcases h3 with h3 | ⟨b, off, ha, hc⟩
  · exact .inl h3
  · refine .inr ⟨b, off, ha, fun k hk => ?_⟩
    have h := hc k hk
    rw [List.getElem?_eq_getElem (by omega)] at h ⊢
    exact hE.cell h
theorem Sl.nil (w : World) (s : Nat) : Sl w s (.slice none 0 0) 0 [] := ⟨by simp, none, 0, rfl, Nat.le_refl _, by unfold maxLen; omega, .inl rfl⟩
/-- A slice of a slice. -/
theorem Sl.cut {w : World} {s : Nat} {b off n c : Nat} {cs : List Value} (h : Sl w s (.slice (some ⟨b, off, none⟩) n c) n cs) (i j : Nat) (hi : i ≤ j) (hj : j ≤ n) :
    Sl w s (.slice (some ⟨b, off + i * s, none⟩) (j - i) (c - i)) (j - i) ((cs.drop (i * s)).take ((j - i) * s)) := by
  obtain ⟨hl, a, c', hv, h1, h2, h3⟩ := h
  cases hv
  have hjs : j * s ≤ n * s := Nat.mul_le_mul_right s hj
  have his : i * s ≤ j * s := Nat.mul_le_mul_right s hi
  have hsub : (j - i) * s = j * s - i * s := Nat.sub_mul j i s
  refine ⟨by simp; omega, _, _, rfl, by omega, by omega, ?_⟩
  by_cases hij : j - i = 0
  · exact .inl hij
  · refine .inr ⟨b, off + i * s, rfl, fun k hk => ?_⟩
    rcases h3 with h3 | ⟨b', off', ha, hc⟩
    · omega
    · cases ha
      rw [Nat.add_assoc, hc (i * s + k) (by omega), List.getElem?_take, if_pos hk, List.getElem?_drop]
/-- A row that the call owns, read as a slice. -/
theorem Sl.ofOwn {w : World} {base : Nat} {e : TypeId} {s : Nat} {v : Value} {n : Nat} {xs : List Value} (h : w.ownsRow base e s v n xs) : Sl w s v n xs := by
  obtain ⟨hl, h⟩ := h
  refine ⟨hl, ?_⟩
  rcases h with ⟨rfl, rfl⟩ | ⟨g, cap, cur, rfl, hb, hg, hn, hc, hsz, htake⟩
  · exact ⟨none, 0, rfl, Nat.le_refl _, by unfold maxLen; omega, .inl rfl⟩
  · refine ⟨_, _, rfl, hn, hc, .inr ⟨g, 0, rfl, fun k hk => ?_⟩⟩
    rw [Nat.zero_add, cell_of_row w g k cur e _ hg, ← htake, List.getElem?_take, if_pos hk]
    simp
theorem Sl.of_row {w : World} {g : Nat} {l : List Int} (h : Row w g l) (hn : l.length ≤ maxLen) : Sl w 1 (.slice (some ⟨g, 0, none⟩) l.length l.length) l.length (l.map (Value.int .i64)) := by
  refine ⟨by simp, _, _, rfl, Nat.le_refl _, hn, .inr ⟨g, 0, rfl, fun k hk => ?_⟩⟩
  rw [Nat.zero_add, h.cell k (by omega), List.getElem?_map, List.getElem?_eq_getElem (by omega)]
  simp [nth, List.getElem?_eq_getElem (show k < l.length by omega)]
/-- A slice of ints. -/
def ISl (w : World) (v : Value) (xs : List Int) : Prop := Sl w 1 v xs.length (xs.map (Value.int .i64))
theorem ISl.ext {w w' : World} {v : Value} {xs : List Int} (h : ISl w v xs) (hE : Ext w w') : ISl w' v xs := Sl.ext h hE
theorem ISl.open {w : World} {v : Value} {xs : List Int} (h : ISl w v xs) : ∃ a c, v = .slice a xs.length c ∧ xs.length ≤ c ∧ c ≤ 9223372036854775807 ∧
    (∀ i, i < xs.length → ∃ b off, a = some ⟨b, off, none⟩ ∧ ∀ k, k < xs.length → w.cell? ⟨b, off + k, none⟩ = some (.int .i64 (nth xs k))) := by
  obtain ⟨_, a, c, hv, h1, h2, h3⟩ := h
  refine ⟨a, c, hv, h1, by unfold maxLen at h2; exact h2, fun i hi => ?_⟩
  rcases h3 with h3 | ⟨b, off, ha, hc⟩
  · omega
  · refine ⟨b, off, ha, fun k hk => ?_⟩
    rw [hc k (by omega), List.getElem?_map, List.getElem?_eq_getElem hk]
    simp [nth, List.getD, List.getElem?_eq_getElem hk]
theorem ISl.of_row {w : World} {g : Nat} {l : List Int} {n : Nat} (h : Row w g l) (hl : l.length = n) (hn : n ≤ maxLen) : ISl w (.slice (some ⟨g, 0, none⟩) n n) l := by
  subst hl; exact Sl.of_row h hn
theorem ISl.ofOwn {w : World} {base : Nat} {e : TypeId} {v : Value} {xs : List Int} (h : w.ownsRow base e 1 v xs.length (xs.map (Value.int .i64))) : ISl w v xs := Sl.ofOwn h
theorem take_eq_succ (xs ys : List Int) (i : Nat) (h1 : i < xs.length) (h2 : i < ys.length) (h : xs.take i = ys.take i) (he : nth xs i = nth ys i) : xs.take (i + 1) = ys.take (i + 1) := by
  rw [List.take_add_one, List.take_add_one, h, List.getElem?_eq_getElem h1, List.getElem?_eq_getElem h2]
  simp [nth, List.getD, List.getElem?_eq_getElem h1, List.getElem?_eq_getElem h2] at he
  rw [he]
theorem nth_take (xs : List Int) (n i : Nat) (h : i < n) : nth (xs.take n) i = nth xs i := by
  simp [nth, List.getD, h]
theorem nth_drop (xs : List Int) (n i : Nat) : nth (xs.drop n) i = nth xs (n + i) := by
  simp [nth, List.getD]
theorem ISl.cut {w : World} {b off n c : Nat} {xs : List Int} (h : ISl w (.slice (some ⟨b, off, none⟩) n c) xs) (i j : Nat) (hi : i ≤ j) (hj : j ≤ xs.length) :
    ISl w (.slice (some ⟨b, off + i, none⟩) (j - i) (c - i)) ((xs.drop i).take (j - i)) := by
  have hn : n = xs.length := by
    obtain ⟨_, a, c', hv, _⟩ := h
    injection hv
  subst hn
  have := Sl.cut h i j hi hj
  simp only [Nat.mul_one] at this
  have hl : ((xs.drop i).take (j - i)).length = j - i := by simp; omega
  unfold ISl
  rw [hl, List.map_take, List.map_drop]
  exact this
theorem rangeAt_ext {w w' : World} {b o : Nat} {cs : List Value} (h : w.rangeAt b o cs) (hE : Ext w w') : w'.rangeAt b o cs := fun j v hv => hE.cell (h j v hv)
theorem Row.range {w : World} {g : Nat} {l : List Int} (h : Row w g l) : w.rangeAt g 0 (l.map (Value.int .i64)) := fun j v hv => by
  obtain ⟨t, h⟩ := h
  rw [cell_of_row w g _ _ t _ h, Nat.zero_add]
  simpa [iv] using hv
theorem Ext.setRow {W w : World} (h : Ext W w) {g : Nat} (hg : W.heap.size ≤ g) (cs : Array Value) : Ext W (w.setRow g cs) := by
  refine Below.trans h ⟨rfl, rfl, rfl, by simp, fun k hk => setRow_other w g k cs (by omega)⟩
theorem Row.setRow {w : World} {g : Nat} {l : List Int} (h : Row w g l) (m : List Int) : Row (w.setRow g (iv m)) g m := by
  obtain ⟨t, h⟩ := h
  exact ⟨t, setRow_heap w g _ _ t _ h⟩
theorem Row.setRowOther {w : World} {g g' : Nat} {l : List Int} (h : Row w g l) (hne : g ≠ g') (cs : Array Value) : Row (w.setRow g' cs) g l := by
  obtain ⟨t, h⟩ := h
  exact ⟨t, by rw [setRow_other w g' g cs hne]; exact h⟩
end Go.Proofs.YthmkhpijdpbfbaaDoor
