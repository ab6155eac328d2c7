/- Rows of integers that the call owns, cell by cell and element by element; slices of slices; slices that are made. -/
import Derived.Test.YthmkhpijdpbfbaaDoorDraw2
namespace Go.Proofs.YthmkhpijdpbfbaaDoor
open Go.RowKit
set_option linter.unusedVariables false
/-- The element j, of s cells, of a row of ints. -/
def seg (l : List Int) (s j : Nat) : List Int := (l.drop (j * s)).take s
theorem nth_seg (l : List Int) (s j i : Nat) (h : i < s) : nth (seg l s j) i = nth l (j * s + i) := by
  unfold seg; rw [nth_take _ _ _ h, nth_drop]
theorem seg_len (l : List Int) (s j n : Nat) (h : l.length = n * s) (hj : j < n) : (seg l s j).length = s := by
  have : j * s + s ≤ n * s := by have := Nat.mul_le_mul_right s hj; rw [Nat.succ_mul] at this; exact this
  simp [seg]; omega
theorem nth_set_eq (l : List Int) (i : Nat) (z : Int) (h : i < l.length) : nth (l.set i z) i = z := by simp [nth, List.getD, h]
theorem nth_set_ne (l : List Int) (i j : Nat) (z : Int) (h : i ≠ j) : nth (l.set i z) j = nth l j := by simp [nth, List.getD, h]
theorem nth_set (l : List Int) (i j : Nat) (z : Int) (h : i < l.length) : nth (l.set i z) j = if i = j then z else nth l j := by
  split
  · rename_i e; subst e; exact nth_set_eq l i z h
  · rename_i e; exact nth_set_ne l i j z e
theorem nth_app1 (l m : List Int) (i : Nat) (h : i < l.length) : nth (l ++ m) i = nth l i := by simp [nth, List.getD, List.getElem?_append_left h]
theorem nth_app2 (l m : List Int) (i : Nat) (h : l.length ≤ i) : nth (l ++ m) i = nth m (i - l.length) := by simp [nth, List.getD, List.getElem?_append_right h]
theorem nth_map (l : List Int) (f : Int → Int) (i : Nat) (h : i < l.length) : nth (l.map f) i = f (nth l i) := by simp [nth, List.getD, h]
theorem nth_of_get {l : List Int} {i : Nat} {z : Int} (h : l[i]? = some z) : nth l i = z := by simp [nth, List.getD, h]
theorem get_nth (l : List Int) (i : Nat) (h : i < l.length) : l[i]? = some (nth l i) := by simp [nth, List.getD, h]
theorem nth_out (l : List Int) (i : Nat) (h : l.length ≤ i) : nth l i = 0 := by simp [nth, List.getD, List.getElem?_eq_none h]
theorem list_ext {l m : List Int} (h : l.length = m.length) (k : ∀ i, i < l.length → nth l i = nth m i) : l = m := by
  apply List.ext_getElem h
  intro i h1 h2
  have := k i h1
  simpa [nth, List.getD, List.getElem?_eq_getElem h1, List.getElem?_eq_getElem h2] using this
theorem nth_zeros (n i : Nat) : nth (List.replicate n 0) i = 0 := by unfold nth; rw [List.getD_eq_getElem?_getD, List.getElem?_replicate]; split <;> rfl
theorem nth_rep (n : Nat) (z : Int) (i : Nat) (h : i < n) : nth (List.replicate n z) i = z := by simp [nth, List.getD, h]
/-- A row whose number at each place is a function of the place. -/
def tab (n : Nat) (F : Nat → Int) : List Int := (List.range n).map F
theorem tab_len (n : Nat) (F : Nat → Int) : (tab n F).length = n := by simp [tab]
theorem nth_tab (n : Nat) (F : Nat → Int) (i : Nat) (h : i < n) : nth (tab n F) i = F i := by simp [tab, nth, List.getD, h]
theorem tab_of {n : Nat} {F : Nat → Int} {l : List Int} (h : l.length = n) (k : ∀ i, i < n → nth l i = F i) : l = tab n F := list_ext (by rw [h, tab_len]) fun i hi => by rw [k i (by omega), nth_tab n F i (by omega)]
section
variable {P : Program} {W w : World} {rs rs' : List Res} {Q : Exit → Act → World → Prop} {K : Act → World → Prop} {o : Oper} {a : Act}
theorem St.ownLen {e : TypeId} {s n c : Nat} {ad : Option Addr} {xs : List Value} (hS : St W w rs) (hp : Pull (Go.Proofs.YthmkhpijdpbfbaaDoor.own e s ad n c xs) rs rs') : xs.length = n * s := (hS.own hp).1
/-- Cells that lie together in a row of one's own. -/
theorem own_range {e : TypeId} {s n c g off m : Nat} {xs : List Value} (hS : St W w rs) (hp : Pull (own e s (some ⟨g, 0, none⟩) n c xs) rs rs') : w.rangeAt g off ((xs.drop off).take m) := fun j v hv => by
  rw [List.getElem?_take] at hv
  split at hv
  · rw [List.getElem?_drop] at hv; exact own_cell hS hp hv
  · cases hv
theorem wp_load1OI (hS : St W w rs) (ty : TypeId) (x : Operand) (ho : o.op = .load ty x) (g off : Nat) (hx : a.eval x = .pointer (some ⟨g, off, none⟩)) (h1 : One P ty) (e : TypeId) (s n c : Nat) (l : List Int) (hp : Pull (own e s (some ⟨g, 0, none⟩) n c (l.map (Value.int .i64))) rs rs')
    (hi : off < n * s) (h : K (a.put o.dst (.int .i64 (nth l off))) w) : o.wp P a w K Q := by
  have hl := hS.ownLen hp
  rw [List.length_map] at hl
  exact wp_load1O hS ty x ho g off hx h1 e s n c _ hp _ (by rw [List.getElem?_map, get_nth l off (by omega)]; rfl) h
theorem wp_loadRO (hS : St W w rs) (ty : TypeId) (x : Operand) (ho : o.op = .load ty x) (g off : Nat) (hx : a.eval x = .pointer (some ⟨g, off, none⟩)) (m : Nat) (h1 : RowN P ty m) (e : TypeId) (s n c : Nat) (l : List Int) (hp : Pull (own e s (some ⟨g, 0, none⟩) n c (l.map (Value.int .i64))) rs rs')
    (hi : off + m ≤ n * s) (h : K (a.put o.dst (.agg (iv ((l.drop off).take m)))) w) : o.wp P a w K Q := by
  have hl := hS.ownLen hp
  rw [List.length_map] at hl
  refine wp_loadR ty x ho g off hx m h1 (((l.drop off).take m).map (Value.int .i64)) (by simp; omega) ?_ h
  have := own_range (off := off) (m := m) hS hp
  rwa [← List.map_drop, ← List.map_take] at this
/-- The same, the cells spelled otherwise. -/
theorem wp_loadROE (hS : St W w rs) (ty : TypeId) (x : Operand) (ho : o.op = .load ty x) (g off : Nat) (hx : a.eval x = .pointer (some ⟨g, off, none⟩)) (m : Nat) (h1 : RowN P ty m) (e : TypeId) (s n c : Nat) (l : List Int) (hp : Pull (own e s (some ⟨g, 0, none⟩) n c (l.map (Value.int .i64))) rs rs')
    (hi : off + m ≤ n * s) (l' : List Int) (hl' : (l.drop off).take m = l') (h : K (a.put o.dst (.agg (iv l'))) w) : o.wp P a w K Q :=
  wp_loadRO hS ty x ho g off hx m h1 e s n c l hp hi (by rw [hl']; exact h)
/-- A store into a row of one's own. -/
theorem own_store {e : TypeId} {s n c g off : Nat} {xs : List Value} (hS : St W w rs) (hp : Pull (own e s (some ⟨g, 0, none⟩) n c xs) rs rs') (v : Value) (hi : off < n * s) :
    w.frozen? ⟨g, off, none⟩ = false ∧ St W (w.setCell ⟨g, off, none⟩ v) (own e s (some ⟨g, 0, none⟩) n c (xs.set off v) :: rs') := by
  have hown := hS.own hp
  refine ⟨?_, ?_⟩
  · rcases hown.2 with ⟨h1, h2⟩ | ⟨g', cap, cur, h1, _, hg, _⟩
    · cases h1
    · cases h1; exact frozen_of_row w g off cur e hg
  · refine St.change (rs1 := [own e s (some ⟨g, 0, none⟩) n c (xs.set off v)]) (hS.pull hp) fun f1 h1 _ _ => ?_
    obtain ⟨rfl, h1⟩ := h1
    refine ⟨[g], ⟨[g], [], rfl, ⟨rfl, by simpa using h1.1, ?_⟩, rfl⟩, by simp, fun b hb => .inl (by simpa [Value.ownBlock] using hb), Only.setCell w ⟨g, off, none⟩ v⟩
    rcases h1.2 with ⟨h2, h3⟩ | ⟨g', cap, cur, h2, hb, hg, hn, hc, hsz, htake⟩
    · cases h2
    · cases h2
      refine .inr ⟨g, c, cur.setIfInBounds off v, rfl, hb, heap_setCell_same w g off cur e _ hg, hn, hc, by simpa using hsz, ?_⟩
      rw [Array.toList_setIfInBounds, List.take_set, htake]
theorem wp_store1O (hS : St W w rs) (ty : TypeId) (x y : Operand) (ho : o.op = .store ty x y) (g off : Nat) (hx : a.eval x = .pointer (some ⟨g, off, none⟩)) (h1 : One P ty) (e : TypeId) (s n c : Nat) (xs : List Value) (hp : Pull (own e s (some ⟨g, 0, none⟩) n c xs) rs rs')
    (v : Value) (hy : IsV (a.eval y) v) (hv : v.oneCell' = true) (hi : off < n * s) (hd : o.dst = none) (h : ∀ w', St W w' (own e s (some ⟨g, 0, none⟩) n c (xs.set off v) :: rs') → K a w') : o.wp P a w K Q := by
  obtain ⟨hf, hS'⟩ := own_store hS hp v hi
  have hl := hS.ownLen hp
  exact wp_storeC ty x y ho _ hx h1 v (xs[off]'(by omega)) hy.eq hv (own_cell hS hp (by simp [hl, hi])) hf hd (h _ hS')
theorem wp_store1OI (hS : St W w rs) (ty : TypeId) (x y : Operand) (ho : o.op = .store ty x y) (g off : Nat) (hx : a.eval x = .pointer (some ⟨g, off, none⟩)) (h1 : One P ty) (e : TypeId) (s n c : Nat) (l : List Int) (hp : Pull (own e s (some ⟨g, 0, none⟩) n c (l.map (Value.int .i64))) rs rs')
    (z : Int) (hy : a.eval y = .int .i64 z) (hi : off < n * s) (hd : o.dst = none) (h : ∀ w', St W w' (own e s (some ⟨g, 0, none⟩) n c ((l.set off z).map (Value.int .i64)) :: rs') → K a w') : o.wp P a w K Q :=
  wp_store1O hS ty x y ho g off hx h1 e s n c _ hp (.int .i64 z) (.int hy) rfl hi hd (by rw [List.map_set] at h; exact h)
/-- A load of one cell of an element that came in. -/
theorem wp_load1R (hS : St W w rs) (ty : TypeId) (x : Operand) (ho : o.op = .load ty x) (b off f : Nat) (hx : a.eval x = .pointer (some ⟨b, off + f, none⟩)) (h1 : One P ty) (l : List Int) (s : Nat) (hl : Len l s) (hr : W.rangeAt b off (l.map (Value.int .i64))) (hf : f < s)
    (h : K (a.put o.dst (.int .i64 (nth l f))) w) : o.wp P a w K Q :=
  wp_load ty x ho _ hx h1 _ (hS.1.cell (hr f _ (by rw [List.getElem?_map, get_nth l f (by rw [hl.out]; exact hf)]; rfl))) h
theorem wp_load1R0 (hS : St W w rs) (ty : TypeId) (x : Operand) (ho : o.op = .load ty x) (b off : Nat) (hx : a.eval x = .pointer (some ⟨b, off, none⟩)) (h1 : One P ty) (l : List Int) (s : Nat) (hl : Len l s) (hr : W.rangeAt b off (l.map (Value.int .i64))) (hf : 0 < s)
    (h : K (a.put o.dst (.int .i64 (nth l 0))) w) : o.wp P a w K Q :=
  wp_load1R hS ty x ho b off 0 hx h1 l s hl hr hf h
theorem wp_loadRI (hS : St W w rs) (ty : TypeId) (x : Operand) (ho : o.op = .load ty x) (b off : Nat) (hx : a.eval x = .pointer (some ⟨b, off, none⟩)) (s : Nat) (h1 : RowN P ty s) (l : List Int) (hl : Len l s) (hr : W.rangeAt b off (l.map (Value.int .i64)))
    (h : K (a.put o.dst (.agg (iv l))) w) : o.wp P a w K Q :=
  wp_loadRW hS ty x ho b off hx s h1 (l.map (Value.int .i64)) hr (by rw [List.length_map]; exact hl) h
end
section
variable {P : Program} {ops : Array Oper} {Q : Exit → Act → World → Prop} {rest : List Oper} {a : Act} {W w : World} {rs : List Res} {d : Option Tmp} {x y : Operand} {t ty : TypeId} {pos : String} {af : Array Edge} {g : Option (Nat × Bool)} {k : IntKind}
/-- An element, of s ints, of a slice that came in. -/
theorem wpl_indexS {ad : Option Addr} {n c j s : Nat} {l : List Int} {e : TypeId} {i : Int} (hv : Sl W s (.slice ad n c) n (l.map (Value.int .i64))) (ht : P.underlying t = some (.slice e)) (hs : (P.info? e).map (·.size) = some s) (hx : a.eval x = .slice ad n c) (hy : a.eval y = .int k i) (hj : IsN i j) (hn : j < n)
    (hw : Region.wanted ⟨d, .indexAddr t x y, ty, pos, af, g⟩ (yielded ops a.tmps) = true)
    (h : ∀ b o, Len (seg l s j) s → W.rangeAt b o ((seg l s j).map (Value.int .i64)) → (Oper.mk d (.move (.const (.pointer (some ⟨b, o, none⟩)))) ty pos af g).wp P a w (wpList P ops Q rest) Q) : wpList P ops Q (⟨d, .indexAddr t x y, ty, pos, af, g⟩ :: rest) a w :=
  wpl_indexW hv ht hs hx hy hj hn hw fun b o hr => h b o (seg_len l s j n (by have := hv.1; simpa using this) hn) (by unfold seg; rw [List.map_take, List.map_drop]; exact hr)
end
/-- Where a slice expression begins. -/
inductive Lo (a : Act) : Option Operand → Nat → Prop
  | none : Lo a none 0
  | some {x : Operand} {k : IntKind} {i : Int} {j : Nat} (h : a.eval x = .int k i) (hj : IsN i j) : Lo a (some x) j
/-- Where it ends. -/
inductive Up (a : Act) (n : Nat) : Option Operand → Nat → Prop
  | none : Up a n none n
  | some {x : Operand} {k : IntKind} {i : Int} {j : Nat} (h : a.eval x = .int k i) (hj : IsN i j) : Up a n (some x) j
section
variable {P : Program} {W w : World} {a : Act} {x : Operand} {t ty : TypeId}
/-- A struct that is written out. -/
theorem V.build {ps : List (Nat × Operand)} {vs : List (Nat × Value)} {v : Value} (hvs : ps.map (fun x => (x.1, a.eval x.2)) = vs) (hr : ∀ w, (Instr.build t vs.toArray).run P w = .ok v w) : Val P (.build t ps.toArray) ty a v := fun d pos af g w => by
  have e : (ps.toArray).map (fun (x : Nat × Operand) => (x.1, a.eval x.2)) = vs.toArray := by rw [← hvs]; simp
  have e2 : execOp a.eval ⟨d, .build t ps.toArray, ty, pos, af, g⟩ = (do pure (.value (← Instr.build t ((ps.toArray).map fun (x : Nat × Operand) => (x.1, a.eval x.2))))) := rfl
  rw [e2, e]
  simp only [Sem.run_bind, hr, Result.andThen_ok, Sem.run_pure]
/-- The address of a slice of a slice. -/
def cutAt (ad : Option Addr) (c l s : Nat) : Option Addr := if c = l then ad else ad.map (·.add (l * s))
theorem V.slice {ad : Option Addr} {n c l h s : Nat} {e : TypeId} {lo hi : Option Operand} (ht : P.underlying t = some (.slice e)) (hs : (P.info? e).map (·.size) = some s) (hx : a.eval x = .slice ad n c) (hl : Lo a lo l) (hh : Up a n hi h) (h1 : l ≤ h) (h2 : h ≤ c) :
    Val P (.slice t x lo hi none) ty a (.slice (cutAt ad c l s) (h - l) (c - l)) := fun d pos af g w => by
  have e0 : P.elem t = e := by simp [Program.elem, ht]
  have ht' : P.underlying t = some (.slice (P.elem t)) := by rw [e0]; exact ht
  have fin : ∀ {lv hv : Option Value}, lo.map a.eval = lv → hi.map a.eval = hv → (Instr.slice t (.slice ad n c) lv hv none).run P w = ((sizeOf (P.elem t)).run P w).andThen (fun s w => .ok (sliced ad l h c s) w) →
      (execOp a.eval ⟨d, .slice t x lo hi none, ty, pos, af, g⟩).run P w = .ok (.value (.slice (cutAt ad c l s) (h - l) (c - l))) w := by
    intro lv hv e1 e2 hr
    rw [e0, run_sizeOf' w hs, Result.andThen_ok] at hr
    simp only [execOp, hx, e1, e2, Option.map_none, Sem.run_bind, run_sliceAt_slice w t _ lv hv none ht', hr, Result.andThen_ok, Sem.run_pure, sliced, cutAt]
  cases hl with
  | none => cases hh with
    | none => exact fin rfl rfl (run_slice_all w t ad n c ht')
    | @some y k2 i2 _ hy hj =>
      unfold IsN at hj
      subst hj
      have := run_slice_h w t ad n c ht' k2 (h : Int) (by omega) (by omega)
      rw [Int.toNat_natCast] at this
      exact fin rfl (by rw [Option.map_some, hy]) this
  | @some y1 k1 i1 _ hy1 hj1 =>
    unfold IsN at hj1
    subst hj1
    cases hh with
    | none =>
      have := run_slice_l w t ad n c ht' k1 (l : Int) (by omega) (by omega)
      rw [Int.toNat_natCast] at this
      exact fin (by rw [Option.map_some, hy1]) rfl this
    | @some y k2 i2 _ hy hj =>
      unfold IsN at hj
      subst hj
      have := run_slice_lh w t ad n c ht' k1 k2 (l : Int) (h : Int) (by omega) (by omega) (by omega)
      rw [Int.toNat_natCast, Int.toNat_natCast] at this
      exact fin (by rw [Option.map_some, hy1]) (by rw [Option.map_some, hy]) this
/-- What a slice of a slice holds. -/
theorem Sl.cutAt {s n c : Nat} {ad : Option Addr} {cs : List Value} (hv : Sl w s (.slice ad n c) n cs) (l h : Nat) (h1 : l ≤ h) (h2 : h ≤ n) : Sl w s (.slice (cutAt ad c l s) (h - l) (c - l)) (h - l) ((cs.drop (l * s)).take ((h - l) * s)) := by
  obtain ⟨hlen, a', c', e, hnc, hcm, hor⟩ := hv
  cases e
  have hhs : h * s ≤ n * s := Nat.mul_le_mul_right s h2
  have hls : l * s ≤ h * s := Nat.mul_le_mul_right s h1
  have hsub : (h - l) * s = h * s - l * s := Nat.sub_mul h l s
  refine ⟨by simp; omega, _, _, rfl, by omega, by omega, ?_⟩
  by_cases hz : h - l = 0
  · exact .inl hz
  · rcases hor with h0 | ⟨b, off, rfl, hc⟩
    · omega
    · refine .inr ⟨b, off + l * s, ?_, fun k hk => ?_⟩
      · unfold Go.Proofs.YthmkhpijdpbfbaaDoor.cutAt
        rw [if_neg (by omega)]
        simp only [Option.map_some, Addr.add_mid]
      · rw [Nat.add_assoc, hc (l * s + k) (by omega), List.getElem?_take, if_pos hk, List.getElem?_drop]
end
/-- The nought of an element's type: s ints 0. -/
structure ElemZ (P : Program) (t e : TypeId) (k : IntKind) (s b : Nat) : Prop where
  ht : P.underlying t = some (.slice e)
  ex : ∃ i z, P.info? e = some i ∧ i.zero = some z ∧ i.size = s ∧ i.bytes = b ∧ z.cells = Array.replicate s (.int k 0)
  pos : 0 < s
theorem ElemZ.mk' {P : Program} {t e : TypeId} {k : IntKind} {s b : Nat} (z : Value) (ht : P.underlying t = some (.slice e)) (hi : (P.info? e).map (fun i => (i.zero, i.size, i.bytes)) = some (some z, s, b)) (hz : z.cells = Array.replicate s (.int k 0)) (hp : 0 < s) : ElemZ P t e k s b := by
  obtain ⟨i, h1, h2, h3, h4⟩ := info_parts hi
  exact ⟨ht, ⟨i, z, h1, h2, h3, h4, hz⟩, hp⟩
theorem made_zeros (k : IntKind) (s m : Nat) (hs : 0 < s) : (madeCells (Array.replicate s (Value.int k 0)) m).toList = (List.replicate m (0 : Int)).map (Value.int k) := by
  apply List.ext_getElem?
  intro i
  by_cases hi : i < m
  · have : i % s < s := Nat.mod_lt i hs
    simp [madeCells, hi, this]
  · simp [madeCells, hi]
section
variable {P : Program} {W w : World} {rs rs' : List Res} {Q : Exit → Act → World → Prop} {K : Act → World → Prop} {o : Oper} {a : Act}
theorem St.grown {W w w' : World} {rs : List Res} {r : Res} {f : List Nat} (hS : St W w rs) (hg : w.grownBy w' none) (hr : r.holds w' f) (hn : f.Nodup) (hf : ∀ b ∈ f, w.heap.size ≤ b) : St W w' (r :: rs) := by
  have hE : Ext w w' := ⟨hg.os, hg.tape, hg.output, hg.size, fun k hk => hg.block k hk (by simp)⟩
  exact hS.call1 ⟨hE, f, hn, hf, f, [], by simp, hr, rfl⟩
/-- A slice that is made. -/
theorem wp_make (hS : St W w rs) (t : TypeId) (x y : Operand) (ho : o.op = .makeSlice t x y) (e : TypeId) (k : IntKind) (s b : Nat) (el : ElemZ P t e k s b) (kx ky : IntKind) (n m : Nat) (i j : Int) (hx : a.eval x = .int kx i) (hy : a.eval y = .int ky j) (hi : IsN i n) (hj : IsN j m) (hnm : n = m) (hb : b * n ≤ 281474976710656) (h63 : n ≤ maxLen)
    (h : ∀ g w', St W w' (own e s (some ⟨g, 0, none⟩) n n ((List.replicate (n * s) (0 : Int)).map (Value.int k)) :: rs) → K (a.put o.dst (.slice (some ⟨g, 0, none⟩) n n)) w') : o.wp P a w K Q := by
  obtain ⟨ht, ⟨info, z, h1, h2, h3, h4, h5⟩, hp⟩ := el
  subst hnm
  unfold IsN at hi hj
  subst hi; subst hj
  obtain ⟨w', hr, ho', hg⟩ := run_make_full (P := P) w 0 t e info z s ht h1 h2 h3 kx ky n (by rw [h4]; exact hb) h63 (Nat.zero_le _)
  rw [h5, made_zeros k s (n * s) hp] at ho'
  unfold Oper.wp execOp
  simp only [ho, hx, hy, Sem.run_bind, hr, Result.andThen_ok, Sem.run_pure]
  exact h _ _ (St.grown (f := [w.heap.size]) hS hg ⟨rfl, ho'⟩ (by simp) (by simp))
end
end Go.Proofs.YthmkhpijdpbfbaaDoor
