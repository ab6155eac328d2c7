/- Slices of arrays. -/
import Derived.Test.YthmkhpijdpbfbaaDoorMem2
namespace Go.Proofs.YthmkhpijdpbfbaaDoor
open Go.RowKit
set_option linter.unusedVariables false
section
variable {P : Program} {W w : World} {a : Act} {x : Operand} {t ty : TypeId}
/-- A slice of an array, by its pointer. -/
theorem V.sliceA {b off N l h s q m c : Nat} {e : TypeId} {lo hi : Option Operand} (ht : P.underlying t = some (.array N e)) (hs : (P.info? e).map (·.size) = some s) (hx : a.eval x = .pointer (some ⟨b, off, none⟩)) (hl : Lo a lo l) (hh : Up a N hi h) (h1 : l ≤ h) (h2 : h ≤ N) (h3 : l < N) (hq : off + l * s = q) (hm : h - l = m) (hc : N - l = c) :
    Val P (.slice t x lo hi none) ty a (.slice (some ⟨b, q, none⟩) m c) := fun d pos af g w => by
  subst hm; subst hc
  have e0 : P.elem t = e := by simp [Program.elem, ht]
  have e1 : P.arrayLen t = N := by simp [Program.arrayLen, ht]
  have ht' : P.underlying t = some (.array (P.arrayLen t) (P.elem t)) := by rw [e0, e1]; exact ht
  have fin : ∀ {lv hv : Option Value}, lo.map a.eval = lv → hi.map a.eval = hv → (Instr.sliceAt t (.pointer (some ⟨b, off, none⟩)) lv hv none).run P w = ((sizeOf (P.elem t)).run P w).andThen (fun s w => .ok (slicedAt ⟨b, off, none⟩ l h N s) w) →
      (execOp a.eval ⟨d, .slice t x lo hi none, ty, pos, af, g⟩).run P w = .ok (.value (.slice (some ⟨b, q, none⟩) (h - l) (N - l))) w := by
    intro lv hv e1 e2 hr
    rw [e0, run_sizeOf' w hs, Result.andThen_ok] at hr
    have e3 : slicedAt (⟨b, off, none⟩ : Addr) l h N s = .slice (some ⟨b, q, none⟩) (h - l) (N - l) := by
      unfold slicedAt
      rw [if_neg (by omega)]
      simp only [Addr.add_mid, hq]
    simp only [execOp, hx, e1, e2, Option.map_none, Sem.run_bind, hr, Result.andThen_ok, Sem.run_pure, e3]
  cases hl with
  | none => cases hh with
    | none => exact fin rfl rfl (by have := run_sliceAt_array_all (P := P) w t ⟨b, off, none⟩ ht'; rwa [e1] at this)
    | @some y k2 i2 _ hy hj =>
      unfold IsN at hj
      subst hj
      have := run_sliceAt_array_h (P := P) w t ⟨b, off, none⟩ ht' k2 (h : Int) (by omega) (by omega)
      rw [Int.toNat_natCast, e1] at this
      exact fin rfl (by rw [Option.map_some, hy]) this
  | @some y1 k1 i1 _ hy1 hj1 =>
    unfold IsN at hj1
    subst hj1
    cases hh with
    | none =>
      have := run_sliceAt_array_l (P := P) w t ⟨b, off, none⟩ ht' k1 (l : Int) (by omega) (by omega)
      rw [Int.toNat_natCast, e1] at this
      exact fin (by rw [Option.map_some, hy1]) rfl this
    | @some y k2 i2 _ hy hj =>
      unfold IsN at hj
      subst hj
      have := run_sliceAt_array_lh (P := P) w t ⟨b, off, none⟩ ht' k1 k2 (l : Int) (h : Int) (by omega) (by omega) (by omega)
      rw [Int.toNat_natCast, Int.toNat_natCast, e1] at this
      exact fin (by rw [Option.map_some, hy1]) (by rw [Option.map_some, hy]) this
/-- Values of this type are told apart by their n ints. -/
structure EqT (P : Program) (t : TypeId) (n : Nat) : Prop where
  guard : P.eqGuardType P.depth t = false
  eq : ∀ (l m : List Int) (w : World), l.length = n → m.length = n → (Op.equal t (.agg (iv l)) (.agg (iv m))).run P w = .ok (decide (l = m)) w
theorem EqT.array {e : TypeId} {n : Nat} (hg : P.eqGuardType P.depth t = false) (ht : P.underlying t = some (.array n e)) (he : P.underlying e = some (.int .i64)) (hs : (P.info? e).map (·.size) = some 1) : EqT P t n :=
  ⟨hg, fun l m w hl hm => by
    have := run_equalIn_iv w (Op.maxDepth - 2) t e n ht he (fun w => run_sizeOf' w hs) l m hl hm
    rw [show (l == m) = decide (l = m) by rw [Bool.eq_iff_iff]; simp] at this
    exact this⟩
theorem V.eqlA {y : Operand} {u : TypeId} {l m : List Int} {n : Nat} (ht : EqT P t n) (hx : a.eval x = .agg (iv l)) (hy : a.eval y = .agg (iv m)) (hl : Len l n) (hm : Len m n) : Val P (.binOp .eql t x y u) ty a (.bool (decide (l = m))) := fun d pos af g w => by
  have e := ht.eq l m w hl hm
  have e1 : (eqGuard .eql t x y (.agg (iv l)) (.agg (iv m))).run P w = .ok () w := by
    unfold eqGuard
    have hp : ∀ w : World, (program : Sem Program).run P w = .ok P w := fun w => rfl
    simp [Sem.run_bind, ht.guard, hp]
  have e2 : (binOp .eql t (.agg (iv l)) (.agg (iv m))).run P w = .ok (.bool (decide (l = m))) w := by
    have : binOp .eql t (.agg (iv l)) (.agg (iv m)) = (do pure (.bool (← Op.equal t (.agg (iv l)) (.agg (iv m))))) := rfl
    rw [this]
    simp only [Sem.run_bind, e, Result.andThen_ok, Sem.run_pure]
  simp only [execOp, hx, hy, Sem.run_bind, e1, Result.andThen_ok, e2, Sem.run_pure]
theorem V.neqA {y : Operand} {u : TypeId} {l m : List Int} {n : Nat} (ht : EqT P t n) (hx : a.eval x = .agg (iv l)) (hy : a.eval y = .agg (iv m)) (hl : Len l n) (hm : Len m n) : Val P (.binOp .neq t x y u) ty a (.bool (decide (l ≠ m))) := fun d pos af g w => by
  have e := ht.eq l m w hl hm
  have e1 : (eqGuard .neq t x y (.agg (iv l)) (.agg (iv m))).run P w = .ok () w := by
    unfold eqGuard
    have hp : ∀ w : World, (program : Sem Program).run P w = .ok P w := fun w => rfl
    simp [Sem.run_bind, ht.guard, hp]
  have e2 : (binOp .neq t (.agg (iv l)) (.agg (iv m))).run P w = .ok (.bool (decide (l ≠ m))) w := by
    have : binOp .neq t (.agg (iv l)) (.agg (iv m)) = (do pure (.bool (!(← Op.equal t (.agg (iv l)) (.agg (iv m)))))) := rfl
    rw [this]
    simp only [Sem.run_bind, e, Result.andThen_ok, Sem.run_pure, ne_eq, decide_not]
  simp only [execOp, hx, hy, Sem.run_bind, e1, Result.andThen_ok, e2, Sem.run_pure]
theorem V.shrB {yk k : IntKind} {y : Operand} {u : TypeId} {m n : Int} {j N : Nat} (hx : a.eval x = .int k m) (hy : a.eval y = .int yk n) (hj : IsN n j) (h : j ≤ N) (hk : k.bits = N) : Val P (.binOp .shr t x y u) ty a (.int k (m / 2 ^ j)) := fun d pos af g w => by
  unfold IsN at hj
  subst hk
  have e : m.fdiv (2 ^ j) = m / 2 ^ j := Int.fdiv_eq_ediv_of_nonneg _ (Int.pow_nonneg (by omega))
  have h0 : ¬ n < 0 := by omega
  have hm : Min.min n.toNat k.bits = j := by omega
  simp only [execOp, hx, hy, binOp_shr, Op.shift, eqGuard, if_neg h0, hm, e]; rfl
theorem V.negR {k : IntKind} {z : Int} (hx : a.eval x = .int k z) : Val P (.unOp .neg t x) ty a (.int k (k.wrap (-z))) := fun d pos af g w => by
  have e : Op.unary .neg (.int k z) = pure (.int k (k.wrap (0 - z))) := rfl
  simp only [execOp, hx, e, Int.zero_sub]; rfl
end
section
variable {W w : World} {rs rs' : List Res}
/-- An array of the call's own, read as a slice. -/
theorem St.isl {g n : Nat} {l : List Int} (hS : St W w rs) (p : Pull (Go.Proofs.YthmkhpijdpbfbaaDoor.arr g n l) rs rs') (hn : n ≤ 9223372036854775807) : ISl w (.slice (some ⟨g, 0, none⟩) n n) l :=
  ISl.of_row (hS.arr p).1 (hS.arr p).2 (by unfold maxLen; omega)
end
/-- What an append leaves, as one row. -/
theorem mapk1 (k : IntKind) (l : List Int) (a : Int) : l.map (Value.int k) ++ [Value.int k a] = (l ++ [a]).map (Value.int k) := by simp
theorem mapk2 (k : IntKind) (l : List Int) (a b : Int) : l.map (Value.int k) ++ [Value.int k a, Value.int k b] = (l ++ [a, b]).map (Value.int k) := by simp
theorem mapk3 (k : IntKind) (l : List Int) (a b c : Int) : l.map (Value.int k) ++ [Value.int k a, Value.int k b, Value.int k c] = (l ++ [a, b, c]).map (Value.int k) := by simp
theorem mapk4 (k : IntKind) (l : List Int) (a b c d : Int) : l.map (Value.int k) ++ [Value.int k a, Value.int k b, Value.int k c, Value.int k d] = (l ++ [a, b, c, d]).map (Value.int k) := by simp
theorem mapkl (k : IntKind) (l m : List Int) : l.map (Value.int k) ++ m.map (Value.int k) = (l ++ m).map (Value.int k) := by simp
theorem oneAll {l : List Value} (h : l.all (·.oneCell') = true) : ∀ u ∈ l, u.oneCell' = true := List.all_eq_true.1 h
theorem oneMap (k : IntKind) (l : List Int) : ∀ u ∈ l.map (Value.int k), u.oneCell' = true := fun u hu => by
  obtain ⟨x, _, rfl⟩ := List.mem_map.1 hu; rfl
theorem own_nilk {W w : World} {rs : List Res} {e : TypeId} {s : Nat} (k : IntKind) (h : St W w (own e s none 0 0 [] :: rs)) : St W w (own e s none 0 0 (([] : List Int).map (Value.int k)) :: rs) := h
theorem St.nilk {W w : World} {rs : List Res} (h : St W w rs) (e : TypeId) (s : Nat) (k : IntKind) : St W w (Go.Proofs.YthmkhpijdpbfbaaDoor.own e s none 0 0 (([] : List Int).map (Value.int k)) :: rs) := h.nil e s
def allFrom (l m : List Int) : Nat → Nat → Bool
  | _, 0 => true
  | k, n + 1 => (nth l k == nth m k) && allFrom l m (k + 1) n
theorem allFrom_iff (l m : List Int) : ∀ n k, allFrom l m k n = true ↔ ∀ i, i < n → nth l (k + i) = nth m (k + i)
  | 0, k => by simp [allFrom]
  | n + 1, k => by
    rw [allFrom, Bool.and_eq_true, allFrom_iff l m n (k + 1)]
    constructor
    · intro ⟨h1, h2⟩ i hi
      cases i with
      | zero => simpa using h1
      | succ i => have := h2 i (by omega); rwa [show k + (i + 1) = k + 1 + i by omega]
    · intro h
      refine ⟨by simpa using h 0 (by omega), fun i hi => ?_⟩
      have := h (i + 1) (by omega)
      rwa [show k + 1 + i = k + (i + 1) by omega]
theorem EqT.struct {P : Program} {t : TypeId} {fs : Array Field} {n : Nat} (hg : P.eqGuardType P.depth t = false) (ht : P.underlying t = some (.struct fs)) (hsi : P.stoodInHeld t = false) (hn : fs.toList.length = n)
    (hf : ∀ (i : Nat) (f : Field), fs.toList[i]? = some f → f.name ≠ "_" ∧ f.offset = i ∧ P.underlying f.type = some (.int .i64)) : EqT P t n :=
  ⟨hg, fun l m w hl hm => by
    have he : (Op.equal t (.agg (iv l)) (.agg (iv m))).run P w = .ok (allFrom l m 0 n) w := by
      unfold Op.equal
      rw [show Op.maxDepth = (Op.maxDepth - 2) + 1 + 1 from rfl, Op.equalIn]
      have hp : (program : Sem Program).run P w = .ok P w := rfl
      simp only [Sem.run_bind, run_underlying ht, Result.andThen_ok, hp, hsi, Bool.false_eq_true, if_false]
      rw [← Array.forIn_toList]
      have hlen : fs.toList.length = n := hn
      have hf' : ∀ (i : Nat) (f : Field), fs.toList[i]? = some f → f.name ≠ "_" ∧ f.offset = 0 + i ∧ P.underlying f.type = some (.int .i64) := fun i f h => by rw [Nat.zero_add]; exact hf i f h
      have hk : 0 + fs.toList.length = n := by omega
      rw [show allFrom l m 0 n = allFrom l m 0 fs.toList.length by rw [hlen]]
      generalize fs.toList = L at hf' hk
      generalize 0 = k at hf' hk ⊢
      clear hlen hf hn
      induction L generalizing k with
      | nil => simp [allFrom]
      | cons f L ih =>
        obtain ⟨h1, h2, h3⟩ := hf' 0 f rfl
        rw [Nat.add_zero] at h2
        simp only [List.length_cons] at hk
        have px : (part f.type (iv l) f.offset).run P w = .ok (.int .i64 (nth l k)) w := by
          rw [run_part, h2, iv_get l k (by omega)]
          simp [isAgg, run_underlying h3]
        have py : (part f.type (iv m) f.offset).run P w = .ok (.int .i64 (nth m k)) w := by
          rw [run_part, h2, iv_get m k (by omega)]
          simp [isAgg, run_underlying h3]
        have pe : (Op.equalIn (Op.maxDepth - 2 + 1) f.type (.int .i64 (nth l k)) (.int .i64 (nth m k))).run P w = .ok (nth l k == nth m k) w :=
          run_equalIn_int w _ f.type .i64 .i64 _ _ h3
        simp only [List.forIn_cons, Sem.run_bind, h1, ne_eq, not_false_eq_true, if_true, px, py, pe, Result.andThen_ok, allFrom, List.length_cons]
        cases hb : (nth l k == nth m k)
        · simp
        · simp only [Bool.not_true, Bool.false_eq_true, if_false, Sem.run_pure, Result.andThen_ok, Bool.true_and]
          exact ih (k + 1) (fun i f h => by have := hf' (i + 1) f (by simpa using h); rwa [show k + (i + 1) = k + 1 + i by omega] at this) (by omega)
    rw [he]
    congr 1
    rw [Bool.eq_iff_iff, allFrom_iff, decide_eq_true_eq]
    constructor
    · intro h; exact list_ext (by omega) fun i hi => by have := h i (by omega); rwa [Nat.zero_add] at this
    · intro h i _; rw [h]⟩
theorem St.allocOwn {W w : World} {rs : List Res} (h : St W w rs) (e : TypeId) (s n : Nat) (cs : List Value) (hl : cs.length = n * s) (hn : n ≤ maxLen) : St W (w.alloc (.cells cs.toArray e)) (Go.Proofs.YthmkhpijdpbfbaaDoor.own e s (some ⟨w.heap.size, 0, none⟩) n n cs :: rs) := by
  have ht : cs.toArray.toList.take (n * s) = cs := by rw [← hl]; simp
  obtain ⟨h1, f, h2, h3, h4⟩ := h
  refine ⟨h1.alloc _, w.heap.size :: f, List.nodup_cons.2 ⟨fun hm => by have := h4.lt _ hm; omega, h2⟩, fun b hb => ?_, [w.heap.size], f, rfl, ⟨rfl, hl, .inr ⟨w.heap.size, n, cs.toArray, rfl, Nat.zero_le _, heap_alloc_new w _, Nat.le_refl _, hn, by simpa using hl, ht⟩⟩, h4.loc fun b hb => ?_⟩
  · rcases List.mem_cons.1 hb with h | h
    · rw [h]; exact h1.sz
    · exact h3 b h
  · exact heap_alloc_old w _ (h4.lt b hb)
section
variable {P : Program} {W w : World} {rs rs' : List Res} {Q : Exit → Act → World → Prop} {K : Act → World → Prop} {o : Oper} {a : Act}
/-- A slice that is written out, and may grow. -/
theorem wp_buildSliceO (hS : St W w rs) (t : TypeId) (n : Nat) (ps : List (Nat × Operand)) (ho : o.op = .buildSlice t n ps.toArray) (e : TypeId) (s b : Nat) (el : ElemT P t e s b) (vs cs : List Value) (hvs : Parts a s 0 ps vs cs) (hn : vs.length = n) (hn0 : 0 < n) (hns : n * s ≤ 2 ^ 24)
    (h : ∀ g w', St W w' (own e s (some ⟨g, 0, none⟩) n n cs :: rs) → K (a.put o.dst (.slice (some ⟨g, 0, none⟩) n n)) w') : o.wp P a w K Q := by
  obtain ⟨ht, ⟨i, z, hi, hz, rfl, hb, hzs⟩, hp⟩ := el
  obtain ⟨h1, h2, hcs, hsz⟩ := hvs.vals
  have hns' : 0 < n * i.size := Nat.mul_pos hn0 hp
  have hnm : n ≤ maxLen := by
    have : n * 1 ≤ n * i.size := Nat.mul_le_mul_left _ hp
    unfold maxLen; omega
  have hcl : ∀ us : List Value, (∀ v ∈ us, v.cells.size = i.size) → (us.flatMap (·.cells.toList)).length = us.length * i.size := by
    intro us
    induction us with
    | nil => intro _; simp
    | cons u us ih =>
      intro hu
      have h1 := hu u (by simp)
      rw [List.flatMap_cons, List.length_append, ih fun v hv => hu v (by simp [hv]), List.length_cons, Nat.add_mul, Nat.one_mul, Array.length_toList, h1, Nat.add_comm]
  have hcl' : cs.length = n * i.size := by rw [← hcs, hcl vs hsz, hn]
  refine Go.wp_buildSlice t e n ps.toArray ho (cs.toArray) i z ht hi hz (by omega) (by omega) ?_ (h _ _ (hS.allocOwn e i.size n cs hcl' hnm))
  have h3 := fill_parts i.size vs 0 [] (((List.range (n * i.size)).map (fun j => z.cells[j % z.cells.size]!))) (by simp) (by simp [hn]) hsz
  simp only [List.nil_append] at h3
  rw [← hcs]
  have e1 : (Array.map (fun x : Nat × Operand => (x.1, a.eval x.2)) ps.toArray).toList = (vs.zipIdx 0).map fun x => (x.2, x.1) := by
    rw [← h1]; simp
  rw [e1]
  rw [← h3]
  congr 1
  apply Array.ext_getElem?
  intro j
  simp only [Array.getElem?_map, Array.getElem?_range, List.getElem?_toArray, List.getElem?_map]
  by_cases hj : j < n * i.size
  · simp [hj]
  · simp [hj]
end
end Go.Proofs.YthmkhpijdpbfbaaDoor
