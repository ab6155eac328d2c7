/- Maps that a call makes, keyed by ints or by pairs of ints, told by a function from keys to values. -/
import Derived.Test.YtccgcefeenloiaaFree
namespace Go.Proofs.Ytccgcefeenloiaa
open Go.RowKit
/-- An entry of a map, the key encoded. -/
def entryOf {K : Type} (enc : K → Value) (x : K × Value × Nat) : MapEntry := { key := enc x.1, val := x.2.1, born := x.2.2 }
/-- The first entry with a key. -/
def findIn {K : Type} [DecidableEq K] (k : K) : List (K × Value × Nat) → Nat → Option (Nat × Value)
  | [], _ => none
  | x :: l, i => if k = x.1 then some (i, x.2.1) else findIn k l (i + 1)
/-- What the laws of a map ask of its keys' type. -/
structure KeyLaw {K : Type} [DecidableEq K] (P : Program) (kt : TypeId) (enc : K → Value) : Prop where
  check : ∀ (w : World) (b : Bool) (k : K), (Instr.checkKey b 10000 kt (enc k)).run P w = .ok () w
  find : ∀ (w : World) (k : K) (l : List (K × Value × Nat)), (Instr.findKey kt (enc k) (l.map (entryOf enc))).run P w = .ok (findIn k l 0) w
  same : ∀ k, Instr.sameBits 10000 (enc k) (enc k) = true
/-- Block b is a map: f tells its values. -/
def MapF {K : Type} [DecidableEq K] (enc : K → Value) (w : World) (b : Nat) (f : K → Option Value) : Prop :=
  ∃ (l : List (K × Value × Nat)) (clock : Nat), w.heap[b]? = some (.map (l.map (entryOf enc)).toArray clock) ∧ ∀ k, (findIn k l 0).map (·.2) = f k
section
variable {K : Type} [DecidableEq K] {P : Program} {enc : K → Value}
theorem findIn_shift (k : K) (l : List (K × Value × Nat)) : ∀ i, findIn k l i = (findIn k l 0).map fun x => (x.1 + i, x.2) := by
  induction l with
  | nil => intro i; rfl
  | cons x l ih =>
    intro i
    simp only [findIn]
    split
    · simp
    · rw [ih (i + 1), ih (0 + 1)]
      cases findIn k l 0 with
      | none => rfl
      | some y => simp; omega
theorem findIn_append (k : K) (l m : List (K × Value × Nat)) : ∀ i, findIn k (l ++ m) i = (findIn k l i).or (findIn k m (i + l.length)) := by
  induction l with
  | nil => intro i; simp [findIn]
  | cons x l ih =>
    intro i
    simp only [List.cons_append, findIn]
    split
    · simp
    · rw [ih, List.length_cons, show i + 1 + l.length = i + (l.length + 1) by omega]
theorem findIn_modify (k j : K) (v : Value) : ∀ (l : List (K × Value × Nat)) (n i : Nat) (u : Value), findIn k l n = some (n + i, u) →
    (findIn j (l.modify i fun e => (k, v, e.2.2)) n).map (·.2) = if j = k then some v else (findIn j l n).map (·.2) := by
  intro l
  induction l with
  | nil => intro n i u h; simp [findIn] at h
  | cons x l ih =>
    intro n i u h
    simp only [findIn] at h
    split at h
    · rename_i hk
      simp only [Option.some.injEq, Prod.mk.injEq] at h
      have hi : i = 0 := by omega
      subst hi
      simp only [List.modify_zero_cons, findIn]
      by_cases hj : j = k
      · simp [hj]
      · have : ¬ j = x.1 := fun e => hj (e.trans hk.symm)
        simp [hj, this]
    · rename_i hk
      cases i with
      | zero =>
        exfalso
        rw [findIn_shift] at h
        cases hf : findIn k l 0 with
        | none => simp [hf] at h
        | some y => simp [hf] at h; omega
      | succ i =>
        simp only [List.modify_succ_cons, findIn]
        have h' : findIn k l (n + 1) = some (n + 1 + i, u) := by rw [h]; congr 2; omega
        split
        · rename_i hj
          have : ¬ j = k := fun e => hk (e ▸ hj)
          simp [this]
        · exact ih (n + 1) i u h'
theorem MapF.new (w : World) : MapF enc (w.alloc (.map #[] 0)) w.heap.size (fun _ => none) :=
  ⟨[], 0, heap_alloc_new w _, fun _ => rfl⟩
theorem MapF.lt {w : World} {b : Nat} {f : K → Option Value} (h : MapF enc w b f) : b < w.heap.size := by
  obtain ⟨l, c, h, _⟩ := h
  exact (Array.getElem?_eq_some_iff.1 h).1
theorem MapF.of_heap {w w' : World} {b : Nat} {f : K → Option Value} (h : MapF enc w b f) (hh : w'.heap[b]? = w.heap[b]?) : MapF enc w' b f := by
  obtain ⟨l, c, h, hf⟩ := h
  exact ⟨l, c, by rw [hh]; exact h, hf⟩
theorem MapF.ext {w w' : World} {b : Nat} {f : K → Option Value} (h : MapF enc w b f) (hE : Ext w w') : MapF enc w' b f := h.of_heap (hE.at h.lt)
theorem shape_map {w : World} {b : Nat} {es : Array MapEntry} {c : Nat} (h : w.heap[b]? = some (.map es c)) : (getObj b : Sem Obj).run P w = .ok (.map es c) w := by
  simp [getObj, Sem.run, h]
/-- 'm[k]'. -/
theorem MapF.lookup {w : World} {b : Nat} {f : K → Option Value} {mt kt et : TypeId} (h : MapF enc w b f) (hm : P.underlying mt = some (.map kt et)) (law : KeyLaw P kt enc) (k : K) (ok : Bool)
    {z : Value} (hz : ∀ w, (zeroValue et).run P w = .ok z w) :
    (Instr.lookup mt (.map (some b)) (enc k) ok).run P w = .ok (if ok then .tuple #[(f k).getD z, .bool (f k).isSome] else (f k).getD z) w := by
  obtain ⟨l, c, hb, hf⟩ := h
  have hfk := hf k
  simp only [Instr.lookup, Sem.run_bind, run_underlying hm, Result.andThen_ok, shape_map hb, Sem.run_pure, law.check, law.find]
  cases hfi : findIn k l 0 with
  | none =>
    rw [hfi] at hfk
    simp only [Option.map_none] at hfk
    rw [← hfk]
    simp [hz]
  | some y =>
    rw [hfi] at hfk
    simp only [Option.map_some] at hfk
    rw [← hfk]
    simp
/-- 'm[k] = v'. -/
theorem MapF.update {w : World} {b : Nat} {f : K → Option Value} {mt kt et : TypeId} (h : MapF enc w b f) (hm : P.underlying mt = some (.map kt et)) (law : KeyLaw P kt enc) (k : K) (v : Value) :
    ∃ w', (Instr.mapUpdate mt (.map (some b)) (enc k) v).run P w = .ok () w' ∧ MapF enc w' b (fun j => if j = k then some v else f j) ∧
      (∀ W, W.heap.size ≤ b → Ext W w → Ext W w') ∧ ∀ i, i ≠ b → w'.heap[i]? = w.heap[i]? := by
  obtain ⟨l, c, hb, hf⟩ := h
  have hlt : b < w.heap.size := (Array.getElem?_eq_some_iff.1 hb).1
  have hset : ∀ o : Obj, (setObj b o).run P w = .ok () { w with heap := w.heap.setIfInBounds b o } := by
    intro o
    simp [setObj, Sem.run, hb]
  have hext : ∀ (o : Obj) W, W.heap.size ≤ b → Ext W w → Ext W { w with heap := w.heap.setIfInBounds b o } := fun o W hW hE =>
    Below.trans hE ⟨rfl, rfl, rfl, by simp, fun i hi => by simp only [Array.getElem?_setIfInBounds]; rw [if_neg (by omega)]⟩
  have hoth : ∀ (o : Obj) i, i ≠ b → ({ w with heap := w.heap.setIfInBounds b o } : World).heap[i]? = w.heap[i]? := fun o i hi => by
    simp only [Array.getElem?_setIfInBounds]; rw [if_neg (fun e => hi e.symm)]
  have hnew : ∀ (o : Obj), ({ w with heap := w.heap.setIfInBounds b o } : World).heap[b]? = some o := fun o => by
    simp [hlt]
  cases hfi : findIn k l 0 with
  | none =>
    refine ⟨{ w with heap := w.heap.setIfInBounds b (.map ((l ++ [(k, v, c)]).map (entryOf enc)).toArray (c + 1)) }, ?_, ⟨l ++ [(k, v, c)], c + 1, hnew _, fun j => ?_⟩, hext _, hoth _⟩
    · simp only [Instr.mapUpdate, Sem.run_bind, run_underlying hm, Result.andThen_ok, shape_map hb, law.check, law.find, hfi]
      rw [hset]
      congr 4
      simp [entryOf]
    · show _ = if j = k then some v else f j
      rw [findIn_append, ← hf j]
      by_cases hj : j = k
      · subst hj; simp [hfi, findIn]
      · cases findIn j l 0 <;> simp [findIn, hj]
  | some y =>
    obtain ⟨i, u⟩ := y
    have hmod := fun j => findIn_modify k j v l 0 i u (by rw [hfi]; simp)
    have hik : ∃ e, l[i]? = some e ∧ e.1 = k := by
      have : ∀ (l : List (K × Value × Nat)) n i u, findIn k l n = some (n + i, u) → ∃ e, l[i]? = some e ∧ e.1 = k := by
        intro l
        induction l with
        | nil => intro n i u h; simp [findIn] at h
        | cons x l ih =>
          intro n i u h
          simp only [findIn] at h
          split at h
          · rename_i hk
            simp only [Option.some.injEq, Prod.mk.injEq] at h
            have hi : i = 0 := by omega
            subst hi
            exact ⟨x, rfl, hk.symm⟩
          · cases i with
            | zero =>
              exfalso
              rw [findIn_shift] at h
              cases hf : findIn k l 0 with
              | none => simp [hf] at h
              | some y => simp [hf] at h; omega
            | succ i => exact ih (n + 1) i u (by rw [h]; congr 2; omega)
      exact this l 0 i u (by rw [hfi]; simp)
    obtain ⟨e, he, hek⟩ := hik
    refine ⟨{ w with heap := w.heap.setIfInBounds b (.map ((l.modify i fun e => (k, v, e.2.2)).map (entryOf enc)).toArray c) }, ?_, ⟨l.modify i fun e => (k, v, e.2.2), c, hnew _, fun j => ?_⟩, hext _, hoth _⟩
    · simp only [Instr.mapUpdate, Sem.run_bind, run_underlying hm, Result.andThen_ok, shape_map hb, law.check, law.find, hfi]
      have hold : (((l.map (entryOf enc)).toArray[i]?).map (·.key)).getD (enc k) = enc k := by simp [he, entryOf, hek]
      rw [hold]
      simp only [Instr.keyThatStays, law.same, if_true, Sem.run_pure, Result.andThen_ok]
      rw [hset]
      congr 4
      apply Array.ext_getElem?
      intro j
      simp only [Array.getElem?_modify, List.getElem?_toArray, List.getElem?_map, List.getElem?_modify]
      by_cases hij : i = j
      · subst hij; simp [he, entryOf]
      · simp [hij]
    · rw [hmod j, hf j]
end
/-- Ints as keys. -/
def ik (n : Int) : Value := .int .i64 n
theorem keyLaw_int {P : Program} {kt : TypeId} (h : P.underlying kt = some (.int .i64)) : KeyLaw P kt ik where
  check w b k := by
    unfold ik
    rw [show (10000 : Nat) = 9999 + 1 from rfl, Instr.checkKey]
    simp [run_underlying h]
  find w k l := by
    have key : ∀ (l : List (Int × Value × Nat)) i, Instr.findNow (.int .i64) (ik k) (l.map (entryOf ik)) i = some (findIn k l i) := by
      intro l
      induction l with
      | nil => intro i; rfl
      | cons x l ih =>
        intro i
        simp only [List.map_cons, Instr.findNow, findIn, entryOf, ik, Instr.sameNow, if_true]
        by_cases hx : k = x.1
        · simp [hx]
        · have : (k == x.1) = false := by simpa using hx
          simp only [this, hx, if_false]
          exact ih (i + 1)
    simp [Instr.findKey, run_underlying h, key]
  same k := by unfold ik; rw [Instr.sameBits.eq_2]; simp
section
variable {K : Type} [DecidableEq K] {P : Program} {enc : K → Value}
theorem wpList_lookup_f {ops : Array Oper} {rest : List Oper} {o : Oper} {a : Act} {w : World} {Q : Exit → Act → World → Prop} (hw : Region.wanted o (yielded ops a.tmps) = true) (mt : TypeId) (x i : Operand) (ok : Bool) (ho : o.op = .lookup mt x i ok)
    (b : Nat) (hx : a.eval x = .map (some b)) (k : K) (hk : a.eval i = enc k) {f : K → Option Value} (h : MapF enc w b f) {kt et : TypeId} (hm : P.underlying mt = some (.map kt et)) (law : KeyLaw P kt enc) (z : Value) (hz : ∀ w, (zeroValue et).run P w = .ok z w)
    (hh : wpList P ops Q rest (a.put o.dst (if ok then .tuple #[(f k).getD z, .bool (f k).isSome] else (f k).getD z)) w) : wpList P ops Q (o :: rest) a w :=
  wpList_wanted hw fun _ hK => by
    have h2 := hK _ _ hh
    unfold Oper.wp execOp
    simp only [ho, hx, hk, Sem.run_bind, h.lookup hm law k ok hz, Result.andThen_ok, Sem.run_pure]
    exact h2
theorem wpList_mapUpdate_f {ops : Array Oper} {rest : List Oper} {o : Oper} {a : Act} {w : World} {Q : Exit → Act → World → Prop} (hgd : o.guard = none) (mt : TypeId) (x i y : Operand) (ho : o.op = .mapUpdate mt x i y)
    (b : Nat) (hx : a.eval x = .map (some b)) (k : K) (hk : a.eval i = enc k) {f : K → Option Value} (h : MapF enc w b f) {kt et : TypeId} (hm : P.underlying mt = some (.map kt et)) (law : KeyLaw P kt enc)
    (hh : ∀ w', MapF enc w' b (fun j => if j = k then some (a.eval y) else f j) → (∀ W, W.heap.size ≤ b → Ext W w → Ext W w') → (∀ i, i ≠ b → w'.heap[i]? = w.heap[i]?) → wpList P ops Q rest (a.put o.dst undef) w') : wpList P ops Q (o :: rest) a w :=
  wpList_plain hgd fun _ hK => by
    obtain ⟨w', hrun, h1, h2, h3⟩ := h.update hm law k (a.eval y)
    have h4 := hK _ _ (hh w' h1 h2 h3)
    unfold Oper.wp execOp
    simp only [ho, hx, hk, Sem.run_bind, hrun, Result.andThen_ok, Sem.run_pure]
    exact h4
end
end Go.Proofs.Ytccgcefeenloiaa
