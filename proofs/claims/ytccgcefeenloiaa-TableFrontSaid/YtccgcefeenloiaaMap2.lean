/- Maps that the call owns. -/
import Derived.Test.YtccgcefeenloiaaMap
import Derived.Test.YtccgcefeenloiaaParts
import Derived.WideKeyRuns
namespace Go.Proofs.Ytccgcefeenloiaa
open Go.RowKit
set_option linter.unusedVariables false
/-- Block g is a map: f tells its values. -/
def mp {K : Type} [DecidableEq K] (enc : K → Value) (g : Nat) (f : K → Option Value) : Res where
  holds w fp := fp = [g] ∧ MapF enc w g f
  lt := fun ⟨e, h⟩ b hb => by rw [e, List.mem_singleton] at hb; rw [hb]; exact h.lt
  loc := fun ⟨e, h⟩ hs => ⟨e, h.of_heap (hs _ (by rw [e]; simp))⟩
/-- Pairs of ints as keys. -/
def pk (x : Int × Int) : Value := .agg #[.int .i64 x.1, .int .i64 x.2]
theorem pk_iv (x : Int × Int) : pk x = .agg (iv [x.1, x.2]) := rfl
theorem sameBits_pk (k : Int × Int) : Instr.sameBits 10000 (pk k) (pk k) = true := by
  unfold pk
  rw [show (10000 : Nat) = 9999 + 1 from rfl, Instr.sameBits]
  simp [Instr.sameBits.eq_2]
theorem keyLaw_pair {P : Program} {kt e : TypeId} (ht : P.underlying kt = some (.array 2 e)) (he : P.underlying e = some (.int .i64)) (hs : (P.info? e).map (·.size) = some 1) : KeyLaw P kt pk where
  check w b k := by
    have px : ∀ i (v : Value), (#[Value.int .i64 k.1, .int .i64 k.2] : Array Value)[i]? = some v → (part e #[Value.int .i64 k.1, .int .i64 k.2] (i * 1)).run P w = .ok v w := fun i v hv => by
      have e3 : (isAgg e).run P w = .ok false w := by simp [isAgg, run_underlying he]
      rw [run_part, e3, Nat.mul_one, Result.andThen_ok]
      simp only [Bool.false_eq_true, if_false, hv]
    have p0 := px 0 (.int .i64 k.1) rfl
    have p1 := px 1 (.int .i64 k.2) rfl
    have ck : ∀ z : Int, (Instr.checkKey b 9999 e (.int .i64 z)).run P w = .ok () w := fun z => by
      rw [show (9999 : Nat) = 9998 + 1 from rfl, Instr.checkKey]
      simp [run_underlying he]
    have hsz := run_sizeOf' (P := P) w hs
    unfold pk
    rw [show (10000 : Nat) = 9999 + 1 from rfl, Instr.checkKey]
    simp only [Sem.run_bind, run_underlying ht, Result.andThen_ok, Std.Legacy.Range.forIn_eq_forIn_range', Std.Legacy.Range.size, Nat.sub_zero, Nat.add_sub_cancel, Nat.div_one]
    rw [show List.range' 0 2 1 = [0, 1] from rfl]
    simp [hsz, p0, p1, ck]
  find w k l := by
    have key : ∀ (l : List ((Int × Int) × Value × Nat)) i, (Instr.findAsking kt (pk k) (l.map (entryOf pk)) i).run P w = .ok (findIn k l i) w := by
      intro l
      induction l with
      | nil => intro i; rfl
      | cons x l ih =>
        intro i
        have e1 := run_equalIn_iv (P := P) w (Op.maxDepth - 2) kt e 2 ht he (fun w => run_sizeOf' w hs) [k.1, k.2] [x.1.1, x.1.2] rfl rfl
        have e2 : (Op.equal kt (pk k) (pk x.1)).run P w = .ok ([k.1, k.2] == [x.1.1, x.1.2]) w := e1
        simp only [List.map_cons, Instr.findAsking, findIn, entryOf, Sem.run_bind, e2, Result.andThen_ok]
        by_cases hx : k = x.1
        · have : ([k.1, k.2] == [x.1.1, x.1.2]) = true := by rw [hx]; simp
          rw [this]; simp [hx]
        · have : ([k.1, k.2] == [x.1.1, x.1.2]) = false := by
            rw [beq_eq_false_iff_ne]; intro h; injection h with h1 h2; injection h2 with h2 _
            exact hx (Prod.ext h1 h2)
          rw [this]; simp only [hx, Bool.false_eq_true, if_false]
          exact ih (i + 1)
    exact (run_findKey_eq (P := P) (w := w) (k := kt) (by rw [ht]) (pk k) _).trans (key l 0)
  same := sameBits_pk
section
variable {K : Type} [DecidableEq K] {P : Program} {enc : K → Value} {W w : World} {rs rs' : List Res} {Q : Exit → Act → World → Prop} {K' : Act → World → Prop} {o : Oper} {a : Act}
theorem St.mp {g : Nat} {f : K → Option Value} (h : St W w rs) (p : Pull (Go.Proofs.Ytccgcefeenloiaa.mp enc g f) rs rs') : MapF enc w g f := by
  obtain ⟨_, fp, _, _, f1, f2, e, ⟨e1, h4⟩, _⟩ := h.pull p
  exact h4
/-- A map that is made. -/
theorem wp_makeMap (enc : K → Value) (hS : St W w rs) (t : TypeId) (ho : o.op = .makeMap t none)
    (h : ∀ g w', St W w' (Go.Proofs.Ytccgcefeenloiaa.mp enc g (fun _ => none) :: rs) → K' (a.put o.dst (.map (some g))) w') : o.wp P a w K' Q := by
  have hE : Ext w (w.alloc (.map #[] 0)) := (Ext.refl w).alloc _
  have hst : St w (w.alloc (.map #[] 0)) [Go.Proofs.Ytccgcefeenloiaa.mp enc w.heap.size (fun _ => none)] :=
    ⟨hE, [w.heap.size], by simp, by simp, [w.heap.size], [], rfl, ⟨rfl, MapF.new w⟩, rfl⟩
  have hh := h _ _ (hS.call1 hst)
  unfold Oper.wp execOp
  simp only [ho]
  exact hh
theorem wp_lookupS (hS : St W w rs) (mt : TypeId) (x i : Operand) (ho : o.op = .lookup mt x i false) (b : Nat) (hx : a.eval x = .map (some b)) (k : K) (hk : a.eval i = enc k) {kt et : TypeId} (hm : P.underlying mt = some (.map kt et)) (law : KeyLaw P kt enc) (z : Value) (hz : ∀ w, (zeroValue et).run P w = .ok z w)
    (f : K → Option Value) (hp : Pull (Go.Proofs.Ytccgcefeenloiaa.mp enc b f) rs rs') (v : Value) (hf : f k = some v) (h : K' (a.put o.dst v) w) : o.wp P a w K' Q := by
  have hl := (hS.mp hp).lookup hm law k false hz
  unfold Oper.wp execOp
  simp only [ho, hx, hk, Sem.run_bind, hl, hf, Result.andThen_ok, Sem.run_pure]
  exact h
theorem wp_lookupN (hS : St W w rs) (mt : TypeId) (x i : Operand) (ho : o.op = .lookup mt x i false) (b : Nat) (hx : a.eval x = .map (some b)) (k : K) (hk : a.eval i = enc k) {kt et : TypeId} (hm : P.underlying mt = some (.map kt et)) (law : KeyLaw P kt enc) (z : Value) (hz : ∀ w, (zeroValue et).run P w = .ok z w)
    (f : K → Option Value) (hp : Pull (Go.Proofs.Ytccgcefeenloiaa.mp enc b f) rs rs') (hf : f k = none) (h : K' (a.put o.dst z) w) : o.wp P a w K' Q := by
  have hl := (hS.mp hp).lookup hm law k false hz
  unfold Oper.wp execOp
  simp only [ho, hx, hk, Sem.run_bind, hl, hf, Result.andThen_ok, Sem.run_pure]
  exact h
theorem wp_lookupS2 (hS : St W w rs) (mt : TypeId) (x i : Operand) (ho : o.op = .lookup mt x i true) (b : Nat) (hx : a.eval x = .map (some b)) (k : K) (hk : a.eval i = enc k) {kt et : TypeId} (hm : P.underlying mt = some (.map kt et)) (law : KeyLaw P kt enc) (z : Value) (hz : ∀ w, (zeroValue et).run P w = .ok z w)
    (f : K → Option Value) (hp : Pull (Go.Proofs.Ytccgcefeenloiaa.mp enc b f) rs rs') (v : Value) (hf : f k = some v) (h : K' (a.put o.dst (.tuple #[v, .bool true])) w) : o.wp P a w K' Q := by
  have hl := (hS.mp hp).lookup hm law k true hz
  unfold Oper.wp execOp
  simp only [ho, hx, hk, Sem.run_bind, hl, hf, Result.andThen_ok, Sem.run_pure]
  exact h
theorem wp_lookupN2 (hS : St W w rs) (mt : TypeId) (x i : Operand) (ho : o.op = .lookup mt x i true) (b : Nat) (hx : a.eval x = .map (some b)) (k : K) (hk : a.eval i = enc k) {kt et : TypeId} (hm : P.underlying mt = some (.map kt et)) (law : KeyLaw P kt enc) (z : Value) (hz : ∀ w, (zeroValue et).run P w = .ok z w)
    (f : K → Option Value) (hp : Pull (Go.Proofs.Ytccgcefeenloiaa.mp enc b f) rs rs') (hf : f k = none) (h : K' (a.put o.dst (.tuple #[z, .bool false])) w) : o.wp P a w K' Q := by
  have hl := (hS.mp hp).lookup hm law k true hz
  unfold Oper.wp execOp
  simp only [ho, hx, hk, Sem.run_bind, hl, hf, Result.andThen_ok, Sem.run_pure]
  exact h
/-- 'm[k] = v'. -/
theorem wp_mapUpdate (hS : St W w rs) (mt : TypeId) (x i y : Operand) (ho : o.op = .mapUpdate mt x i y) (b : Nat) (hx : a.eval x = .map (some b)) (k : K) (hk : a.eval i = enc k) {kt et : TypeId} (hm : P.underlying mt = some (.map kt et)) (law : KeyLaw P kt enc)
    (f : K → Option Value) (hp : Pull (Go.Proofs.Ytccgcefeenloiaa.mp enc b f) rs rs') (v : Value) (hv : IsV (a.eval y) v) (hd : o.dst = none) (h : ∀ w', St W w' (Go.Proofs.Ytccgcefeenloiaa.mp enc b (fun j => if j = k then some v else f j) :: rs') → K' a w') : o.wp P a w K' Q := by
  obtain ⟨w', hrun, h1, h2, h3⟩ := (hS.mp hp).update hm law k (a.eval y)
  rw [hv.eq] at h1
  have hE0 : Ext ({ w with heap := #[] } : World) w := ⟨rfl, rfl, rfl, by simp, fun i hi => by simp at hi⟩
  have hE1 := h2 _ (by simp) hE0
  have hlt' := h1.lt
  have hsz : w.heap.size ≤ w'.heap.size := by
    by_cases hc : w.heap.size ≤ b + 1
    · omega
    · have e1 := h3 (w.heap.size - 1) (by omega)
      have e2 : w.heap[w.heap.size - 1]? = some (w.heap[w.heap.size - 1]'(by omega)) := Array.getElem?_eq_getElem (by omega)
      rw [e2] at e1
      have := (Array.getElem?_eq_some_iff.1 e1).1
      omega
  have hO : Only [b] w w' := ⟨hE1.os, hE1.tape, hE1.output, hsz, fun i _ hi => h3 i (by simpa using hi)⟩
  have hh := h w' (by
    refine St.change (rs1 := [Go.Proofs.Ytccgcefeenloiaa.mp enc b (fun j => if j = k then some v else f j)]) (hS.pull hp) fun f1 hf1 _ _ => ?_
    obtain ⟨rfl, _⟩ := hf1
    exact ⟨[b], ⟨[b], [], rfl, ⟨rfl, h1⟩, rfl⟩, by simp, fun c hc => .inl hc, hO⟩)
  unfold Oper.wp execOp
  simp only [ho, hx, hk, Sem.run_bind, hrun, Result.andThen_ok, Sem.run_pure]
  show K' (a.put o.dst undef) _
  rw [hd]
  exact hh
end
end Go.Proofs.Ytccgcefeenloiaa
