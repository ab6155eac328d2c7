/- Rows of records: elements of s cells, each the encoding of something. -/
import Derived.Test.YtembekkanggciaaRet
import Derived.Test.YtembekkanggciaaSortMath
import Derived.Deep.MidRow
namespace Go.Proofs.Ytembekkanggciaa
set_option maxRecDepth 100000
open Go.RowKit
set_option linter.unusedVariables false
theorem flat_len {α : Type} (enc : α → List Value) (m : Nat) (he : ∀ x, (enc x).length = m) (l : List α) : (l.flatMap enc).length = l.length * m := by
  induction l with
  | nil => simp
  | cons x l ih => rw [List.flatMap_cons, List.length_append, ih, he, List.length_cons, Nat.add_mul, Nat.one_mul, Nat.add_comm]
theorem setCells_row (w : World) (g : Nat) (t : TypeId) (A B D : List Value) : ∀ (vs B A : List Value) (w : World) (cur : Array Value), w.heap[g]? = some (.cells cur t) → cur.toList = A ++ (B ++ D) → B.length = vs.length → ∃ cur' : Array Value, (w.setCells g A.length vs).heap[g]? = some (.cells cur' t) ∧ cur'.toList = A ++ (vs ++ D) ∧ Only [g] w (w.setCells g A.length vs)
  | [], [], A, w, cur, h, e, _ => ⟨cur, h, e, ⟨rfl, rfl, rfl, Nat.le_refl _, fun _ _ _ => rfl⟩⟩
  | [], _ :: _, A, w, cur, h, e, hl => by simp at hl
  | _ :: _, [], A, w, cur, h, e, hl => by simp at hl
  | v :: vs, b :: B, A, w, cur, h, e, hl => by
    have h1 := heap_setCell_same w g A.length cur t v h
    have e1 : (cur.setIfInBounds A.length v).toList = (A ++ [v]) ++ (B ++ D) := by
      rw [Array.toList_setIfInBounds, e]; simp
    obtain ⟨cur', h2, h3, h4⟩ := setCells_row w g t A B D vs B (A ++ [v]) _ _ h1 e1 (by simpa using hl)
    have e2 : w.setCells g A.length (v :: vs) = (w.setCell ⟨g, A.length, none⟩ v).setCells g (A ++ [v]).length vs := by
      rw [World.setCells, List.length_append]; rfl
    rw [e2]
    have h5 := Only.setCell w ⟨g, A.length, none⟩ v
    exact ⟨cur', h2, by rw [h3]; simp, ⟨h4.os.trans h5.os, h4.tape.trans h5.tape, h4.output.trans h5.output, Nat.le_trans h5.size h4.size, fun k hk hm => (h4.block k (Nat.lt_of_lt_of_le hk h5.size) hm).trans (h5.block k hk hm)⟩⟩
section
variable {α : Type} [Inhabited α]
theorem flat_at (enc : α → List Value) (m : Nat) (he : ∀ x, (enc x).length = m) : ∀ (l : List α) (j : Nat), j < l.length → ((l.flatMap enc).drop (j * m)).take m = enc (elt l j)
  | [], j, h => by simp at h
  | x :: l, 0, h => by rw [Nat.zero_mul, List.drop_zero, List.flatMap_cons, List.take_left' (he x)]; simp [elt]
  | x :: l, j + 1, h => by
    rw [List.flatMap_cons, Nat.add_mul, Nat.one_mul, Nat.add_comm, ← List.drop_drop, List.drop_left' (he x), flat_at enc m he l j (by simpa using h)]
    simp [elt]
theorem flat_set (enc : α → List Value) (m : Nat) (he : ∀ x, (enc x).length = m) (z : α) : ∀ (l : List α) (j : Nat), j < l.length → ∃ A B, l.flatMap enc = A ++ (enc (elt l j) ++ B) ∧ (l.set j z).flatMap enc = A ++ (enc z ++ B) ∧ A.length = j * m
  | [], j, h => by simp at h
  | x :: l, 0, h => ⟨[], l.flatMap enc, by simp [elt], by simp, by simp⟩
  | x :: l, j + 1, h => by
    obtain ⟨A, B, e1, e2, e3⟩ := flat_set enc m he z l j (by simpa using h)
    refine ⟨enc x ++ A, B, ?_, ?_, ?_⟩
    · rw [List.flatMap_cons, e1, List.append_assoc]; simp [elt]
    · rw [List.set_cons_succ, List.flatMap_cons, e2, List.append_assoc]
    · rw [List.length_append, he, e3, Nat.add_mul, Nat.one_mul, Nat.add_comm]
end
section
variable {α : Type} {P : Program} {W w : World} {rs rs' : List Res} {Q : Exit → Act → World → Prop} {K : Act → World → Prop} {o : Oper} {a : Act}
theorem own_recs {e : TypeId} {n c m : Nat} {ad : Option Addr} {enc : α → List Value} {l : List α} (hS : St W w rs) (hp : Pull (own e m ad n c (l.flatMap enc)) rs rs') (he : ∀ x, (enc x).length = m) (hm : 0 < m) : l.length = n := by
  have := (hS.own hp).1
  rw [flat_len enc m he] at this
  exact Nat.eq_of_mul_eq_mul_right hm this
theorem wp_loadE (hS : St W w rs) (ty : TypeId) (x : Operand) (ho : o.op = .load ty x) (g q : Nat) (hx : a.eval x = .pointer (some ⟨g, q, none⟩)) (m : Nat) (h1 : RowN P ty m) (e : TypeId) (n c : Nat) (l : List α) (enc : α → List Value) (hp : Pull (own e m (some ⟨g, 0, none⟩) n c (l.flatMap enc)) rs rs')
    (inst : Inhabited α) (he : ∀ x, (enc x).length = m) (j : Nat) (hq : q = j * m) (hj : j < n) (h : K (a.put o.dst (.agg (enc (elt l j)).toArray)) w) : o.wp P a w K Q := by
  subst hq
  have hl := (hS.own hp).1
  rw [flat_len enc m he] at hl
  refine wp_loadR ty x ho g _ hx m h1 (enc (elt l j)) (he _) ?_ h
  have := own_range (off := j * m) (m := m) hS hp
  rcases Nat.eq_zero_or_pos m with h0 | h0
  · have e0 : enc (elt l j) = [] := List.eq_nil_of_length_eq_zero (by rw [he, h0])
    rw [e0]; intro i v hv; simp at hv
  · have hln : l.length = n := Nat.eq_of_mul_eq_mul_right h0 hl
    rwa [flat_at enc m he l j (by omega)] at this
theorem wp_load1E (hS : St W w rs) (ty : TypeId) (x : Operand) (ho : o.op = .load ty x) (g q : Nat) (hx : a.eval x = .pointer (some ⟨g, q, none⟩)) (h1 : One P ty) (e : TypeId) (m n c : Nat) (l : List α) (enc : α → List Value) (hp : Pull (own e m (some ⟨g, 0, none⟩) n c (l.flatMap enc)) rs rs')
    (inst : Inhabited α) (he : ∀ x, (enc x).length = m) (j f : Nat) (hq : q = j * m + f) (hj : j < n) (v : Value) (hv : (enc (elt l j))[f]? = some v) (h : K (a.put o.dst v) w) : o.wp P a w K Q := by
  subst hq
  have hf : f < m := by rw [← he (elt l j)]; exact (List.getElem?_eq_some_iff.1 hv).1
  have hl := own_recs hS hp he (by omega)
  refine wp_load1O hS ty x ho g _ hx h1 e m n c _ hp v ?_ h
  have := flat_at enc m he l j (by omega)
  rw [← this, List.getElem?_take, if_pos hf, List.getElem?_drop] at hv
  exact hv
theorem wp_load1E0 (hS : St W w rs) (ty : TypeId) (x : Operand) (ho : o.op = .load ty x) (g q : Nat) (hx : a.eval x = .pointer (some ⟨g, q, none⟩)) (h1 : One P ty) (e : TypeId) (m n c : Nat) (l : List α) (enc : α → List Value) (hp : Pull (own e m (some ⟨g, 0, none⟩) n c (l.flatMap enc)) rs rs')
    (inst : Inhabited α) (he : ∀ x, (enc x).length = m) (j : Nat) (hq : q = j * m) (hj : j < n) (v : Value) (hv : (enc (elt l j))[0]? = some v) (h : K (a.put o.dst v) w) : o.wp P a w K Q :=
  wp_load1E hS ty x ho g q hx h1 e m n c l enc hp inst he j 0 hq hj v hv h
theorem wp_storeE (hS : St W w rs) (ty : TypeId) (x y : Operand) (ho : o.op = .store ty x y) (g q : Nat) (hx : a.eval x = .pointer (some ⟨g, q, none⟩)) (m : Nat) (h1 : RowN P ty m) (e : TypeId) (n c : Nat) (l : List α) (enc : α → List Value) (hp : Pull (own e m (some ⟨g, 0, none⟩) n c (l.flatMap enc)) rs rs')
    (inst : Inhabited α) (he : ∀ x, (enc x).length = m) (hone : ∀ x, (enc x).all (·.oneCell') = true) (j : Nat) (hq : q = j * m) (hj : j < n) (z : α) (hy : a.eval y = .agg (enc z).toArray) (hd : o.dst = none) (h : ∀ w', St W w' (own e m (some ⟨g, 0, none⟩) n c ((l.set j z).flatMap enc) :: rs') → K a w') : o.wp P a w K Q := by
  subst hq
  have hown := hS.own hp
  have hlen := hown.1
  rw [flat_len enc m he] at hlen
  rcases hown.2 with ⟨h2, _⟩ | ⟨g', cap, cur, h2, hb, hg, hn, hc, hsz, htake⟩
  · cases h2
  · cases h2
    have hln : m = 0 ∨ l.length = n := by
      rcases Nat.eq_zero_or_pos m with h0 | h0
      · exact .inl h0
      · exact .inr (Nat.eq_of_mul_eq_mul_right h0 hlen)
    have hjm : j * m + m ≤ n * m := by have := Nat.mul_le_mul_right m hj; rwa [Nat.succ_mul] at this
    have hcm : n * m ≤ c * m := Nat.mul_le_mul_right m hn
    refine wp_store_mid ty x y ho g (j * m) (enc z).toArray hx hy ?_ (by rw [h1.2]; simp [he]) (by simpa using hone z) ?_
    · intro i hi
      rw [List.size_toArray, he] at hi
      refine ⟨?_, frozen_of_row w g _ cur e hg⟩
      have := own_cell hS hp (k := j * m + i) (v := (l.flatMap enc)[j * m + i]'(by rw [flat_len enc m he]; omega)) (by rw [List.getElem?_eq_getElem])
      rw [this]; rfl
    · rw [show a.put o.dst undef = a by rw [hd]; rfl]
      refine h _ ?_
      refine St.change (rs1 := [own e m (some ⟨g, 0, none⟩) n c ((l.set j z).flatMap enc)]) (hS.pull hp) fun f1 k1 _ _ => ?_
      obtain ⟨rfl, _⟩ := k1
      rcases hln with h0 | hln
      · have e0 : ∀ y, enc y = [] := fun y => List.eq_nil_of_length_eq_zero (by rw [he, h0])
        have e1 : ∀ l : List α, l.flatMap enc = [] := fun l => List.eq_nil_of_length_eq_zero (by rw [flat_len enc m he, h0, Nat.mul_zero])
        rw [e0, e1]
        refine ⟨[g], ⟨[g], [], rfl, ⟨rfl, by simp [h0], .inr ⟨g, c, cur, rfl, hb, hg, hn, hc, hsz, by rw [h0]; simp⟩⟩, rfl⟩, by simp, fun b hb => .inl hb, ⟨rfl, rfl, rfl, Nat.le_refl _, fun _ _ _ => rfl⟩⟩
      · obtain ⟨A, B, e1, e2, e3⟩ := flat_set enc m he z l j (by omega)
        have ecur : cur.toList = A ++ (enc (elt l j) ++ (B ++ cur.toList.drop (n * m))) := by
          conv => lhs; rw [← List.take_append_drop (n * m) cur.toList, htake, e1]
          simp
        obtain ⟨cur', k2, k3, k4⟩ := setCells_row w g e [] [] (B ++ cur.toList.drop (n * m)) (enc z) (enc (elt l j)) A w cur hg ecur (by rw [he, he])
        rw [← e3]
        have hAB : (A ++ (enc z ++ B)).length = n * m := by rw [← e2, flat_len enc m he, List.length_set, hln]
        refine ⟨[g], ⟨[g], [], rfl, ⟨rfl, by rw [flat_len enc m he, List.length_set, hln], .inr ⟨g, c, cur', rfl, hb, k2, hn, hc, ?_, ?_⟩⟩, rfl⟩, by simp, fun b hb => .inl hb, k4⟩
        · have a1 := congrArg List.length k3
          have a2 := congrArg List.length ecur
          simp only [List.length_append, Array.length_toList, he] at a1 a2
          omega
        · have a3 : cur'.toList = (A ++ (enc z ++ B)) ++ cur.toList.drop (n * m) := by rw [k3]; simp
          rw [a3, List.take_left' hAB, e2]
end
/-- A record of an integer and a slice. -/
structure PkV where
  w : Int
  ad : Option Addr
  n : Nat
  c : Nat
instance : Inhabited PkV := ⟨⟨0, none, 0, 0⟩⟩
def pkE (p : PkV) : List Value := [.int .i64 p.w, .slice p.ad p.n p.c]
theorem pkE_len : ∀ p, (pkE p).length = 2 := fun _ => rfl
theorem pkE_one : ∀ p, (pkE p).all (·.oneCell') = true := fun _ => rfl
end Go.Proofs.Ytembekkanggciaa
