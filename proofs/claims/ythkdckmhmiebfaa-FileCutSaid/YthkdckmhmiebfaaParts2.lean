/- Stores of whole fields into a struct in parts. -/
import Derived.Test.YthkdckmhmiebfaaParts
namespace Go.Proofs.Ythkdckmhmiebfaa
open Go.RowKit
set_option linter.unusedVariables false
theorem iv_pcells (l : List Int) : (Value.agg (iv l)) = Value.agg (pcells [.ints l]).toArray := by simp [pcells, Part.cells, iv]
theorem pcells_app (a b : List Part) : pcells (a ++ b) = pcells a ++ pcells b := by
  induction a with
  | nil => rfl
  | cons x a ih => rw [List.cons_append, pcells, pcells, ih, List.append_assoc]
/-- Some parts in place of as many cells, from a place on. -/
inductive Rep (ss : List Part) : List Part → Nat → List Part → Prop
  | head {B D : List Part} (hb : (pcells B).length = (pcells ss).length) : Rep ss (B ++ D) 0 (ss ++ D)
  | skipI {l : List Int} {ps ps' : List Part} {off n o2 : Nat} (hn : Len l n) (h : n ≤ off) (ho : off - n = o2) (t : Rep ss ps o2 ps') : Rep ss (.ints l :: ps) off (.ints l :: ps')
  | skipV {v : Value} {ps ps' : List Part} {off : Nat} (t : Rep ss ps off ps') : Rep ss (.val v :: ps) (off + 1) (.val v :: ps')
theorem Rep.eq {ss ps ps' : List Part} {off : Nat} (h : Rep ss ps off ps') : ∃ A B D : List Value, pcells ps = A ++ (B ++ D) ∧ pcells ps' = A ++ (pcells ss ++ D) ∧ A.length = off ∧ B.length = (pcells ss).length := by
  induction h with
  | @head B D hb => exact ⟨[], pcells B, pcells D, by rw [pcells_app]; rfl, by rw [pcells_app]; rfl, rfl, hb⟩
  | @skipI l ps ps' off n o2 hn h ho t ih =>
    obtain ⟨A, B, D, e1, e2, e3, e4⟩ := ih
    have hl := hn.out
    exact ⟨l.map (Value.int .i64) ++ A, B, D, by rw [pcells, e1, List.append_assoc]; rfl, by rw [pcells, e2, List.append_assoc]; rfl, by simp; omega, e4⟩
  | @skipV v ps ps' off t ih =>
    obtain ⟨A, B, D, e1, e2, e3, e4⟩ := ih
    exact ⟨v :: A, B, D, by rw [pcells, e1]; rfl, by rw [pcells, e2]; rfl, by simp [e3], e4⟩
theorem set_cells (g : Nat) : ∀ (vs B A D : List Value) (w : World), Blk w g (A ++ (B ++ D)).toArray → B.length = vs.length → Blk (w.setCells g A.length vs) g (A ++ (vs ++ D)).toArray ∧ Only [g] w (w.setCells g A.length vs)
  | [], [], A, D, w, h, _ => ⟨h, ⟨rfl, rfl, rfl, Nat.le_refl _, fun _ _ _ => rfl⟩⟩
  | [], _ :: _, A, D, w, h, hl => by simp at hl
  | _ :: _, [], A, D, w, h, hl => by simp at hl
  | v :: vs, b :: B, A, D, w, h, hl => by
    have h1 := h.set A.length v
    have e1 : ((A ++ (b :: B ++ D)).toArray).setIfInBounds A.length v = ((A ++ [v]) ++ (B ++ D)).toArray := by
      simp
    rw [e1] at h1
    obtain ⟨h2, h3⟩ := set_cells g vs B (A ++ [v]) D _ h1 (by simpa using hl)
    have e2 : w.setCells g A.length (v :: vs) = (w.setCell ⟨g, A.length, none⟩ v).setCells g (A ++ [v]).length vs := by
      rw [World.setCells, List.length_append]; rfl
    rw [e2]
    refine ⟨by simpa using h2, ?_⟩
    have h4 := Only.setCell w ⟨g, A.length, none⟩ v
    exact ⟨h3.os.trans h4.os, h3.tape.trans h4.tape, h3.output.trans h4.output, Nat.le_trans h4.size h3.size, fun k hk hm => (h3.block k (Nat.lt_of_lt_of_le hk h4.size) hm).trans (h4.block k hk hm)⟩
section
variable {P : Program} {W w : World} {rs rs' : List Res} {Q : Exit → Act → World → Prop} {K : Act → World → Prop} {o : Oper} {a : Act}
theorem wp_storeMP (hS : St W w rs) (ty : TypeId) (x y : Operand) (ho : o.op = .store ty x y) (g off : Nat) (hx : a.eval x = .pointer (some ⟨g, off, none⟩)) (m : Nat) (h1 : RowN P ty m) (ps ps' ss : List Part) (hp : Pull (prt g ps) rs rs')
    (hy : a.eval y = .agg (pcells ss).toArray) (hr : Rep ss ps off ps') (hm : (pcells ss).length = m) (hv : ss.all partOk = true) (hd : o.dst = none) (h : ∀ w', St W w' (prt g ps' :: rs') → K a w') : o.wp P a w K Q := by
  obtain ⟨A, B, D, e1, e2, e3, e4⟩ := hr.eq
  subst e3
  have hb := (hS.blk hp).1
  rw [e1] at hb
  obtain ⟨h2, h3⟩ := set_cells g (pcells ss) B A D w hb e4
  refine wp_store_mid ty x y ho g A.length (pcells ss).toArray hx hy ?_ (by rw [h1.2]; simp [hm]) (by simpa using parts_one hv) ?_
  · intro j hj
    rw [List.size_toArray] at hj
    refine ⟨?_, hb.free _⟩
    rw [hb.cell]
    have : A.length + j < (A ++ (B ++ D)).toArray.size := by simp; omega
    rw [Array.getElem?_eq_getElem this]; rfl
  · rw [show a.put o.dst undef = a by rw [hd]; rfl]
    refine h _ ?_
    refine St.change (rs1 := [prt g ps']) (hS.pull hp) fun f1 k1 _ _ => ?_
    obtain ⟨rfl, _⟩ := k1
    refine ⟨[g], ⟨[g], [], rfl, ⟨rfl, ?_⟩, rfl⟩, by simp, fun b hb => .inl hb, h3⟩
    rw [e2]; exact h2
end
end Go.Proofs.Ythkdckmhmiebfaa
