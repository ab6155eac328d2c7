/- Fields that came in. -/
import Derived.Test.YtodihnhpibjhmaaWrite
import Derived.Test.YtodihnhpibjhmaaOpen
import Derived.Test.YtodihnhpibjhmaaOpenSl
namespace Go.Proofs.Ytodihnhpibjhmaa
open Go.ChangeShapes Go.WideShapes Go.ChangeAt Go.RowKit
set_option linter.unusedVariables false
/-- Fields that came in. -/
theorem op_fields {H : Type} {enc : TypeId × Value → H} {W : World} {v : Value} {d : DataW H} {p : List MemPlace} {base : Nat} (ho : Value.okWide Try.prog W .any base 34 v) (h : DataW.Trod enc Try.prog W 0 (fun _ => true) true 34 v d p) :
    ∃ (n : Nat) (ns : List Int), ns.length = n * 2 ∧ Sl W 2 v n (ns.map (Value.int .i64)) ∧ ∀ i, i < ns.length → -9223372036854775808 ≤ nth ns i ∧ nth ns i ≤ 9223372036854775807 := by
  obtain ⟨n, ns, h1, h2, h3⟩ := op_slice .i64 Try.underlying34 3 (by kernel_rfl) 2 (by kernel_rfl) (by omega) ho h
  exact ⟨n, ns, h1, h2, fun i hi => (wf_i64_iff _).1 (h3 i hi)⟩
/-- The field at a place, as cells. -/
theorem field_at {W : World} {ad : Option Addr} {n c : Nat} {ns : List Int} (hl : ns.length = n * 2) (hv : Sl W 2 (.slice ad n c) n (ns.map (Value.int .i64))) (i : Nat) (hi : i < n) :
    ∃ b off, ad = some ⟨b, off, none⟩ ∧ W.rangeAt b (off + i * 2) [.int .i64 (nth ns (2 * i)), .int .i64 (nth ns (2 * i + 1))] := by
  obtain ⟨_, a', c', e, _, _, hor⟩ := hv
  cases e
  rcases hor with h | ⟨b, off, rfl, hcell⟩
  · omega
  · refine ⟨b, off, rfl, fun j u hu => ?_⟩
    have hj : j < 2 := (List.getElem?_eq_some_iff.1 hu).1
    have h1 := hcell (i * 2 + j) (by omega)
    rw [List.getElem?_map, List.getElem?_eq_getElem (by omega)] at h1
    rw [Nat.add_assoc, h1, ← hu]
    rcases (show j = 0 ∨ j = 1 by omega) with rfl | rfl <;> simp [nth, List.getD, Nat.mul_comm i 2, hl, show 2 * i < n * 2 by omega, show 2 * i + 1 < n * 2 by omega]
theorem fsOk_of (ns : List Int) (n : Nat) (h : wErr ns n = 0) : n ≤ 20000 ∧ ∀ i, i < n → fOk ns i = true := by
  unfold wErr at h
  split at h
  · cases h
  · split at h
    · rename_i h1 h2
      rw [fsOk, List.all_eq_true] at h2
      exact ⟨by omega, fun i hi => h2 i (by simpa using hi)⟩
    · cases h
/-- The bits of fields in a row, field by field. -/
def fB : List Int → List Bool
  | x :: y :: r => bitsOf x.toNat y.toNat ++ fB r
  | _ => []
def fO : List Int → Bool
  | x :: y :: r => (decide (0 ≤ x) && decide (x ≤ 24) && decide (0 ≤ y) && decide (y < 2 ^ x.toNat)) && fO r
  | _ => true
theorem fB_app : ∀ (n : Nat) (a b : List Int), a.length = n * 2 → fB (a ++ b) = fB a ++ fB b ∧ fO (a ++ b) = (fO a && fO b)
  | 0, a, b, h => by
    have : a = [] := by simpa using h
    subst this; exact ⟨rfl, by simp [fO]⟩
  | n + 1, x :: y :: a, b, h => by
    obtain ⟨h1, h2⟩ := fB_app n a b (by simp at h; omega)
    exact ⟨by simp only [List.cons_append, fB, h1, List.append_assoc], by simp only [List.cons_append, fO, h2, Bool.and_assoc]⟩
  | n + 1, [x], b, h => by simp at h; omega
  | n + 1, [], b, h => by simp at h
theorem fBits_take (ns : List Int) (n : Nat) (h : ns.length = n * 2) : ∀ k, k ≤ n → fBits ns k = fB (ns.take (k * 2)) ∧ ((∀ i, i < k → fOk ns i = true) ↔ fO (ns.take (k * 2)) = true) := by
  intro k
  induction k with
  | zero => intro _; exact ⟨by simp [fBits, fB], by simp [fO]⟩
  | succ k ih =>
    intro hk
    obtain ⟨h1, h2⟩ := ih (by omega)
    have e : ns.take ((k + 1) * 2) = ns.take (k * 2) ++ [nth ns (2 * k), nth ns (2 * k + 1)] := by
      have g : ∀ i (hi : i < ns.length), nth ns i = ns[i] := fun i hi => by simp [nth, List.getD, hi]
      rw [show (k + 1) * 2 = 2 * k + 1 + 1 by omega, show k * 2 = 2 * k by omega, List.take_succ_eq_append_getElem (by omega), List.take_succ_eq_append_getElem (by omega), g _ (by omega), g _ (by omega), List.append_assoc]; rfl
    obtain ⟨a1, a2⟩ := fB_app k (ns.take (k * 2)) [nth ns (2 * k), nth ns (2 * k + 1)] (by simp; omega)
    refine ⟨by rw [fBits, h1, e, a1]; simp [fB], ?_⟩
    rw [e, a2, Bool.and_eq_true, ← h2]
    constructor
    · intro h; exact ⟨fun i hi => h i (by omega), by have := h k (by omega); simpa [fO, fOk] using this⟩
    · intro ⟨h3, h4⟩ i hi
      by_cases hik : i < k
      · exact h3 i hik
      · obtain rfl : i = k := by omega
        simpa [fO, fOk] using h4
theorem write_spec (ns : List Int) (n : Nat) (h : ns.length = n * 2) : wErr ns n = (if 20000 < n then 2 else if fO ns then 0 else 1) ∧ fBits ns n = fB ns := by
  obtain ⟨h1, h2⟩ := fBits_take ns n h n (Nat.le_refl _)
  rw [show ns.take (n * 2) = ns by rw [← h]; exact List.take_length] at h1 h2
  refine ⟨?_, h1⟩
  have : fsOk ns n = fO ns := by
    rw [Bool.eq_iff_iff, ← h2, fsOk, List.all_eq_true]
    simp
  unfold wErr
  rw [this]
theorem wBytes_eq (ns : List Int) (n : Nat) (h : ns.length = n * 2) (he : wErr ns n = 0) : wBytes ns n = bytesOf (fB ns) := by
  rw [wBytes, if_pos he, (write_spec ns n h).2]
theorem fO_bd : ∀ (n : Nat) (l : List Int), l.length = n * 2 → fO l = true → ∀ i, i < l.length → -9223372036854775808 ≤ nth l i ∧ nth l i ≤ 9223372036854775807
  | 0, l, h, _, i, hi => by omega
  | n + 1, x :: y :: l, h, ho, i, hi => by
    simp only [fO, Bool.and_eq_true, decide_eq_true_eq] at ho
    have hp : (2 : Int) ^ x.toNat ≤ 16777216 := by
      have h1 := Nat.pow_le_pow_right (n := 2) (by omega) (show x.toNat ≤ 24 by omega)
      have h2 : (2 : Int) ^ x.toNat = ((2 ^ x.toNat : Nat) : Int) := by push_cast; rfl
      rw [h2]; omega
    match i with
    | 0 => show -9223372036854775808 ≤ x ∧ x ≤ 9223372036854775807; omega
    | 1 => show -9223372036854775808 ≤ y ∧ y ≤ 9223372036854775807; omega
    | i + 2 => exact fO_bd n l (by simp at h; omega) ho.2 i (by simp at hi; omega)
  | n + 1, [x], h, _, _, _ => by simp at h; omega
  | n + 1, [], h, _, _, _ => by simp at h
theorem split_at (ns : List Int) (n k : Nat) (h : ns.length = n * 2) (hk : k < n) : ns = ns.take (k * 2) ++ ([nth ns (2 * k), nth ns (2 * k + 1)] ++ ns.drop ((k + 1) * 2)) := by
  have g : ∀ i (hi : i < ns.length), nth ns i = ns[i] := fun i hi => by simp [nth, List.getD, hi]
  conv => lhs; rw [← List.take_append_drop (k * 2) ns]
  congr 1
  rw [show k * 2 = 2 * k by omega, List.drop_eq_getElem_cons (by omega), List.drop_eq_getElem_cons (by omega), g _ (by omega), g _ (by omega), show (k + 1) * 2 = 2 * k + 1 + 1 by omega]
  rfl
end Go.Proofs.Ytodihnhpibjhmaa
