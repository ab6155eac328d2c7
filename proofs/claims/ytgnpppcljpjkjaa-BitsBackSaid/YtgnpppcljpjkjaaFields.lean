/- Fields that came in. -/
import Derived.Test.YtgnpppcljpjkjaaWrite
import Derived.Test.YtgnpppcljpjkjaaOpen
import Derived.Test.YtgnpppcljpjkjaaOpenSl
namespace Go.Proofs.Ytgnpppcljpjkjaa
open Go.ChangeShapes Go.WideShapes Go.ChangeAt Go.RowKit
set_option linter.unusedVariables false
/-- Fields that came in. -/
theorem op_fields {H : Type} {enc : TypeId × Value → H} {W : World} {v : Value} {d : DataW H} {p : List MemPlace} {base : Nat} (ho : Value.okWide Try.prog W .any base 46 v) (h : DataW.Trod enc Try.prog W 0 (fun _ => true) true 46 v d p) :
    ∃ (n : Nat) (ns : List Int), ns.length = n * 2 ∧ Sl W 2 v n (ns.map (Value.int .i64)) ∧ ∀ i, i < ns.length → -9223372036854775808 ≤ nth ns i ∧ nth ns i ≤ 9223372036854775807 := by
  obtain ⟨n, ns, h1, h2, h3⟩ := op_slice .i64 Try.underlying46 3 (by kernel_rfl) 2 (by kernel_rfl) (by omega) ho h
  exact ⟨n, ns, h1, h2, fun i hi => (wf_i64_iff _).1 (h3 i hi)⟩
/-- The field at a place, as cells. -/
theorem field_at {W : World} {ad : Option Addr} {n c : Nat} {ns : List Int} (hl : ns.length = n * 2) (hv : Sl W 2 (.slice ad n c) n (ns.map (Value.int .i64))) (i : Nat) (hi : i < n) :
    ∃ b off, ad = some ⟨b, off, none⟩ ∧ W.rangeAt b (off + i * 2) [.int .i64 (nth ns (2 * i)), .int .i64 (nth ns (2 * i + 1))] := by
  obtain ⟨_, a', c', e, _, _, hor⟩ := hv
  cases e
  rcases hor with h | ⟨b, off, rfl, hcell⟩
  · omega
  · refine ⟨b, off, rfl, fun j u hu => ?_⟩
    have hj : j < 2 := (List.getElem?_eq_some_iff.1 hu).1
    have h1 := hcell (i * 2 + j) (by omega)
    rw [List.getElem?_map, List.getElem?_eq_getElem (by omega)] at h1
    rw [Nat.add_assoc, h1, ← hu]
    rcases (show j = 0 ∨ j = 1 by omega) with rfl | rfl <;> simp [nth, List.getD, Nat.mul_comm i 2, hl, show 2 * i < n * 2 by omega, show 2 * i + 1 < n * 2 by omega]
theorem fsOk_of (ns : List Int) (n : Nat) (h : wErr ns n = 0) : n ≤ 20000 ∧ ∀ i, i < n → fOk ns i = true := by
  unfold wErr at h
  split at h
  · cases h
  · split at h
    · rename_i h1 h2
      rw [fsOk, List.all_eq_true] at h2
      exact ⟨by omega, fun i hi => h2 i (by simpa using hi)⟩
    · cases h
end Go.Proofs.Ytgnpppcljpjkjaa
