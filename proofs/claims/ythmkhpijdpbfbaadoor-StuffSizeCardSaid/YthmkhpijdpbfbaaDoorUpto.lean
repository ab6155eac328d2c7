/- What the bound on the bulk gives. -/
import Derived.Test.YthmkhpijdpbfbaaDoorRows
import Derived.Test.YthmkhpijdpbfbaaDoorOpen
import Derived.Test.YthmkhpijdpbfbaaDoorOpenSl
namespace Go.Proofs.YthmkhpijdpbfbaaDoor
set_option maxRecDepth 100000
open Go.ChangeShapes Go.WideShapes Go.ChangeAt Go.RowKit
set_option linter.unusedVariables false
theorem bulk_one {H : Type} (d : DataW H) : 1 ≤ Rows.uptoBulk d := by
  cases d with
  | lit l => cases l <;> simp [Rows.uptoBulk]
  | nil => simp [Rows.uptoBulk]
  | ptr d => simp [Rows.uptoBulk]
  | slice elems spare => simp [Rows.uptoBulk]
  | agg parts => simp [Rows.uptoBulk]
  | iface t d => simp [Rows.uptoBulk]
  | map entries => simp [Rows.uptoBulk]
  | held h => simp [Rows.uptoBulk]
theorem bulk_len {H : Type} (l : List (DataW H)) : l.length ≤ Rows.uptoBulkAll l := by
  induction l with
  | nil => simp [Rows.uptoBulkAll]
  | cons x r ih => have := bulk_one x; simp only [Rows.uptoBulkAll, List.length_cons]; omega
theorem bulk_part {H : Type} {d : DataW H} {l : List (DataW H)} (h : d ∈ l) : Rows.uptoBulk d ≤ Rows.uptoBulkAll l := by
  induction l with
  | nil => cases h
  | cons x r ih =>
    simp only [Rows.uptoBulkAll]
    cases List.mem_cons.1 h with
    | inl e => subst e; omega
    | inr e => have := ih e; omega
theorem bulk_of {H : Type} {d : DataW H} {l : List (DataW H)} (hk : Rows.uptoSmall H l = true) (h : d ∈ l) : Rows.uptoBulk d ≤ 1048576 := by
  have h1 : Rows.uptoBulkAll l ≤ 1048576 := of_decide_eq_true hk
  have := bulk_part h
  omega
/-- A slice that came in has no more elements than its bulk. -/
theorem slice_bulk {H : Type} {enc : TypeId × Value → H} {P : Program} {W : World} {t e : TypeId} {ad : Option Addr} {n c : Nat} {d : DataW H} {p : List MemPlace} (ht : P.underlying t = some (.slice e))
    (h : DataW.Trod enc P W 0 (fun _ => true) true t (.slice ad n c) d p) : n ≤ Rows.uptoBulk d := by
  obtain ⟨fuel, h⟩ := h
  have hvc : (Value.slice ad n c).cells.toList = [.slice ad n c] := rfl
  rw [hvc] at h
  rcases Go.Deep.open_slice ht h with ⟨h0, _⟩ | ⟨a, len, cap, m, k, D, Pl, hcs, _, _, _, _, hx, _⟩
  · have : n = 0 := by have h1 := h0; simp at h1; exact h1.2.1
    omega
  · have e1 : n = len := by have h1 := hcs; simp at h1; exact h1.2.1
    have e2 : d = .slice ((List.range len).map D) ((List.range (m - len)).map fun j => D (len + j)) := (Prod.mk.inj hx).1
    rw [e2]
    simp only [Rows.uptoBulk]
    have := bulk_len ((List.range len).map D)
    rw [List.length_map, List.length_range] at this
    omega
/-- Bytes that came in. -/
theorem op_bytes {H : Type} {enc : TypeId × Value → H} {W : World} {v : Value} {d : DataW H} {p : List MemPlace} {base : Nat} (ho : Value.okWide Tryd.prog W .any base 22 v) (h : DataW.Trod enc Tryd.prog W 0 (fun _ => true) true 22 v d p) :
    ∃ (n : Nat) (l : List Nat) (ad : Option Addr) (c : Nat), l.length = n ∧ v = .slice ad n c ∧ n ≤ c ∧ c ≤ 9223372036854775807 ∧ Sl W 1 (.slice ad n c) n (l.map fun (x : Nat) => Value.int .u8 (x : Int)) ∧ (∀ x ∈ l, x < 256) ∧ n ≤ Rows.uptoBulk d := by
  obtain ⟨n, ns, hl, hv, hw⟩ := op_slice .u8 Tryd.underlying22 1 (by kernel_rfl) 1 (by kernel_rfl) (by omega) ho h
  obtain ⟨ad, c, rfl, hnc, hcm⟩ : ∃ ad c, v = .slice ad n c ∧ n ≤ c ∧ c ≤ 9223372036854775807 := by
    obtain ⟨_, ad, c, h1, h2, h3, _⟩ := hv
    exact ⟨ad, c, h1, h2, by unfold maxLen at h3; exact h3⟩
  have hb : ∀ x ∈ ns, 0 ≤ x ∧ x ≤ 255 := fun x hx => by
    obtain ⟨i, hi, rfl⟩ := List.getElem_of_mem hx
    have := (wf_u8_iff _).1 (hw i hi)
    simpa [nth, List.getD, hi] using this
  have e : ns.map (Value.int .u8) = (ns.map Int.toNat).map fun (x : Nat) => Value.int .u8 (x : Int) := by
    rw [List.map_map]
    refine List.map_congr_left fun x hx => ?_
    have := hb x hx
    simp only [Function.comp]
    rw [Int.toNat_of_nonneg (by omega)]
  refine ⟨n, ns.map Int.toNat, ad, c, by simpa using hl, rfl, hnc, hcm, e ▸ hv, fun x hx => ?_, slice_bulk Tryd.underlying22 h⟩
  obtain ⟨y, hy, rfl⟩ := List.mem_map.1 hx
  have := hb y hy
  omega
/-- Numbers that came in. -/
theorem op_ints {H : Type} {enc : TypeId × Value → H} {W : World} {v : Value} {d : DataW H} {p : List MemPlace} {base : Nat} (ho : Value.okWide Tryd.prog W .any base 27 v) (h : DataW.Trod enc Tryd.prog W 0 (fun _ => true) true 27 v d p) :
    ∃ (n : Nat) (l : List Int) (ad : Option Addr) (c : Nat), l.length = n ∧ v = .slice ad n c ∧ n ≤ c ∧ c ≤ 9223372036854775807 ∧ Sl W 1 (.slice ad n c) n (l.map (Value.int .i64)) ∧ (∀ i, i < n → -9223372036854775808 ≤ nth l i ∧ nth l i ≤ 9223372036854775807) ∧ n ≤ Rows.uptoBulk d := by
  obtain ⟨n, ns, hl, hv, hw⟩ := op_slice .i64 Tryd.underlying27 1 (by kernel_rfl) 1 (by kernel_rfl) (by omega) ho h
  obtain ⟨ad, c, rfl, hnc, hcm⟩ : ∃ ad c, v = .slice ad n c ∧ n ≤ c ∧ c ≤ 9223372036854775807 := by
    obtain ⟨_, ad, c, h1, h2, h3, _⟩ := hv
    exact ⟨ad, c, h1, h2, by unfold maxLen at h3; exact h3⟩
  exact ⟨n, ns, ad, c, by simpa using hl, rfl, hnc, hcm, hv, fun i hi => (wf_i64_iff _).1 (hw i (by omega)), slice_bulk Tryd.underlying27 h⟩
end Go.Proofs.YthmkhpijdpbfbaaDoor
