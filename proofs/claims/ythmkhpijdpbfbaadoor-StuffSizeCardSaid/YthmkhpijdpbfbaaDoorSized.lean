/- What the bound on each argument's bytes gives. -/
import Derived.Test.YthmkhpijdpbfbaaDoorUpto
import Derived.SizedLaws
namespace Go.Proofs.YthmkhpijdpbfbaaDoor
open Go.ChangeShapes Go.WideShapes Go.ChangeAt Go.RowKit
set_option linter.unusedVariables false
/-- A slice that came in has no more bytes than a process's addresses. -/
theorem slice_sized {H : Type} {enc : TypeId × Value → H} {P : Program} {W : World} {t e : TypeId} {ad : Option Addr} {n c b : Nat} {d : DataW H} {p : List MemPlace} {ts : List TypeId} {ds : List (DataW H)} {j : Nat} (ht : P.underlying t = some (.slice e))
    (hb : P.bytesOf e = b) (h : DataW.Trod enc P W 0 (fun _ => true) true t (.slice ad n c) d p) (hw : (DataW.weightsEach P ts ds).all (· ≤ reachBytes) = true) (hj : ts[j]? = some t) (hd : ds[j]? = some d) : n * b ≤ 140737488351232 := by
  obtain ⟨fuel, h⟩ := h
  have hvc : (Value.slice ad n c).cells.toList = [.slice ad n c] := rfl
  rw [hvc] at h
  rcases Go.Deep.open_slice ht h with ⟨h0, _⟩ | ⟨a, len, cap, m, k, D, Pl, hcs, _, hl, _, hmm, hx, _⟩
  · have : n = 0 := by have h1 := h0; simp at h1; exact h1.2.1
    rw [this]; omega
  · have e1 : n = len := by have h1 := hcs; simp at h1; exact h1.2.1
    have e2 : d = .slice ((List.range len).map D) ((List.range (m - len)).map fun j => D (len + j)) := (Prod.mk.inj hx).1
    rw [e2] at hd
    have h3 := sized_slice hw hj hd ht
    rw [hb, List.length_map, List.length_map, List.length_range, List.length_range] at h3
    have h4 : reachBytes = 140737488351232 := by decide
    rw [h4] at h3
    refine Nat.le_trans (Nat.mul_le_mul_right b ?_) h3
    omega
end Go.Proofs.YthmkhpijdpbfbaaDoor
