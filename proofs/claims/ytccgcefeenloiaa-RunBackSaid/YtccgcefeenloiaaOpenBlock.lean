/- A block that came in as an argument. -/
import Derived.Test.YtccgcefeenloiaaProg
import Derived.Test.YtccgcefeenloiaaOpen
namespace Go.Proofs.Ytccgcefeenloiaa
set_option maxRecDepth 100000
open Go.ChangeShapes Go.WideShapes Go.ChangeAt Go.RowKit
/-- A block that came in. -/
theorem op_block {W : World} {base : Nat} {v : Value} (ho : Value.okWide Try.prog W .any base 38 v) :
    ∃ l : List Int, l.length = 64 ∧ v = .agg (iv l) ∧ ∀ i, i < 64 → -9223372036854775808 ≤ nth l i ∧ nth l i ≤ 9223372036854775807 := by
  obtain ⟨l, hl, hv, hb⟩ := op_row (ts := List.replicate 64 3) (by rw [Try.underlying38]) (by kernel_rfl) (fun u hu => by rw [List.eq_of_mem_replicate hu]; exact Try.underlying3) ho
  have hc : Try.prog.cellsOf 38 = 64 := by kernel_rfl
  rw [hc] at hl
  exact ⟨l, hl, hv, fun i hi => hb i (by omega)⟩

end Go.Proofs.Ytccgcefeenloiaa
