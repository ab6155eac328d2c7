/- The closed fact of the laws on the zigzag order. -/
import Derived.Test.YtodihnhpibjhmaaZig
import Derived.Test.YtodihnhpibjhmaaEqInt
namespace Go.Proofs.Ytodihnhpibjhmaa
open Go.RowKit
set_option maxRecDepth 100000 in
set_option maxHeartbeats 1000000 in
theorem zigged_any (w : World) : Calls Try.prog 19 #[] w fun e w' => e = .returned (.bool true) ∧ Ext w w' := by
  go_enter Try.func19, Try.ntmps19
  go_wp2_with fail
  refine (zOrder_any _).mono ?_
  rintro e w1 ⟨g, rfl, hR, hE⟩
  go_wp2_with fail
  have hE2 := hE.alloc (.cells (iv [0, 1, 8, 16, 9, 2]) 3)
  have ha : ISl (w1.alloc (.cells (iv [0, 1, 8, 16, 9, 2]) 3)) (.slice (some ⟨g, 0, none⟩) 6 64) ((zi.drop 0).take 6) :=
    ISl.cut (ISl.of_row (hR.alloc _) zi_len (by unfold maxLen; omega)) 0 6 (by omega) (by rw [zi_len]; omega)
  have hb : ISl (w1.alloc (.cells (iv [0, 1, 8, 16, 9, 2]) 3)) (.slice (some ⟨w1.heap.size, 0, none⟩) 6 6) [0, 1, 8, 16, 9, 2] :=
    ISl.of_row (Row.new w1 [0, 1, 8, 16, 9, 2] 3) rfl (by unfold maxLen; omega)
  refine (eqInt_any _ _ _ _ _ ha hb).mono ?_
  rintro e w' ⟨rfl, rfl⟩
  have hz : decide ((zi.drop 0).take 6 = [0, 1, 8, 16, 9, 2]) = true := by decide +kernel
  rw [hz]
  go_wp2_with fail
  go_ret
  exact ⟨rfl, hE2⟩
end Go.Proofs.Ytodihnhpibjhmaa
