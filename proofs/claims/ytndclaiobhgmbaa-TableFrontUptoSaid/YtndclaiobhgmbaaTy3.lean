/- The types of this translation: what a slice that is made holds. -/
import Derived.Test.YtndclaiobhgmbaaMem3
namespace Go.Proofs.Ytndclaiobhgmbaa
theorem eqt22 : EqT Try.prog 22 16 := EqT.array (by kernel_rfl) Try.underlying22 Try.underlying3 isz3
theorem eqt75 : EqT Try.prog 75 2 := EqT.array (by kernel_rfl) Try.underlying75 Try.underlying3 isz3
theorem eqt31 : EqT Try.prog 31 3 := EqT.struct (by kernel_rfl) Try.underlying31 (by kernel_rfl) rfl (fun i f h => by
  match i, h with
  | 0, h => cases h; exact ⟨by decide, rfl, Try.underlying3⟩
  | 1, h => cases h; exact ⟨by decide, rfl, Try.underlying3⟩
  | 2, h => cases h; exact ⟨by decide, rfl, Try.underlying3⟩
  | i + 3, h => cases h)
theorem eqt32 : EqT Try.prog 32 3 := EqT.struct (by kernel_rfl) Try.underlying32 (by kernel_rfl) rfl (fun i f h => by
  match i, h with
  | 0, h => cases h; exact ⟨by decide, rfl, Try.underlying3⟩
  | 1, h => cases h; exact ⟨by decide, rfl, Try.underlying3⟩
  | 2, h => cases h; exact ⟨by decide, rfl, Try.underlying3⟩
  | i + 3, h => cases h)
theorem elz23 : ElemZ Try.prog 23 3 .i64 1 8 := ElemZ.mk' (.int .i64 0) Try.underlying23 (by kernel_rfl) (by kernel_rfl) (by decide)
theorem elz27 : ElemZ Try.prog 27 32 .i64 3 24 := ElemZ.mk' (.agg #[.int .i64 0, .int .i64 0, .int .i64 0]) Try.underlying27 (by kernel_rfl) (by kernel_rfl) (by decide)
theorem elz38 : ElemZ Try.prog 38 5 .u8 1 1 := ElemZ.mk' (.int .u8 0) Try.underlying38 (by kernel_rfl) (by kernel_rfl) (by decide)
end Go.Proofs.Ytndclaiobhgmbaa
