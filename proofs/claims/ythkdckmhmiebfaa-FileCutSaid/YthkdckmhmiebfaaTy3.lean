/- The types of this translation: what a slice that is made holds. -/
import Derived.Test.YthkdckmhmiebfaaMem3
namespace Go.Proofs.Ythkdckmhmiebfaa
theorem eqt22 : EqT Try.prog 22 64 := EqT.array (by kernel_rfl) Try.underlying22 Try.underlying3 isz3
theorem eqt23 : EqT Try.prog 23 64 := EqT.array (by kernel_rfl) Try.underlying23 Try.underlying3 isz3
theorem eqt43 : EqT Try.prog 43 16 := EqT.array (by kernel_rfl) Try.underlying43 Try.underlying3 isz3
theorem eqt31 : EqT Try.prog 31 3 := EqT.struct (by kernel_rfl) Try.underlying31 (by kernel_rfl) rfl (fun i f h => by
  match i, h with
  | 0, h => cases h; exact ⟨by decide, rfl, Try.underlying3⟩
  | 1, h => cases h; exact ⟨by decide, rfl, Try.underlying3⟩
  | 2, h => cases h; exact ⟨by decide, rfl, Try.underlying3⟩
  | i + 3, h => cases h)
theorem eqt32 : EqT Try.prog 32 3 := EqT.struct (by kernel_rfl) Try.underlying32 (by kernel_rfl) rfl (fun i f h => by
  match i, h with
  | 0, h => cases h; exact ⟨by decide, rfl, Try.underlying3⟩
  | 1, h => cases h; exact ⟨by decide, rfl, Try.underlying3⟩
  | 2, h => cases h; exact ⟨by decide, rfl, Try.underlying3⟩
  | i + 3, h => cases h)
theorem elz25 : ElemZ Try.prog 25 32 .i64 3 24 := ElemZ.mk' (.agg #[.int .i64 0, .int .i64 0, .int .i64 0]) Try.underlying25 (by kernel_rfl) (by kernel_rfl) (by decide)
theorem elz30 : ElemZ Try.prog 30 3 .i64 1 8 := ElemZ.mk' (.int .i64 0) Try.underlying30 (by kernel_rfl) (by kernel_rfl) (by decide)
theorem elz48 : ElemZ Try.prog 48 5 .u8 1 1 := ElemZ.mk' (.int .u8 0) Try.underlying48 (by kernel_rfl) (by kernel_rfl) (by decide)
end Go.Proofs.Ythkdckmhmiebfaa
