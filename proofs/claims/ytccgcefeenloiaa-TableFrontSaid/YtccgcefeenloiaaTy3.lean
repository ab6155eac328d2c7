/- The types of this translation: what a slice that is made holds. -/
import Derived.Test.YtccgcefeenloiaaMem3
namespace Go.Proofs.Ytccgcefeenloiaa
theorem eqt22 : EqT Try.prog 22 16 := EqT.array (by kernel_rfl) Try.underlying22 Try.underlying3 isz3
theorem eqt37 : EqT Try.prog 37 64 := EqT.array (by kernel_rfl) Try.underlying37 Try.underlying3 isz3
theorem eqt38 : EqT Try.prog 38 64 := EqT.array (by kernel_rfl) Try.underlying38 Try.underlying3 isz3
theorem eqt88 : EqT Try.prog 88 2 := EqT.array (by kernel_rfl) Try.underlying88 Try.underlying3 isz3
theorem eqt49 : EqT Try.prog 49 3 := EqT.struct (by kernel_rfl) Try.underlying49 (by kernel_rfl) rfl (fun i f h => by
  match i, h with
  | 0, h => cases h; exact ⟨by decide, rfl, Try.underlying3⟩
  | 1, h => cases h; exact ⟨by decide, rfl, Try.underlying3⟩
  | 2, h => cases h; exact ⟨by decide, rfl, Try.underlying3⟩
  | i + 3, h => cases h)
theorem eqt50 : EqT Try.prog 50 3 := EqT.struct (by kernel_rfl) Try.underlying50 (by kernel_rfl) rfl (fun i f h => by
  match i, h with
  | 0, h => cases h; exact ⟨by decide, rfl, Try.underlying3⟩
  | 1, h => cases h; exact ⟨by decide, rfl, Try.underlying3⟩
  | 2, h => cases h; exact ⟨by decide, rfl, Try.underlying3⟩
  | i + 3, h => cases h)
theorem eqt71 : EqT Try.prog 71 3 := EqT.struct (by kernel_rfl) Try.underlying71 (by kernel_rfl) rfl (fun i f h => by
  match i, h with
  | 0, h => cases h; exact ⟨by decide, rfl, Try.underlying3⟩
  | 1, h => cases h; exact ⟨by decide, rfl, Try.underlying3⟩
  | 2, h => cases h; exact ⟨by decide, rfl, Try.underlying3⟩
  | i + 3, h => cases h)
theorem eqt72 : EqT Try.prog 72 3 := EqT.struct (by kernel_rfl) Try.underlying72 (by kernel_rfl) rfl (fun i f h => by
  match i, h with
  | 0, h => cases h; exact ⟨by decide, rfl, Try.underlying3⟩
  | 1, h => cases h; exact ⟨by decide, rfl, Try.underlying3⟩
  | 2, h => cases h; exact ⟨by decide, rfl, Try.underlying3⟩
  | i + 3, h => cases h)
theorem elz23 : ElemZ Try.prog 23 3 .i64 1 8 := ElemZ.mk' (.int .i64 0) Try.underlying23 (by kernel_rfl) (by kernel_rfl) (by decide)
theorem elz26 : ElemZ Try.prog 26 5 .u8 1 1 := ElemZ.mk' (.int .u8 0) Try.underlying26 (by kernel_rfl) (by kernel_rfl) (by decide)
theorem elz39 : ElemZ Try.prog 39 72 .i64 3 24 := ElemZ.mk' (.agg #[.int .i64 0, .int .i64 0, .int .i64 0]) Try.underlying39 (by kernel_rfl) (by kernel_rfl) (by decide)
theorem elz45 : ElemZ Try.prog 45 50 .i64 3 24 := ElemZ.mk' (.agg #[.int .i64 0, .int .i64 0, .int .i64 0]) Try.underlying45 (by kernel_rfl) (by kernel_rfl) (by decide)
end Go.Proofs.Ytccgcefeenloiaa
