/- The types of this translation: what a slice that is made holds. -/
import Derived.Test.YtembekkanggciaaMem3
namespace Go.Proofs.Ytembekkanggciaa
theorem eqt22 : EqT Try.prog 22 16 := EqT.array (by kernel_rfl) Try.underlying22 Try.underlying3 isz3
theorem eqt36 : EqT Try.prog 36 3 := EqT.struct (by kernel_rfl) Try.underlying36 (by kernel_rfl) rfl (fun i f h => by
  match i, h with
  | 0, h => cases h; exact ⟨by decide, rfl, Try.underlying3⟩
  | 1, h => cases h; exact ⟨by decide, rfl, Try.underlying3⟩
  | 2, h => cases h; exact ⟨by decide, rfl, Try.underlying3⟩
  | i + 3, h => cases h)
theorem eqt37 : EqT Try.prog 37 3 := EqT.struct (by kernel_rfl) Try.underlying37 (by kernel_rfl) rfl (fun i f h => by
  match i, h with
  | 0, h => cases h; exact ⟨by decide, rfl, Try.underlying3⟩
  | 1, h => cases h; exact ⟨by decide, rfl, Try.underlying3⟩
  | 2, h => cases h; exact ⟨by decide, rfl, Try.underlying3⟩
  | i + 3, h => cases h)
theorem elz23 : ElemZ Try.prog 23 3 .i64 1 8 := ElemZ.mk' (.int .i64 0) Try.underlying23 (by kernel_rfl) (by kernel_rfl) (by decide)
theorem elz33 : ElemZ Try.prog 33 37 .i64 3 24 := ElemZ.mk' (.agg #[.int .i64 0, .int .i64 0, .int .i64 0]) Try.underlying33 (by kernel_rfl) (by kernel_rfl) (by decide)
end Go.Proofs.Ytembekkanggciaa
