/- The types of this translation: what a slice that is made holds. -/
import Derived.Test.YtgnpppcljpjkjaaMem3
namespace Go.Proofs.Ytgnpppcljpjkjaa
theorem eqt30 : EqT Try.prog 30 64 := EqT.array (by kernel_rfl) Try.underlying30 Try.underlying3 isz3
theorem eqt31 : EqT Try.prog 31 64 := EqT.array (by kernel_rfl) Try.underlying31 Try.underlying3 isz3
theorem eqt82 : EqT Try.prog 82 9 := EqT.array (by kernel_rfl) Try.underlying82 Try.underlying3 isz3
theorem elz22 : ElemZ Try.prog 22 31 .i64 64 512 := ElemZ.mk' (.agg #[.int .i64 0, .int .i64 0, .int .i64 0, .int .i64 0, .int .i64 0, .int .i64 0, .int .i64 0, .int .i64 0, .int .i64 0, .int .i64 0, .int .i64 0, .int .i64 0, .int .i64 0, .int .i64 0, .int .i64 0, .int .i64 0, .int .i64 0, .int .i64 0, .int .i64 0, .int .i64 0, .int .i64 0, .int .i64 0, .int .i64 0, .int .i64 0, .int .i64 0, .int .i64 0, .int .i64 0, .int .i64 0, .int .i64 0, .int .i64 0, .int .i64 0, .int .i64 0, .int .i64 0, .int .i64 0, .int .i64 0, .int .i64 0, .int .i64 0, .int .i64 0, .int .i64 0, .int .i64 0, .int .i64 0, .int .i64 0, .int .i64 0, .int .i64 0, .int .i64 0, .int .i64 0, .int .i64 0, .int .i64 0, .int .i64 0, .int .i64 0, .int .i64 0, .int .i64 0, .int .i64 0, .int .i64 0, .int .i64 0, .int .i64 0, .int .i64 0, .int .i64 0, .int .i64 0, .int .i64 0, .int .i64 0, .int .i64 0, .int .i64 0, .int .i64 0]) Try.underlying22 (by kernel_rfl) (by kernel_rfl) (by decide)
theorem elz24 : ElemZ Try.prog 24 3 .i64 1 8 := ElemZ.mk' (.int .i64 0) Try.underlying24 (by kernel_rfl) (by kernel_rfl) (by decide)
theorem elz46 : ElemZ Try.prog 46 51 .i64 2 16 := ElemZ.mk' (.agg #[.int .i64 0, .int .i64 0]) Try.underlying46 (by kernel_rfl) (by kernel_rfl) (by decide)
theorem elz47 : ElemZ Try.prog 47 5 .u8 1 1 := ElemZ.mk' (.int .u8 0) Try.underlying47 (by kernel_rfl) (by kernel_rfl) (by decide)
end Go.Proofs.Ytgnpppcljpjkjaa
