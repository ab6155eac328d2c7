/- The types of this translation: what a slice that is made holds. -/
import Derived.Test.YtodihnhpibjhmaaMem3
namespace Go.Proofs.Ytodihnhpibjhmaa
theorem eqt45 : EqT Try.prog 45 64 := EqT.array (by kernel_rfl) Try.underlying45 Try.underlying3 isz3
theorem eqt46 : EqT Try.prog 46 64 := EqT.array (by kernel_rfl) Try.underlying46 Try.underlying3 isz3
theorem eqt53 : EqT Try.prog 53 4 := EqT.array (by kernel_rfl) Try.underlying53 Try.underlying3 isz3
theorem eqt55 : EqT Try.prog 55 3 := EqT.array (by kernel_rfl) Try.underlying55 Try.underlying3 isz3
theorem elz30 : ElemZ Try.prog 30 3 .i64 1 8 := ElemZ.mk' (.int .i64 0) Try.underlying30 (by kernel_rfl) (by kernel_rfl) (by decide)
theorem elz34 : ElemZ Try.prog 34 39 .i64 2 16 := ElemZ.mk' (.agg #[.int .i64 0, .int .i64 0]) Try.underlying34 (by kernel_rfl) (by kernel_rfl) (by decide)
theorem elz35 : ElemZ Try.prog 35 5 .u8 1 1 := ElemZ.mk' (.int .u8 0) Try.underlying35 (by kernel_rfl) (by kernel_rfl) (by decide)
end Go.Proofs.Ytodihnhpibjhmaa
