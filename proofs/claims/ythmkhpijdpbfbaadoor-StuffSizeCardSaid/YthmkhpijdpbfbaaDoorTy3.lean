/- The types of this translation: what a slice that is made holds. -/
import Derived.Test.YthmkhpijdpbfbaaDoorMem3
namespace Go.Proofs.YthmkhpijdpbfbaaDoor
theorem elz22 : ElemZ Tryd.prog 22 5 .u8 1 1 := ElemZ.mk' (.int .u8 0) Tryd.underlying22 (by kernel_rfl) (by kernel_rfl) (by decide)
theorem elz27 : ElemZ Tryd.prog 27 3 .i64 1 8 := ElemZ.mk' (.int .i64 0) Tryd.underlying27 (by kernel_rfl) (by kernel_rfl) (by decide)
end Go.Proofs.YthmkhpijdpbfbaaDoor
