/- The types of this translation: which take one cell, how many the others take, what a slice's elements are. -/
import Derived.Test.YthmkhpijdpbfbaaDoorProg
import Derived.Test.YthmkhpijdpbfbaaDoorOp
namespace Go.Proofs.YthmkhpijdpbfbaaDoor
def oneTs : List Nat := [1, 2, 3, 4, 5, 6, 9, 10, 11, 12, 15, 16, 17, 20, 21, 22, 23, 24, 25, 26, 27, 28, 30, 31, 32, 33, 34, 35, 37, 38, 39, 40, 41, 42, 43, 45, 50, 56, 57, 58, 59, 60, 61, 62, 65]
def rowTs : List (Nat × Nat) := [(7, 4), (8, 4), (13, 2), (14, 2), (18, 1), (19, 1), (46, 256), (47, 2), (48, 2), (49, 32), (51, 4), (52, 4), (63, 11), (64, 11)]
theorem one_all : (oneTs.all fun t => decide ((Tryd.prog.underlying t).map TypeDesc.isRow = some false) && decide ((Tryd.prog.info? t).map (·.size) = some 1)) = true := by kernel_rfl
theorem row_all : (rowTs.all fun x => decide ((Tryd.prog.underlying x.1).map TypeDesc.isRow = some true) && decide ((Tryd.prog.info? x.1).map (·.size) = some x.2)) = true := by kernel_rfl
theorem one_of {t : TypeId} (h : oneTs.contains t = true) : One Tryd.prog t := by
  have h1 := List.all_eq_true.1 one_all t (by simpa using h)
  simp only [Bool.and_eq_true, decide_eq_true_eq] at h1
  exact h1
theorem row_of {t n : Nat} (h : rowTs.contains (t, n) = true) : RowN Tryd.prog t n := by
  have h1 := List.all_eq_true.1 row_all (t, n) (by simpa using h)
  simp only [Bool.and_eq_true, decide_eq_true_eq] at h1
  exact h1
theorem el22 : ElemT Tryd.prog 22 5 1 1 := ElemT.mk' (.int .u8 0) Tryd.underlying22 (by kernel_rfl) rfl (by decide)
theorem el26 : ElemT Tryd.prog 26 22 1 24 := ElemT.mk' (.slice none 0 0) Tryd.underlying26 (by kernel_rfl) rfl (by decide)
theorem el27 : ElemT Tryd.prog 27 3 1 8 := ElemT.mk' (.int .i64 0) Tryd.underlying27 (by kernel_rfl) rfl (by decide)
end Go.Proofs.YthmkhpijdpbfbaaDoor
