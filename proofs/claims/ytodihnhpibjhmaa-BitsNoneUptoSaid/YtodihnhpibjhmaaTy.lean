/- The types of this translation: which take one cell, how many the others take, what a slice's elements are. -/
import Derived.Test.YtodihnhpibjhmaaProg
import Derived.Test.YtodihnhpibjhmaaOp
namespace Go.Proofs.Ytodihnhpibjhmaa
def oneTs : List Nat := [1, 2, 3, 4, 5, 6, 9, 10, 11, 12, 15, 16, 17, 20, 21, 22, 23, 24, 25, 27, 28, 29, 30, 31, 32, 33, 34, 35, 37, 40, 41, 42, 43, 44, 47, 48, 50, 51, 52, 56, 57, 58, 59, 62, 63, 64, 65, 66, 67, 68, 69, 70, 71, 77, 78, 79, 80, 81, 82, 83, 84, 87]
def rowTs : List (Nat × Nat) := [(7, 4), (8, 4), (13, 2), (14, 2), (18, 1), (19, 1), (38, 2), (39, 2), (45, 64), (46, 64), (53, 4), (54, 12), (55, 3), (60, 3), (61, 3), (72, 4), (73, 4), (85, 11), (86, 11)]
theorem one_all : (oneTs.all fun t => decide ((Try.prog.underlying t).map TypeDesc.isRow = some false) && decide ((Try.prog.info? t).map (·.size) = some 1)) = true := by kernel_rfl
theorem row_all : (rowTs.all fun x => decide ((Try.prog.underlying x.1).map TypeDesc.isRow = some true) && decide ((Try.prog.info? x.1).map (·.size) = some x.2)) = true := by kernel_rfl
theorem one_of {t : TypeId} (h : oneTs.contains t = true) : One Try.prog t := by
  have h1 := List.all_eq_true.1 one_all t (by simpa using h)
  simp only [Bool.and_eq_true, decide_eq_true_eq] at h1
  exact h1
theorem row_of {t n : Nat} (h : rowTs.contains (t, n) = true) : RowN Try.prog t n := by
  have h1 := List.all_eq_true.1 row_all (t, n) (by simpa using h)
  simp only [Bool.and_eq_true, decide_eq_true_eq] at h1
  exact h1
theorem za45 (w : World) : (zeroValue 45).run Try.prog w = .ok (.agg (iv (List.replicate 64 0))) w := Try.zeroValue45 w
theorem za46 (w : World) : (zeroValue 46).run Try.prog w = .ok (.agg (iv (List.replicate 64 0))) w := Try.zeroValue46 w
theorem el30 : ElemT Try.prog 30 3 1 8 := ElemT.mk' (.int .i64 0) Try.underlying30 (by kernel_rfl) rfl (by decide)
theorem el34 : ElemT Try.prog 34 39 2 16 := ElemT.mk' (.agg #[.int .i64 0, .int .i64 0]) Try.underlying34 (by kernel_rfl) rfl (by decide)
theorem el35 : ElemT Try.prog 35 5 1 1 := ElemT.mk' (.int .u8 0) Try.underlying35 (by kernel_rfl) rfl (by decide)
end Go.Proofs.Ytodihnhpibjhmaa
