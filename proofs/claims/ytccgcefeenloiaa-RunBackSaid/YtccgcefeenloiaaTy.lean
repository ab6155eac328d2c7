/- The types of this translation: which take one cell, how many the others take, what a slice's elements are. -/
import Derived.Test.YtccgcefeenloiaaProg
import Derived.Test.YtccgcefeenloiaaOp
namespace Go.Proofs.Ytccgcefeenloiaa
def oneTs : List Nat := [1, 2, 3, 4, 5, 6, 9, 10, 11, 12, 15, 16, 17, 20, 21, 23, 26, 27, 28, 29, 31, 33, 34, 35, 36, 39, 41, 43, 44, 45, 47, 48, 51, 52, 53, 54, 55, 57, 58, 59, 60, 63, 64, 65, 67, 70, 73, 74, 76, 77, 80, 81, 82, 83, 84, 85, 90, 91, 92, 93, 94, 95, 96, 98, 99, 100, 102, 103, 104, 105, 106, 107, 113, 114, 115, 116, 117, 118, 121]
def rowTs : List (Nat × Nat) := [(7, 4), (8, 4), (13, 2), (14, 2), (18, 1), (19, 1), (22, 16), (24, 17), (25, 17), (37, 64), (38, 64), (49, 3), (50, 3), (61, 3), (62, 3), (68, 2), (69, 2), (71, 3), (72, 3), (78, 1), (79, 1), (86, 2), (87, 2), (88, 2), (108, 4), (109, 4), (119, 11), (120, 11)]
theorem one_all : (oneTs.all fun t => decide ((Try.prog.underlying t).map TypeDesc.isRow = some false) && decide ((Try.prog.info? t).map (·.size) = some 1)) = true := by kernel_rfl
theorem row_all : (rowTs.all fun x => decide ((Try.prog.underlying x.1).map TypeDesc.isRow = some true) && decide ((Try.prog.info? x.1).map (·.size) = some x.2)) = true := by kernel_rfl
theorem one_of {t : TypeId} (h : oneTs.contains t = true) : One Try.prog t := by
  have h1 := List.all_eq_true.1 one_all t (by simpa using h)
  simp only [Bool.and_eq_true, decide_eq_true_eq] at h1
  exact h1
theorem row_of {t n : Nat} (h : rowTs.contains (t, n) = true) : RowN Try.prog t n := by
  have h1 := List.all_eq_true.1 row_all (t, n) (by simpa using h)
  simp only [Bool.and_eq_true, decide_eq_true_eq] at h1
  exact h1
theorem za22 (w : World) : (zeroValue 22).run Try.prog w = .ok (.agg (iv (List.replicate 16 0))) w := Try.zeroValue22 w
theorem za37 (w : World) : (zeroValue 37).run Try.prog w = .ok (.agg (iv (List.replicate 64 0))) w := Try.zeroValue37 w
theorem za38 (w : World) : (zeroValue 38).run Try.prog w = .ok (.agg (iv (List.replicate 64 0))) w := Try.zeroValue38 w
theorem el23 : ElemT Try.prog 23 3 1 8 := ElemT.mk' (.int .i64 0) Try.underlying23 (by kernel_rfl) rfl (by decide)
theorem el26 : ElemT Try.prog 26 5 1 1 := ElemT.mk' (.int .u8 0) Try.underlying26 (by kernel_rfl) rfl (by decide)
theorem el39 : ElemT Try.prog 39 72 3 24 := ElemT.mk' (.agg #[.int .i64 0, .int .i64 0, .int .i64 0]) Try.underlying39 (by kernel_rfl) rfl (by decide)
theorem el45 : ElemT Try.prog 45 50 3 24 := ElemT.mk' (.agg #[.int .i64 0, .int .i64 0, .int .i64 0]) Try.underlying45 (by kernel_rfl) rfl (by decide)
end Go.Proofs.Ytccgcefeenloiaa
