/- The types of this translation: which take one cell, how many the others take, what a slice's elements are. -/
import Derived.Test.YthkdckmhmiebfaaProg
import Derived.Test.YthkdckmhmiebfaaOp
namespace Go.Proofs.Ythkdckmhmiebfaa
def oneTs : List Nat := [1, 2, 3, 4, 5, 6, 9, 10, 11, 12, 15, 16, 17, 20, 21, 24, 25, 26, 28, 29, 30, 33, 34, 35, 36, 37, 39, 40, 41, 42, 48, 52, 53, 54, 56, 57, 58, 59, 60, 61, 62, 63, 65, 66, 69, 70, 71, 72, 73, 74, 75, 78, 79, 80, 81, 82, 83, 84, 85, 86, 88, 90, 91, 93, 94, 95, 97, 98, 99, 100, 101, 102, 103, 109, 110, 111, 112, 113, 114, 117]
def rowTs : List (Nat × Nat) := [(7, 4), (8, 4), (13, 2), (14, 2), (18, 1), (19, 1), (22, 64), (23, 64), (31, 3), (32, 3), (43, 16), (44, 17), (45, 17), (46, 34), (47, 34), (49, 103), (50, 103), (67, 1), (68, 1), (76, 2), (77, 2), (104, 4), (105, 4), (115, 11), (116, 11)]
theorem one_all : (oneTs.all fun t => decide ((Try.prog.underlying t).map TypeDesc.isRow = some false) && decide ((Try.prog.info? t).map (·.size) = some 1)) = true := by kernel_rfl
theorem row_all : (rowTs.all fun x => decide ((Try.prog.underlying x.1).map TypeDesc.isRow = some true) && decide ((Try.prog.info? x.1).map (·.size) = some x.2)) = true := by kernel_rfl
theorem one_of {t : TypeId} (h : oneTs.contains t = true) : One Try.prog t := by
  have h1 := List.all_eq_true.1 one_all t (by simpa using h)
  simp only [Bool.and_eq_true, decide_eq_true_eq] at h1
  exact h1
theorem row_of {t n : Nat} (h : rowTs.contains (t, n) = true) : RowN Try.prog t n := by
  have h1 := List.all_eq_true.1 row_all (t, n) (by simpa using h)
  simp only [Bool.and_eq_true, decide_eq_true_eq] at h1
  exact h1
theorem za22 (w : World) : (zeroValue 22).run Try.prog w = .ok (.agg (iv (List.replicate 64 0))) w := Try.zeroValue22 w
theorem za23 (w : World) : (zeroValue 23).run Try.prog w = .ok (.agg (iv (List.replicate 64 0))) w := Try.zeroValue23 w
theorem za43 (w : World) : (zeroValue 43).run Try.prog w = .ok (.agg (iv (List.replicate 16 0))) w := Try.zeroValue43 w
theorem el25 : ElemT Try.prog 25 32 3 24 := ElemT.mk' (.agg #[.int .i64 0, .int .i64 0, .int .i64 0]) Try.underlying25 (by kernel_rfl) rfl (by decide)
theorem el30 : ElemT Try.prog 30 3 1 8 := ElemT.mk' (.int .i64 0) Try.underlying30 (by kernel_rfl) rfl (by decide)
theorem el48 : ElemT Try.prog 48 5 1 1 := ElemT.mk' (.int .u8 0) Try.underlying48 (by kernel_rfl) rfl (by decide)
theorem el70 : ElemT Try.prog 70 45 17 152 := ElemT.mk' (.agg #[.int .i64 0, .int .i64 0, .int .i64 0, .int .i64 0, .int .i64 0, .int .i64 0, .int .i64 0, .int .i64 0, .int .i64 0, .int .i64 0, .int .i64 0, .int .i64 0, .int .i64 0, .int .i64 0, .int .i64 0, .int .i64 0, .slice none 0 0]) Try.underlying70 (by kernel_rfl) rfl (by decide)
end Go.Proofs.Ythkdckmhmiebfaa
