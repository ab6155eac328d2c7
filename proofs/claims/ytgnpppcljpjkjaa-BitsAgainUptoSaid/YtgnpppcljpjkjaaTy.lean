/- The types of this translation: which take one cell, how many the others take, what a slice's elements are. -/
import Derived.Test.YtgnpppcljpjkjaaProg
import Derived.Test.YtgnpppcljpjkjaaOp
namespace Go.Proofs.Ytgnpppcljpjkjaa
def oneTs : List Nat := [1, 2, 3, 4, 5, 6, 9, 10, 11, 12, 15, 16, 17, 20, 21, 22, 23, 24, 25, 27, 29, 32, 34, 35, 36, 38, 39, 40, 41, 42, 43, 44, 45, 46, 47, 49, 53, 54, 55, 56, 57, 60, 61, 62, 64, 65, 66, 67, 70, 71, 72, 73, 75, 78, 79, 80, 81, 83, 89, 90, 91, 92, 93, 94, 95, 98]
def rowTs : List (Nat × Nat) := [(7, 4), (8, 4), (13, 2), (14, 2), (18, 1), (19, 1), (30, 64), (31, 64), (50, 2), (51, 2), (58, 2), (59, 2), (68, 3), (69, 3), (76, 2), (77, 2), (82, 9), (84, 4), (85, 4), (96, 11), (97, 11)]
theorem one_all : (oneTs.all fun t => decide ((Try.prog.underlying t).map TypeDesc.isRow = some false) && decide ((Try.prog.info? t).map (·.size) = some 1)) = true := by kernel_rfl
theorem row_all : (rowTs.all fun x => decide ((Try.prog.underlying x.1).map TypeDesc.isRow = some true) && decide ((Try.prog.info? x.1).map (·.size) = some x.2)) = true := by kernel_rfl
theorem one_of {t : TypeId} (h : oneTs.contains t = true) : One Try.prog t := by
  have h1 := List.all_eq_true.1 one_all t (by simpa using h)
  simp only [Bool.and_eq_true, decide_eq_true_eq] at h1
  exact h1
theorem row_of {t n : Nat} (h : rowTs.contains (t, n) = true) : RowN Try.prog t n := by
  have h1 := List.all_eq_true.1 row_all (t, n) (by simpa using h)
  simp only [Bool.and_eq_true, decide_eq_true_eq] at h1
  exact h1
theorem za30 (w : World) : (zeroValue 30).run Try.prog w = .ok (.agg (iv (List.replicate 64 0))) w := Try.zeroValue30 w
theorem za31 (w : World) : (zeroValue 31).run Try.prog w = .ok (.agg (iv (List.replicate 64 0))) w := Try.zeroValue31 w
theorem el22 : ElemT Try.prog 22 31 64 512 := ElemT.mk' (.agg #[.int .i64 0, .int .i64 0, .int .i64 0, .int .i64 0, .int .i64 0, .int .i64 0, .int .i64 0, .int .i64 0, .int .i64 0, .int .i64 0, .int .i64 0, .int .i64 0, .int .i64 0, .int .i64 0, .int .i64 0, .int .i64 0, .int .i64 0, .int .i64 0, .int .i64 0, .int .i64 0, .int .i64 0, .int .i64 0, .int .i64 0, .int .i64 0, .int .i64 0, .int .i64 0, .int .i64 0, .int .i64 0, .int .i64 0, .int .i64 0, .int .i64 0, .int .i64 0, .int .i64 0, .int .i64 0, .int .i64 0, .int .i64 0, .int .i64 0, .int .i64 0, .int .i64 0, .int .i64 0, .int .i64 0, .int .i64 0, .int .i64 0, .int .i64 0, .int .i64 0, .int .i64 0, .int .i64 0, .int .i64 0, .int .i64 0, .int .i64 0, .int .i64 0, .int .i64 0, .int .i64 0, .int .i64 0, .int .i64 0, .int .i64 0, .int .i64 0, .int .i64 0, .int .i64 0, .int .i64 0, .int .i64 0, .int .i64 0, .int .i64 0, .int .i64 0]) Try.underlying22 (by kernel_rfl) rfl (by decide)
theorem el24 : ElemT Try.prog 24 3 1 8 := ElemT.mk' (.int .i64 0) Try.underlying24 (by kernel_rfl) rfl (by decide)
theorem el46 : ElemT Try.prog 46 51 2 16 := ElemT.mk' (.agg #[.int .i64 0, .int .i64 0]) Try.underlying46 (by kernel_rfl) rfl (by decide)
theorem el47 : ElemT Try.prog 47 5 1 1 := ElemT.mk' (.int .u8 0) Try.underlying47 (by kernel_rfl) rfl (by decide)
end Go.Proofs.Ytgnpppcljpjkjaa
