/- The types of this translation: which take one cell, how many the others take, what a slice's elements are. -/
import Derived.Test.YtbihmbkkoidnbaaProg
import Derived.Test.YtbihmbkkoidnbaaOp
namespace Go.Proofs.Ytbihmbkkoidnbaa
def oneTs : List Nat := [1, 2, 3, 4, 5, 6, 9, 10, 11, 12, 15, 16, 17, 20, 21, 24, 25, 26, 27, 29, 30, 31, 32, 33, 34, 35, 36, 38, 40, 41, 42, 43, 45, 46, 48, 49, 50, 52, 53, 54, 55, 56, 57, 60, 61, 62, 63, 64, 65, 66, 67, 68, 74, 75, 76, 77, 78, 79, 82]
def rowTs : List (Nat × Nat) := [(7, 4), (8, 4), (13, 2), (14, 2), (18, 1), (19, 1), (22, 64), (23, 64), (58, 2), (59, 2), (69, 4), (70, 4), (80, 11), (81, 11)]
theorem one_all : (oneTs.all fun t => decide ((Try.prog.underlying t).map TypeDesc.isRow = some false) && decide ((Try.prog.info? t).map (·.size) = some 1)) = true := by kernel_rfl
theorem row_all : (rowTs.all fun x => decide ((Try.prog.underlying x.1).map TypeDesc.isRow = some true) && decide ((Try.prog.info? x.1).map (·.size) = some x.2)) = true := by kernel_rfl
theorem one_of {t : TypeId} (h : oneTs.contains t = true) : One Try.prog t := by
  have h1 := List.all_eq_true.1 one_all t (by simpa using h)
  simp only [Bool.and_eq_true, decide_eq_true_eq] at h1
  exact h1
theorem row_of {t n : Nat} (h : rowTs.contains (t, n) = true) : RowN Try.prog t n := by
  have h1 := List.all_eq_true.1 row_all (t, n) (by simpa using h)
  simp only [Bool.and_eq_true, decide_eq_true_eq] at h1
  exact h1
theorem za22 (w : World) : (zeroValue 22).run Try.prog w = .ok (.agg (iv (List.replicate 64 0))) w := Try.zeroValue22 w
theorem za23 (w : World) : (zeroValue 23).run Try.prog w = .ok (.agg (iv (List.replicate 64 0))) w := Try.zeroValue23 w
theorem el24 : ElemT Try.prog 24 3 1 8 := ElemT.mk' (.int .i64 0) Try.underlying24 (by kernel_rfl) rfl (by decide)
theorem el46 : ElemT Try.prog 46 23 64 512 := ElemT.mk' (.agg #[.int .i64 0, .int .i64 0, .int .i64 0, .int .i64 0, .int .i64 0, .int .i64 0, .int .i64 0, .int .i64 0, .int .i64 0, .int .i64 0, .int .i64 0, .int .i64 0, .int .i64 0, .int .i64 0, .int .i64 0, .int .i64 0, .int .i64 0, .int .i64 0, .int .i64 0, .int .i64 0, .int .i64 0, .int .i64 0, .int .i64 0, .int .i64 0, .int .i64 0, .int .i64 0, .int .i64 0, .int .i64 0, .int .i64 0, .int .i64 0, .int .i64 0, .int .i64 0, .int .i64 0, .int .i64 0, .int .i64 0, .int .i64 0, .int .i64 0, .int .i64 0, .int .i64 0, .int .i64 0, .int .i64 0, .int .i64 0, .int .i64 0, .int .i64 0, .int .i64 0, .int .i64 0, .int .i64 0, .int .i64 0, .int .i64 0, .int .i64 0, .int .i64 0, .int .i64 0, .int .i64 0, .int .i64 0, .int .i64 0, .int .i64 0, .int .i64 0, .int .i64 0, .int .i64 0, .int .i64 0, .int .i64 0, .int .i64 0, .int .i64 0, .int .i64 0]) Try.underlying46 (by kernel_rfl) rfl (by decide)
end Go.Proofs.Ytbihmbkkoidnbaa
