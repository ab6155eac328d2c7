/- The types of this translation: which take one cell, how many the others take, what a slice's elements are. -/
import Derived.Test.YtembekkanggciaaProg
import Derived.Test.YtembekkanggciaaOp
namespace Go.Proofs.Ytembekkanggciaa
def oneTs : List Nat := [1, 2, 3, 4, 5, 6, 9, 10, 11, 12, 15, 16, 17, 20, 21, 23, 26, 27, 29, 31, 32, 33, 35, 38, 39, 40, 41, 43, 44, 45, 46, 49, 50, 51, 52, 53, 54, 55, 56, 57, 58, 59, 60, 61, 62, 63, 64, 65, 66, 67, 68, 74, 75, 76, 77, 78, 79, 80, 81, 84]
def rowTs : List (Nat × Nat) := [(7, 4), (8, 4), (13, 2), (14, 2), (18, 1), (19, 1), (22, 16), (24, 17), (25, 17), (36, 3), (37, 3), (47, 2), (48, 2), (69, 4), (70, 4), (82, 11), (83, 11)]
theorem one_all : (oneTs.all fun t => decide ((Try.prog.underlying t).map TypeDesc.isRow = some false) && decide ((Try.prog.info? t).map (·.size) = some 1)) = true := by kernel_rfl
theorem row_all : (rowTs.all fun x => decide ((Try.prog.underlying x.1).map TypeDesc.isRow = some true) && decide ((Try.prog.info? x.1).map (·.size) = some x.2)) = true := by kernel_rfl
theorem one_of {t : TypeId} (h : oneTs.contains t = true) : One Try.prog t := by
  have h1 := List.all_eq_true.1 one_all t (by simpa using h)
  simp only [Bool.and_eq_true, decide_eq_true_eq] at h1
  exact h1
theorem row_of {t n : Nat} (h : rowTs.contains (t, n) = true) : RowN Try.prog t n := by
  have h1 := List.all_eq_true.1 row_all (t, n) (by simpa using h)
  simp only [Bool.and_eq_true, decide_eq_true_eq] at h1
  exact h1
theorem za22 (w : World) : (zeroValue 22).run Try.prog w = .ok (.agg (iv (List.replicate 16 0))) w := Try.zeroValue22 w
theorem el23 : ElemT Try.prog 23 3 1 8 := ElemT.mk' (.int .i64 0) Try.underlying23 (by kernel_rfl) rfl (by decide)
theorem el33 : ElemT Try.prog 33 37 3 24 := ElemT.mk' (.agg #[.int .i64 0, .int .i64 0, .int .i64 0]) Try.underlying33 (by kernel_rfl) rfl (by decide)
theorem el49 : ElemT Try.prog 49 48 2 32 := ElemT.mk' (.agg #[.int .i64 0, .slice none 0 0]) Try.underlying49 (by kernel_rfl) rfl (by decide)
theorem el60 : ElemT Try.prog 60 23 1 24 := ElemT.mk' (.slice none 0 0) Try.underlying60 (by kernel_rfl) rfl (by decide)
end Go.Proofs.Ytembekkanggciaa
