/- Blocks as tokens: the plain law. -/
import Derived.Test.YtccgcefeenloiaaSize
import Derived.Test.YtccgcefeenloiaaZig
import Derived.Test.YtccgcefeenloiaaMem2
namespace Go.Proofs.Ytccgcefeenloiaa
set_option linter.unusedVariables false
abbrev Tok := Int × Int × Int
def flt (l : List Tok) : List Int := l.flatMap fun x => [x.1, x.2.1, x.2.2]
theorem flt_len (l : List Tok) : (flt l).length = l.length * 3 := by
  induction l with
  | nil => rfl
  | cons x l ih => simp only [flt, List.flatMap_cons, List.length_append, List.length_cons, List.length_nil] at *; omega
theorem flt_app (l m : List Tok) : flt (l ++ m) = flt l ++ flt m := by simp [flt]
theorem flt_snoc (l : List Tok) (x : Tok) : flt (l ++ [x]) = flt l ++ [x.1, x.2.1, x.2.2] := by simp [flt]
theorem flt_get : ∀ (l : List Tok) (k : Nat) (x : Tok), l[k]? = some x → ((flt l).drop (k * 3)).take 3 = [x.1, x.2.1, x.2.2]
  | [], k, x, h => by simp at h
  | y :: l, 0, x, h => by
    obtain rfl : y = x := by simpa using h
    simp [flt]
  | y :: l, k + 1, x, h => by
    have := flt_get l k x (by simpa using h)
    rw [show (k + 1) * 3 = k * 3 + 3 by omega]
    simp only [flt, List.flatMap_cons] at *
    rw [List.drop_append, List.drop_of_length_le (by simp)]
    simpa using this
theorem flt_drop : ∀ (l : List Tok) (k : Nat), (flt l).drop (k * 3) = flt (l.drop k)
  | l, 0 => by simp
  | [], k + 1 => by simp [flt]
  | y :: l, k + 1 => by
    have := flt_drop l k
    rw [show (k + 1) * 3 = k * 3 + 3 by omega]
    simp only [flt, List.flatMap_cons, List.drop_succ_cons] at *
    rw [List.drop_append, List.drop_of_length_le (by simp)]
    simpa using this
theorem flt_inj : ∀ {l m : List Tok}, flt l = flt m → l = m
  | [], [], _ => rfl
  | [], y :: m, h => by simp [flt] at h
  | x :: l, [], h => by simp [flt] at h
  | x :: l, y :: m, h => by
    simp only [flt, List.flatMap_cons, List.cons_append, List.nil_append, List.cons.injEq] at h
    obtain ⟨h1, h2, h3, h4⟩ := h
    have := flt_inj (l := l) (m := m) h4
    rw [this]
    congr 1
    exact Prod.ext h1 (Prod.ext h2 h3)
/-- The tokens of ints in a row. -/
def unflt : List Int → List Tok
  | x :: y :: z :: r => (x, y, z) :: unflt r
  | _ => []
theorem flt_unflt : ∀ (n : Nat) (l : List Int), l.length = n * 3 → flt (unflt l) = l ∧ (unflt l).length = n
  | 0, l, h => by
    have : l = [] := by simpa using h
    subst this; exact ⟨rfl, rfl⟩
  | n + 1, x :: y :: z :: r, h => by
    obtain ⟨h1, h2⟩ := flt_unflt n r (by simp at h; omega)
    refine ⟨?_, by simp [unflt, h2]⟩
    show [x, y, z] ++ flt (unflt r) = _
    rw [h1]; rfl
  | n + 1, [x, y], h => by simp at h; omega
  | n + 1, [x], h => by simp at h; omega
  | n + 1, [], h => by simp at h
/-- The token of a number behind r noughts. -/
def tok (r : Nat) (n : Int) : Tok := (((r * 16 + sz n : Nat) : Int), (sz n : Int), sv n)
def longT : Tok := (240, 0, 0)
def endT : Tok := (0, 0, 0)
/-- The tokens of numbers, when r noughts are ahead. -/
def tks : Nat → List Int → List Tok
  | r, [] => if 0 < r then [endT] else []
  | r, n :: l => if n = 0 then tks (r + 1) l else List.replicate (r / 16) longT ++ (tok (r % 16) n :: tks 0 l)
def toksOf (before : Int) (z : List Int) : List Tok := tok 0 (nth z 0 - before) :: tks 0 (z.drop 1)
theorem sz_le11 (n : Int) (h : -2048 < n ∧ n < 2048) : sz n ≤ 11 := blen_le _ 11 (by omega)
theorem sz_pos (n : Int) (h : n ≠ 0) : 1 ≤ sz n := by
  obtain ⟨_, h2⟩ := blen_spec n.natAbs
  exact (h2 (by omega)).1
theorem sz_zero : sz 0 = 0 := by simp [sz, blen]
theorem sv_zero : sv 0 = 0 := by simp [sv]
theorem tks_len : ∀ (l : List Int) (r : Nat), (tks r l).length ≤ r + l.length
  | [], r => by
    rw [tks]; split <;> simp
    omega
  | n :: l, r => by
    rw [tks]
    split
    · have := tks_len l (r + 1); simp only [List.length_cons]; omega
    · have := tks_len l 0
      simp only [List.length_append, List.length_replicate, List.length_cons]
      omega
theorem toks_len (before : Int) (z : List Int) (h : z.length = 64) : 1 ≤ (toksOf before z).length ∧ (toksOf before z).length ≤ 64 := by
  have := tks_len (z.drop 1) 0
  simp only [toksOf, List.length_cons, List.length_drop] at *
  omega
end Go.Proofs.Ytccgcefeenloiaa
