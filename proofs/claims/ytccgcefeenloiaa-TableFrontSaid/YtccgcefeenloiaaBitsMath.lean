/- Lists of bits, the numbers that they write, and bytes: plain mathematics. -/
import Derived.Test.YtccgcefeenloiaaBase
namespace Go.Proofs.Ytccgcefeenloiaa
/-- The number that a list of bits writes, the highest bit first. -/
def num (l : List Bool) : Nat := l.foldl (fun a b => 2 * a + b.toNat) 0
theorem num_from (l : List Bool) : ∀ a, l.foldl (fun a b => 2 * a + b.toNat) a = a * 2 ^ l.length + num l := by
  induction l with
  | nil => intro a; simp [num]
  | cons b l ih =>
    intro a
    simp only [num, List.foldl_cons, List.length_cons]
    rw [ih, ih (2 * 0 + b.toNat), Nat.pow_succ, Nat.add_mul, Nat.mul_assoc, Nat.mul_zero, Nat.zero_add]
    have e : a * (2 ^ l.length * 2) = 2 * (a * 2 ^ l.length) := by rw [← Nat.mul_assoc, Nat.mul_comm]
    rw [e]
    omega
theorem num_append (xs ys : List Bool) : num (xs ++ ys) = num xs * 2 ^ ys.length + num ys := by
  unfold num
  rw [List.foldl_append]
  exact num_from ys _
theorem num_snoc (xs : List Bool) (b : Bool) : num (xs ++ [b]) = 2 * num xs + b.toNat := by
  rw [num_append]; simp [num, Nat.mul_comm]
theorem num_nil : num [] = 0 := rfl
theorem num_lt (l : List Bool) : num l < 2 ^ l.length := by
  induction l with
  | nil => simp [num]
  | cons b l ih =>
    have h := num_append [b] l
    simp only [List.singleton_append] at h
    rw [h, List.length_cons, Nat.pow_succ]
    have : num [b] ≤ 1 := by cases b <;> simp [num]
    have h2 : num [b] * 2 ^ l.length ≤ 1 * 2 ^ l.length := Nat.mul_le_mul_right _ this
    omega
/-- The lowest w bits of v, the highest first. -/
def bitsOf : Nat → Nat → List Bool
  | 0, _ => []
  | w + 1, v => bitsOf w (v / 2) ++ [v % 2 == 1]
theorem bitsOf_len (w : Nat) : ∀ v, (bitsOf w v).length = w := by
  induction w with
  | zero => intro v; rfl
  | succ w ih => intro v; simp [bitsOf, ih]
theorem num_bitsOf (w : Nat) : ∀ v, num (bitsOf w v) = v % 2 ^ w := by
  induction w with
  | zero => intro v; simp [bitsOf, num, Nat.mod_one]
  | succ w ih =>
    intro v
    simp only [bitsOf, num_snoc, ih]
    have h1 : (v % 2 == 1).toNat = v % 2 := by
      rcases Nat.mod_two_eq_zero_or_one v with h | h <;> simp [h]
    rw [h1, Nat.pow_succ, Nat.mul_comm (2 ^ w) 2, Nat.mod_mul]
    omega
theorem num_bitsOf_lt (w v : Nat) (h : v < 2 ^ w) : num (bitsOf w v) = v := by rw [num_bitsOf, Nat.mod_eq_of_lt h]
theorem bitsOf_num (l : List Bool) : bitsOf l.length (num l) = l := by
  generalize hn : l.length = n
  induction n generalizing l with
  | zero => have := List.eq_nil_of_length_eq_zero hn; subst this; rfl
  | succ n ih =>
    obtain ⟨l, b, rfl⟩ : ∃ m b, l = m ++ [b] := by
      have hne : l ≠ [] := by intro h; subst h; simp at hn
      exact ⟨l.dropLast, l.getLast hne, (List.dropLast_concat_getLast hne).symm⟩
    rw [num_snoc, bitsOf]
    have h1 : (2 * num l + b.toNat) / 2 = num l := by cases b <;> simp <;> omega
    have h2 : ((2 * num l + b.toNat) % 2 == 1) = b := by cases b <;> simp <;> omega
    rw [h1, h2, ih l (by simpa using hn)]
theorem num_inj (xs ys : List Bool) (hl : xs.length = ys.length) (h : num xs = num ys) : xs = ys := by
  rw [← bitsOf_num xs, ← bitsOf_num ys, hl, h]
theorem bitsOf_add (a b v : Nat) : bitsOf (a + b) v = bitsOf a (v / 2 ^ b) ++ bitsOf b v := by
  induction b generalizing v with
  | zero => simp [bitsOf]
  | succ b ih =>
    rw [← Nat.add_assoc, bitsOf, ih, bitsOf, List.append_assoc, Nat.div_div_eq_div_mul, Nat.pow_succ, Nat.mul_comm 2]
theorem bitsOf_mod (w v : Nat) : bitsOf w (v % 2 ^ w) = bitsOf w v := by
  apply num_inj
  · simp [bitsOf_len]
  · simp [num_bitsOf]
/-- A window of a list of bits, off its number. -/
theorem num_window (l : List Bool) (i n : Nat) (h : i + n ≤ l.length) : num ((l.drop i).take n) = num l / 2 ^ (l.length - i - n) % 2 ^ n := by
  have e1 : l = l.take i ++ ((l.drop i).take n ++ l.drop (i + n)) := by
    rw [← List.drop_drop, List.take_append_drop, List.take_append_drop]
  have hl3 : (l.drop (i + n)).length = l.length - i - n := by simp; omega
  have hl2 : ((l.drop i).take n).length = n := by simp; omega
  have hlt := num_lt (l.drop (i + n))
  have hlt2 := num_lt ((l.drop i).take n)
  rw [hl3] at hlt
  rw [hl2] at hlt2
  conv => rhs; rw [e1]
  have hl0 : (l.take i ++ ((l.drop i).take n ++ l.drop (i + n))).length = l.length := by rw [← e1]
  rw [hl0, num_append, num_append, List.length_append, hl2, hl3]
  generalize num (l.drop (i + n)) = z at *
  generalize num ((l.drop i).take n) = y at *
  generalize num (l.take i) = x at *
  generalize l.length - i - n = m at *
  have hp : 0 < 2 ^ m := Nat.two_pow_pos _
  rw [Nat.pow_add, ← Nat.mul_assoc, ← Nat.add_assoc, ← Nat.add_mul, Nat.add_comm, Nat.add_mul_div_right _ _ hp, Nat.div_eq_of_lt hlt, Nat.zero_add, Nat.add_comm, Nat.add_mul_mod_self_right, Nat.mod_eq_of_lt hlt2]
/-- k whole bytes of a list of bits. -/
def packs : Nat → List Bool → List Nat
  | 0, _ => []
  | k + 1, bs => num (bs.take 8) :: packs k (bs.drop 8)
theorem packs_len (k : Nat) : ∀ bs, (packs k bs).length = k := by
  induction k with
  | zero => intro; rfl
  | succ k ih => intro; simp [packs, ih]
theorem packs_succ (k : Nat) : ∀ bs : List Bool, packs (k + 1) bs = packs k bs ++ [num ((bs.drop (8 * k)).take 8)] := by
  induction k with
  | zero => intro bs; simp [packs]
  | succ k ih =>
    intro bs
    rw [packs, ih, packs, List.cons_append, List.drop_drop]
    congr 3
    rw [show 8 + 8 * k = 8 * (k + 1) by omega]
theorem packs_append (k : Nat) : ∀ (bs cs : List Bool), 8 * k ≤ bs.length → packs k (bs ++ cs) = packs k bs := by
  induction k with
  | zero => intros; rfl
  | succ k ih =>
    intro bs cs h
    rw [packs, packs, List.take_append_of_le_length (by omega), List.drop_append_of_le_length (by omega), ih _ _ (by simp; omega)]
theorem packs_lt (k : Nat) : ∀ bs, ∀ x ∈ packs k bs, x < 256 := by
  induction k with
  | zero => intro bs x hx; simp [packs] at hx
  | succ k ih =>
    intro bs x hx
    rw [packs, List.mem_cons] at hx
    rcases hx with rfl | hx
    · have h := num_lt (bs.take 8)
      have h2 : (bs.take 8).length ≤ 8 := by simp; omega
      have h3 : 2 ^ (bs.take 8).length ≤ 2 ^ 8 := Nat.pow_le_pow_right (by omega) h2
      omega
    · exact ih _ x hx
/-- The bits of bytes. -/
def unpack (l : List Nat) : List Bool := l.flatMap (bitsOf 8)
theorem unpack_len (l : List Nat) : (unpack l).length = 8 * l.length := by
  induction l with
  | nil => rfl
  | cons x l ih => simp [unpack, bitsOf_len] at *; omega
theorem unpack_append (a b : List Nat) : unpack (a ++ b) = unpack a ++ unpack b := by simp [unpack]
theorem unpack_packs (k : Nat) : ∀ bs : List Bool, 8 * k ≤ bs.length → unpack (packs k bs) = bs.take (8 * k) := by
  induction k with
  | zero => intro bs _; rfl
  | succ k ih =>
    intro bs h
    have h8 : (bs.take 8).length = 8 := by simp; omega
    have e : bitsOf 8 (num (bs.take 8)) = bs.take 8 := by
      have := bitsOf_num (bs.take 8)
      rwa [h8] at this
    simp only [packs, unpack, List.flatMap_cons] at *
    rw [e, ih _ (by simp; omega), show 8 * (k + 1) = 8 + 8 * k by omega, List.take_add]
theorem packs_unpack (l : List Nat) (h : ∀ x ∈ l, x < 256) : packs l.length (unpack l) = l := by
  induction l with
  | nil => rfl
  | cons x l ih =>
    have hx := h x (by simp)
    simp only [unpack, List.flatMap_cons, List.length_cons, packs] at *
    rw [List.take_left' (bitsOf_len 8 x), List.drop_left' (bitsOf_len 8 x), num_bitsOf, ih (fun y hy => h y (by simp [hy])), Nat.mod_eq_of_lt (by omega)]
/-- The bytes of a list of bits: the rest is ones. -/
def padding (bs : List Bool) : List Bool := List.replicate ((8 - bs.length % 8) % 8) true
def bytesOf (bs : List Bool) : List Nat := packs ((bs.length + 7) / 8) (bs ++ padding bs)
theorem padding_len (bs : List Bool) : (bs ++ padding bs).length = 8 * ((bs.length + 7) / 8) := by
  simp [padding]; omega
theorem bytesOf_len (bs : List Bool) : (bytesOf bs).length = (bs.length + 7) / 8 := packs_len _ _
theorem unpack_bytesOf (bs : List Bool) : unpack (bytesOf bs) = bs ++ padding bs := by
  rw [bytesOf, unpack_packs _ _ (by rw [padding_len]; exact Nat.le_refl _), ← padding_len, List.take_length]
theorem bytesOf_lt (bs : List Bool) : ∀ x ∈ bytesOf bs, x < 256 := packs_lt _ _
/-- The bit at a place of bytes. -/
theorem bitsOf_get (w v i : Nat) (h : i < w) : (bitsOf w v)[i]? = some (v / 2 ^ (w - 1 - i) % 2 == 1) := by
  induction w generalizing v i with
  | zero => omega
  | succ w ih =>
    rw [bitsOf]
    by_cases hi : i < w
    · rw [List.getElem?_append_left (by rw [bitsOf_len]; exact hi), ih _ _ hi, Nat.div_div_eq_div_mul, ← Nat.pow_succ']
      rw [show (w - 1 - i).succ = w + 1 - 1 - i by omega]
    · have : i = w := by omega
      subst this
      rw [List.getElem?_append_right (by rw [bitsOf_len]; exact Nat.le_refl _), bitsOf_len]
      simp
theorem unpack_get (l : List Nat) (i : Nat) (h : i < 8 * l.length) : (unpack l)[i]? = some (l.getD (i / 8) 0 / 2 ^ (7 - i % 8) % 2 == 1) := by
  induction l generalizing i with
  | nil => simp at h
  | cons x l ih =>
    simp only [unpack, List.flatMap_cons] at *
    by_cases hi : i < 8
    · rw [List.getElem?_append_left (by rw [bitsOf_len]; exact hi), bitsOf_get 8 x i hi]
      have h1 : i / 8 = 0 := by omega
      have h2 : i % 8 = i := by omega
      simp [h1, h2]
    · rw [List.getElem?_append_right (by rw [bitsOf_len]; omega), bitsOf_len, ih (i - 8) (by simp at h; omega)]
      have h1 : i / 8 = (i - 8) / 8 + 1 := by omega
      have h2 : (i - 8) % 8 = i % 8 := by omega
      rw [h1, h2, List.getD_cons_succ]
end Go.Proofs.Ytccgcefeenloiaa
