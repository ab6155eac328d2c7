/- Plain laws on sums and on the transform. -/
import Derived.Test.YtgnpppcljpjkjaaWave3
namespace Go.Proofs.Ytgnpppcljpjkjaa
open Go.RowKit
set_option linter.unusedVariables false
theorem sm_add (f g : Nat → Int) (n : Nat) : sm (fun i => f i + g i) n = sm f n + sm g n := by
  induction n with
  | zero => rfl
  | succ n ih => simp only [sm]; rw [ih]; omega
theorem sm_neg (f : Nat → Int) (n : Nat) : sm (fun i => - f i) n = - sm f n := by
  induction n with
  | zero => rfl
  | succ n ih => simp only [sm]; rw [ih]; omega
theorem sm_zero {f : Nat → Int} {n : Nat} (h : ∀ i, i < n → f i = 0) : sm f n = 0 := by
  induction n with
  | zero => rfl
  | succ n ih => simp only [sm]; rw [ih fun i hi => h i (by omega), h n (by omega)]; rfl
theorem sm_mulr (f : Nat → Int) (c : Int) (n : Nat) : sm (fun i => f i * c) n = sm f n * c := by
  induction n with
  | zero => simp [sm]
  | succ n ih => simp only [sm]; rw [ih, Int.add_mul]
theorem sm_mull (f : Nat → Int) (c : Int) (n : Nat) : sm (fun i => c * f i) n = c * sm f n := by
  induction n with
  | zero => simp [sm]
  | succ n ih => simp only [sm]; rw [ih, Int.mul_add]
theorem sm_swap (F : Nat → Nat → Int) (n m : Nat) : sm (fun r => sm (fun k => F r k) m) n = sm (fun k => sm (fun r => F r k) n) m := by
  induction n with
  | zero => exact (sm_zero fun i _ => rfl).symm
  | succ n ih => simp only [sm]; rw [ih, ← sm_add]
theorem sm_one {f : Nat → Int} {n a : Nat} (ha : a < n) (h : ∀ i, i < n → i ≠ a → f i = 0) : sm f n = f a := by
  induction n with
  | zero => omega
  | succ n ih =>
    simp only [sm]
    by_cases h1 : a = n
    · subst h1; rw [sm_zero fun i hi => h i (by omega) (by omega)]; omega
    · rw [ih (by omega) fun i hi => h i (by omega), h n (by omega) (by omega)]; omega
/-- One side, then both. -/
def iN (cf : Int → Int → Int) (b : List Int) (j r : Nat) : Int := sm (fun k => nth b (8 * r + k) * cf j k) 8
def dD (cf : Int → Int → Int) (b : List Int) (i j : Nat) : Int := sm (fun r => iN cf b j r * cf i r) 8
theorem nth_al2 (cf : Int → Int → Int) (b : List Int) (p : Nat) (hp : p < 64) : nth (alL (alL b cf) cf) p = dD cf b (p / 8) (p % 8) := by
  rw [alL, nth_tab _ _ _ hp, alV, dD]
  refine sm_congr fun r hr => ?_
  rw [alF, alL, nth_tab _ _ _ (by omega), alV, iN]
  congr 1
  refine sm_congr fun k hk => ?_
  rw [alF, show (8 * (p % 8) + r) % 8 = r by omega, show (8 * (p % 8) + r) / 8 = p % 8 by omega]
theorem wvV_eq (cf : Int → Int → Int) (b : List Int) (p : Nat) (hp : p < 64) : wvV cf b p = rnd (dD cf b (p / 8) (p % 8)) 67108864 := by rw [wvV, nth_al2 _ _ _ hp]
theorem nth_wvR (cf : Int → Int → Int) (b : List Int) (h : wvOk b = true) (p : Nat) (hp : p < 64) : nth (wvR cf b) p = rnd (dD cf b (p / 8) (p % 8)) 67108864 := by
  rw [wvR, if_pos h, nth_tab _ _ _ hp, wvV_eq _ _ _ hp]
theorem nth_wvR0 (cf : Int → Int → Int) (b : List Int) (h : wvOk b = false) (p : Nat) : nth (wvR cf b) p = 0 := by
  rw [wvR, h]; exact nth_zeros _ _
theorem wvOk_iff (b : List Int) (hb : b.length = 64) : wvOk b = true ↔ ∀ i, i < 64 → -40000 ≤ nth b i ∧ nth b i ≤ 40000 := by
  unfold wvOk; rw [allIn_iff, hb]
theorem dD_congr {cf : Int → Int → Int} {b c : List Int} (h : ∀ p, p < 64 → nth b p = nth c p) (i j : Nat) : dD cf b i j = dD cf c i j := by
  refine sm_congr fun r hr => ?_
  congr 1
  exact sm_congr fun k hk => by rw [h _ (by omega)]
theorem dD_neg {cf : Int → Int → Int} {b c : List Int} (h : ∀ p, p < 64 → nth b p = - nth c p) (i j : Nat) : dD cf b i j = - dD cf c i j := by
  unfold dD
  rw [← sm_neg]
  refine sm_congr fun r hr => ?_
  rw [← Int.neg_mul]
  congr 1
  unfold iN
  rw [← sm_neg]
  exact sm_congr fun k hk => by rw [h _ (by omega), Int.neg_mul]
theorem dD_add {cf : Int → Int → Int} {a b c : List Int} (h : ∀ p, p < 64 → nth a p = nth b p + nth c p) (i j : Nat) : dD cf a i j = dD cf b i j + dD cf c i j := by
  unfold dD
  rw [← sm_add]
  refine sm_congr fun r hr => ?_
  rw [← Int.add_mul]
  congr 1
  unfold iN
  rw [← sm_add]
  exact sm_congr fun k hk => by rw [h _ (by omega), Int.add_mul]
theorem dD_across {cf : Int → Int → Int} {b c : List Int} (h : ∀ r k, r < 8 → k < 8 → nth b (8 * r + k) = nth c (8 * k + r)) (i j : Nat) : dD cf b i j = dD cf c j i := by
  have e1 : dD cf b i j = sm (fun r => sm (fun k => nth c (8 * k + r) * cf j k * cf i r) 8) 8 := by
    unfold dD iN
    refine sm_congr fun r hr => ?_
    rw [← sm_mulr]
    exact sm_congr fun k hk => by rw [h r k hr hk]
  have e2 : dD cf c j i = sm (fun r => sm (fun k => nth c (8 * r + k) * cf i k * cf j r) 8) 8 := by
    unfold dD iN
    refine sm_congr fun r hr => ?_
    rw [← sm_mulr]
  rw [e1, sm_swap, e2]
  refine sm_congr fun r hr => sm_congr fun k hk => ?_
  rw [Int.mul_assoc, Int.mul_assoc, Int.mul_comm (cf j r)]
theorem bas_mirror : ∀ j : Nat, j < 8 → ∀ k : Nat, k < 8 → basV j (7 - k : Nat) = if j % 2 = 0 then basV j k else - basV j k := by decide +kernel
theorem iN_mirror {b c : List Int} (h : ∀ r k, r < 8 → k < 8 → nth b (8 * r + k) = nth c (8 * r + (7 - k))) (j r : Nat) (hj : j < 8) (hr : r < 8) : iN basV b j r = if j % 2 = 0 then iN basV c j r else - iN basV c j r := by
  have e : ∀ f : Nat → Int, sm f 8 = f 0 + f 1 + f 2 + f 3 + f 4 + f 5 + f 6 + f 7 := fun f => by simp [sm]
  have hm := bas_mirror j hj
  unfold iN
  rw [e, e, h r 0 hr (by omega), h r 1 hr (by omega), h r 2 hr (by omega), h r 3 hr (by omega), h r 4 hr (by omega), h r 5 hr (by omega), h r 6 hr (by omega), h r 7 hr (by omega)]
  have m0 := hm 0 (by omega)
  have m1 := hm 1 (by omega)
  have m2 := hm 2 (by omega)
  have m3 := hm 3 (by omega)
  simp only [Nat.reduceSub] at m0 m1 m2 m3 ⊢
  rw [m0, m1, m2, m3]
  split
  · omega
  · simp only [Int.mul_neg]; omega
theorem dD_mirror {b c : List Int} (h : ∀ r k, r < 8 → k < 8 → nth b (8 * r + k) = nth c (8 * r + (7 - k))) (i j : Nat) (hj : j < 8) : dD basV b i j = if j % 2 = 0 then dD basV c i j else - dD basV c i j := by
  unfold dD
  split
  · rename_i h0
    refine sm_congr fun r hr => ?_
    rw [iN_mirror h j r hj hr, if_pos h0]
  · rename_i h0
    rw [← sm_neg]
    refine sm_congr fun r hr => ?_
    rw [iN_mirror h j r hj hr, if_neg h0, Int.neg_mul]
theorem bas_sum : ∀ j : Nat, j < 8 → 1 ≤ j → sm (fun k => basV j k) 8 = 0 := by decide +kernel
/-- Rows that are all the same. -/
theorem dD_rows {b : List Int} (h : ∀ r k, r < 8 → k < 8 → nth b (8 * r + k) = nth b k) (i j : Nat) (hi : i < 8) (h1 : 1 ≤ i) : dD basV b i j = 0 := by
  have : dD basV b i j = sm (fun r => iN basV b j 0 * basV i r) 8 := by
    refine sm_congr fun r hr => ?_
    congr 1
    exact sm_congr fun k hk => by rw [h r k hr hk]; simp
  rw [this, sm_mull, bas_sum i hi h1, Int.mul_zero]
theorem dD_cols {b : List Int} {n : Int} (h : ∀ p, p < 64 → nth b p = n) (i j : Nat) (hj : j < 8) (h1 : 1 ≤ j) : dD basV b i j = 0 := by
  unfold dD
  refine sm_zero fun r hr => ?_
  have : iN basV b j r = 0 := by
    have : iN basV b j r = sm (fun k => n * basV j k) 8 := sm_congr fun k hk => by rw [h _ (by omega)]
    rw [this, sm_mull, bas_sum j hj h1, Int.mul_zero]
  rw [this, Int.zero_mul]
theorem dD_flat {b : List Int} {n : Int} (h : ∀ p, p < 64 → nth b p = n) : dD basV b 0 0 = n * 536756224 := by
  have e1 : ∀ r, r < 8 → iN basV b 0 r = n * 23168 := fun r hr => by
    have : iN basV b 0 r = sm (fun k => n * basV 0 k) 8 := sm_congr fun k hk => by rw [h _ (by omega)]; rfl
    rw [this, sm_mull]; congr 1
  have : dD basV b 0 0 = sm (fun r => n * 23168 * basV 0 r) 8 := sm_congr fun r hr => by rw [e1 r hr]; rfl
  rw [this, sm_mull, show sm (fun r => basV 0 r) 8 = 23168 by decide +kernel, Int.mul_assoc, show (23168 * 23168 : Int) = 536756224 from rfl]
/-- One number alone. -/
theorem dD_single {cf : Int → Int → Int} {b : List Int} {n : Int} {a : Nat} (ha : a < 64) (h : ∀ p, p < 64 → nth b p = if p = a then n else 0) (i j : Nat) : dD cf b i j = n * cf j (a % 8 : Nat) * cf i (a / 8 : Nat) := by
  have e1 : iN cf b j (a / 8) = n * cf j (a % 8 : Nat) := by
    unfold iN
    rw [sm_one (a := a % 8) (by omega) fun k hk hne => by rw [h _ (by omega), if_neg (by omega), Int.zero_mul], h _ (by omega), if_pos (by omega)]
  unfold dD
  rw [sm_one (a := a / 8) (by omega) fun r hr hne => ?_, e1]
  have : iN cf b j r = 0 := sm_zero fun k hk => by rw [h _ (by omega), if_neg (by omega), Int.zero_mul]
  rw [this, Int.zero_mul]
theorem rnd_add (x y d : Int) (hd : 0 < d) : -1 ≤ rnd (x + y) d - rnd x d - rnd y d ∧ rnd (x + y) d - rnd x d - rnd y d ≤ 1 := by
  have key : ∀ n, -d ≤ 2 * (rnd n d * d) - 2 * n ∧ 2 * (rnd n d * d) - 2 * n ≤ d := fun n => by
    unfold rnd
    split
    · have h1 := Int.mul_ediv_add_emod (2 * (-n) + d) (2 * d)
      have h2 := Int.emod_nonneg (2 * (-n) + d) (b := 2 * d) (by omega)
      have h3 := Int.emod_lt_of_pos (2 * (-n) + d) (b := 2 * d) (by omega)
      have e : 2 * (-((2 * (-n) + d) / (2 * d)) * d) = -(2 * d * ((2 * (-n) + d) / (2 * d))) := by
        rw [Int.neg_mul, Int.mul_neg, Int.mul_comm _ d, Int.mul_assoc]
      rw [e]; omega
    · have h1 := Int.mul_ediv_add_emod (2 * n + d) (2 * d)
      have h2 := Int.emod_nonneg (2 * n + d) (b := 2 * d) (by omega)
      have h3 := Int.emod_lt_of_pos (2 * n + d) (b := 2 * d) (by omega)
      have e : 2 * ((2 * n + d) / (2 * d) * d) = 2 * d * ((2 * n + d) / (2 * d)) := by
        rw [Int.mul_comm _ d, Int.mul_assoc]
      rw [e]; omega
  have k1 := key (x + y)
  have k2 := key x
  have k3 := key y
  have e : (rnd (x + y) d - rnd x d - rnd y d) * d = rnd (x + y) d * d - rnd x d * d - rnd y d * d := by rw [Int.sub_mul, Int.sub_mul]
  generalize rnd (x + y) d - rnd x d - rnd y d = t at *
  constructor
  · by_cases h : -1 ≤ t
    · exact h
    · have := Int.mul_le_mul_of_nonneg_right (show t ≤ -2 by omega) (show 0 ≤ d by omega); omega
  · by_cases h : t ≤ 1
    · exact h
    · have := Int.mul_le_mul_of_nonneg_right (show 2 ≤ t by omega) (show 0 ≤ d by omega); omega
end Go.Proofs.Ytgnpppcljpjkjaa
