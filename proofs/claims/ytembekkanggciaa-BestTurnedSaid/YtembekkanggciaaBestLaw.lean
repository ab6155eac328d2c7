/- What best.Make's table is: valid, with words of the lengths that packages gave; and what any table costs. -/
import Derived.Test.YtembekkanggciaaMake2
namespace Go.Proofs.Ytembekkanggciaa
set_option linter.unusedVariables false
/-- Symbols that come. -/
def posL (c : List Int) (n : Nat) : List Int := ((List.range n).filter fun s => decide (0 < nth c s)).map fun (s : Nat) => (s : Int)
def wOf (c : List Int) (s : Int) : Int := if s = -1 then 0 else nth c s.toNat
theorem posL_mem (c : List Int) (n : Nat) (s : Int) : s ∈ posL c n ↔ 0 ≤ s ∧ s < n ∧ 0 < nth c s.toNat := by
  unfold posL
  simp only [List.mem_map, List.mem_filter, List.mem_range, decide_eq_true_eq]
  constructor
  · rintro ⟨a, ⟨h1, h2⟩, rfl⟩; exact ⟨by omega, by omega, by simpa using h2⟩
  · intro ⟨h1, h2, h3⟩; exact ⟨s.toNat, ⟨by omega, h3⟩, by omega⟩
theorem posL_nodup (c : List Int) (n : Nat) : (posL c n).Nodup := by
  unfold posL
  rw [List.nodup_iff_pairwise_ne, List.pairwise_map]
  refine List.Pairwise.imp ?_ (List.Pairwise.filter _ List.nodup_range)
  intro a b h e
  exact h (by omega)
theorem sgs_sing (c : List Int) (n : Nat) : Sing (sgs c n) (-1 :: posL c n) := by
  refine ⟨?_, List.nodup_cons.2 ⟨fun h => by have := (posL_mem c n _).1 h; omega, posL_nodup c n⟩⟩
  unfold sgs posL
  simp [List.map_map, Function.comp_def]
theorem sgs_w (c : List Int) (n : Nat) : ∀ x ∈ sgs c n, x.1 = isum (wOf c) x.2 := by
  intro x hx
  rcases List.mem_cons.1 hx with rfl | hx
  · simp [isum, wOf]
  · obtain ⟨s, _, rfl⟩ := List.mem_map.1 hx
    simp only [isum, List.map_cons, List.map_nil, List.sum_cons, List.sum_nil, wOf]
    rw [if_neg (by omega)]; simp
/-- Sums over the rows of words. -/
theorem nx_sum (c : Nat → Nat) : ∀ k, k ≤ 16 → nx c k * 2 ^ (16 - k) = sm (fun i => c i * 2 ^ (15 - i)) k
  | 0, _ => by simp [nx, sm]
  | k + 1, h => by
    have ih := nx_sum c k (by omega)
    rw [sm, ← ih, nx, Nat.add_mul, show 16 - k = (16 - (k + 1)) + 1 by omega, show 16 - (k + 1) = 15 - k by omega, Nat.pow_succ]
    rw [Nat.mul_comm 2 (nx c k), Nat.mul_assoc, Nat.mul_comm 2 (2 ^ (15 - k))]
theorem sm_addf (a b : Nat → Nat) : ∀ k, sm (fun i => a i + b i) k = sm a k + sm b k
  | 0 => rfl
  | k + 1 => by simp only [sm]; rw [sm_addf a b k]; omega
theorem sm_congrf {a b : Nat → Nat} : ∀ k, (∀ i, i < k → a i = b i) → sm a k = sm b k
  | 0, _ => rfl
  | k + 1, h => by simp only [sm]; rw [sm_congrf k fun i hi => h i (by omega), h k (by omega)]
def bit16 (l : Nat) : Nat := if 1 ≤ l then 2 ^ (16 - l) else 0
theorem one_row (l : Nat) (h : l ≤ 16) : sm (fun i => (if l = i + 1 then 1 else 0) * 2 ^ (15 - i)) 16 = bit16 l := by
  have : ∀ l, l < 17 → sm (fun i => (if l = i + 1 then 1 else 0) * 2 ^ (15 - i)) 16 = bit16 l := by decide
  exact this l (by omega)
theorem rows_sum (f : Int → Nat) (hf : ∀ s, f s ≤ 16) : ∀ n, sm (fun i => (symsK f n (i + 1)).length * 2 ^ (15 - i)) 16 = nsum (fun s : Nat => bit16 (f (s : Int))) (List.range n)
  | 0 => by simp [symsK, nsum]; decide
  | n + 1 => by
    rw [List.range_succ, nsum_append, ← rows_sum f hf n]
    have : nsum (fun s : Nat => bit16 (f (s : Int))) [n] = bit16 (f (n : Int)) := by simp [nsum]
    rw [this, ← one_row _ (hf _), ← sm_addf]
    refine sm_congrf 16 fun i hi => ?_
    rw [symsK_succ, ← Nat.add_mul]
    by_cases h : f (n : Int) = i + 1
    · rw [if_pos h, if_pos h, List.length_append]; rfl
    · rw [if_neg h, if_neg h]; rfl
theorem nsum_map {α β : Type} (g : α → β) (f : β → Nat) (l : List α) : nsum f (l.map g) = nsum (fun x => f (g x)) l := by
  unfold nsum; rw [List.map_map]; rfl
theorem isum_map {α β : Type} (g : α → β) (f : β → Int) (l : List α) : isum f (l.map g) = isum (fun x => f (g x)) l := by
  unfold isum; rw [List.map_map]; rfl
theorem nsum_filter {α : Type} (p : α → Bool) (f : α → Nat) (l : List α) (h : ∀ x ∈ l, p x = false → f x = 0) : nsum f (l.filter p) = nsum f l := by
  induction l with
  | nil => rfl
  | cons x l ih =>
    have ih := ih fun y hy => h y (by simp [hy])
    rw [List.filter_cons]
    by_cases hp : p x = true
    · rw [if_pos hp, nsum_cons, nsum_cons, ih]
    · rw [if_neg hp, nsum_cons, ih, h x (by simp) (by simpa using hp), Nat.zero_add]
theorem isum_filter {α : Type} (p : α → Bool) (f : α → Int) (l : List α) (h : ∀ x ∈ l, p x = false → f x = 0) : isum f (l.filter p) = isum f l := by
  induction l with
  | nil => rfl
  | cons x l ih =>
    have ih := ih fun y hy => h y (by simp [hy])
    rw [List.filter_cons]
    by_cases hp : p x = true
    · rw [if_pos hp, isum_cons, isum_cons, ih]
    · rw [if_neg hp, isum_cons, ih, h x (by simp) (by simpa using hp), Int.zero_add]
/-- What counts cost by these lengths. -/
def costL (c : List Int) (n : Nat) (l : Int → Nat) : Int := isum (fun s : Nat => nth c s * (l (s : Int) : Nat)) (List.range n)
/-- Lengths that words may have for these counts. -/
structure LenOk (c : List Int) (n : Nat) (l : Int → Nat) : Prop where
  top : ∀ s ∈ posL c n, 1 ≤ l s ∧ l s ≤ 16
  kraft : nsum (fun s => 2 ^ (16 - l s)) (posL c n) < 2 ^ 16
theorem costL_pos (c : List Int) (n : Nat) (l : Int → Nat) (h0 : ∀ i, i < n → 0 ≤ nth c i) : isum (fun s => wOf c s * (l s : Nat)) (posL c n) = costL c n l := by
  unfold posL costL
  rw [isum_map, isum_congr _ (fun s : Nat => nth c s * (l (s : Int) : Nat)) _ fun s _ => ?_]
  · refine isum_filter _ _ _ fun x hx hp => ?_
    have := h0 x (List.mem_range.1 hx)
    have h1 : ¬ 0 < nth c x := by simpa using hp
    rw [show nth c x = 0 by omega, Int.zero_mul]
  · unfold wOf; rw [if_neg (by omega)]; simp
/-- WHAT MAKE GIVES: lengths that may be, of the least cost. -/
theorem made_law {c : List Int} {n : Nat} {R : List Pk} (hn : n ≤ 256) (h0 : ∀ i, i < n → 0 ≤ nth c i) (hR : RowK (sgs c n) 16 R) (f : Int → Nat) (hf : f = lng (R.take (2 * (sgs c n).length - 2))) :
    (∀ s, f s ≤ 16) ∧ (∀ s, s ∉ posL c n → 0 ≤ s → f s = 0) ∧ LenOk c n f ∧ (∀ l, LenOk c n l → costL c n f ≤ costL c n l) ∧ (∀ a b, a ∈ posL c n → b ∈ posL c n → nth c b.toNat < nth c a.toNat → f a ≤ f b) := by
  have hS := sgs_sing c n
  have hlen := hS.len
  have hpl : (posL c n).length ≤ n := by
    unfold posL
    have := List.length_filter_le (fun s => decide (0 < nth c s)) (List.range n)
    simp at this ⊢; exact this
  have hw0 : ∀ s ∈ (-1 :: posL c n), 0 ≤ wOf c s := fun s hs => by
    rcases List.mem_cons.1 hs with rfl | hs
    · simp [wOf]
    · have := (posL_mem c n s).1 hs
      unfold wOf; rw [if_neg (by omega)]; omega
  obtain ⟨_, b1, b2, b3, b4, b5⟩ := best_spec hS (wOf c) (sgs_w c n) hw0 (by simp) (by simp; omega) hR
  rw [← hlen, ← hf] at b1 b2 b3 b4 b5
  have hpos : ∀ s ∈ posL c n, 1 ≤ f s := fun s hs => kraft_pos b3 (List.mem_cons_of_mem _ hs) (List.mem_cons_self (a := -1)) (by have := (posL_mem c n s).1 hs; omega)
  rw [nsum_cons] at b3
  have hone : 1 ≤ 2 ^ (16 - f (-1)) := Nat.one_le_two_pow
  refine ⟨b1, fun s hs hs0 => b2 s (by simp only [List.mem_cons, not_or]; exact ⟨by omega, hs⟩), ⟨fun s hs => ⟨hpos s hs, b1 s⟩, by omega⟩, fun l hl => ?_, fun a b ha hb hab => ?_⟩
  · have hb4 := b4 (fun s => if s = -1 then 16 else l s) (fun s hs => by
      show (if s = -1 then 16 else l s) ≤ 16
      rcases List.mem_cons.1 hs with rfl | hs
      · simp
      · have := (posL_mem c n s).1 hs
        rw [if_neg (by omega)]; exact (hl.top s hs).2) (by
      rw [nsum_cons]
      have := hl.kraft
      have e : nsum (fun s => 2 ^ (16 - (if s = -1 then 16 else l s))) (posL c n) = nsum (fun s => 2 ^ (16 - l s)) (posL c n) := nsum_congr _ _ _ fun s hs => by
        have := (posL_mem c n s).1 hs
        rw [if_neg (by omega)]
      rw [e]; simp; simp at this; omega)
    rw [isum_cons, isum_cons] at hb4
    have z : ∀ x : Int, wOf c (-1) * x = 0 := fun x => by simp [wOf]
    rw [z, z, costL_pos c n f h0] at hb4
    have e : isum (fun s => wOf c s * ((if s = -1 then 16 else l s : Nat) : Int)) (posL c n) = isum (fun s => wOf c s * (l s : Nat)) (posL c n) := isum_congr _ _ _ fun s hs => by
      have := (posL_mem c n s).1 hs
      rw [if_neg (by omega)]
    rw [e, costL_pos c n l h0] at hb4
    omega
  · have h1 := (posL_mem c n a).1 ha
    have h2 := (posL_mem c n b).1 hb
    exact b5 a b (List.mem_cons_of_mem _ hb) (by unfold wOf; rw [if_neg (by omega), if_neg (by omega)]; exact hab)
end Go.Proofs.Ytembekkanggciaa
