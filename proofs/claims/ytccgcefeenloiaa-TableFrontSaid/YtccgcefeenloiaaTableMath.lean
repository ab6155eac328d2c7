/- Words of given lengths: the plain law. -/
import Derived.Test.YtccgcefeenloiaaBitsMath
import Derived.Test.YtccgcefeenloiaaMem2
namespace Go.Proofs.Ytccgcefeenloiaa
set_option linter.unusedVariables false
/-- What the next word is after k counts, times two from length to length. -/
def nx (c : Nat → Nat) : Nat → Nat
  | 0 => 0
  | k + 1 => 2 * nx c k + c k
/-- The words of the lengths up to k: each its length and its code. -/
def cds (c : Nat → Nat) : Nat → List (Nat × Nat)
  | 0 => []
  | k + 1 => cds c k ++ (List.range (c k)).map fun j => (k + 1, 2 * nx c k + j)
def sm (c : Nat → Nat) : Nat → Nat
  | 0 => 0
  | k + 1 => sm c k + c k
theorem cds_len (c : Nat → Nat) : ∀ k, (cds c k).length = sm c k
  | 0 => rfl
  | k + 1 => by simp [cds, sm, cds_len c k]
/-- Where a word's room begins and ends, of 2 ^ 16. -/
def wlo (x : Nat × Nat) : Nat := x.2 * 2 ^ (16 - x.1)
def whi (x : Nat × Nat) : Nat := (x.2 + 1) * 2 ^ (16 - x.1)
/-- Rooms one behind the other. -/
inductive Tile : Nat → List (Nat × Nat) → Nat → Prop
  | nil {a : Nat} : Tile a [] a
  | cons {x : Nat × Nat} {l : List (Nat × Nat)} {b : Nat} (h : Tile (whi x) l b) : Tile (wlo x) (x :: l) b
theorem Tile.append {a b c : Nat} {l m : List (Nat × Nat)} (h : Tile a l b) (k : Tile b m c) : Tile a (l ++ m) c := by
  induction h with
  | nil => exact k
  | cons h ih => exact .cons (ih k)
theorem tile_row (k s : Nat) : ∀ n a, Tile ((s + a) * 2 ^ (16 - (k + 1))) ((List.range' a n).map fun j => (k + 1, s + j)) ((s + a + n) * 2 ^ (16 - (k + 1)))
  | 0, a => by simpa using Tile.nil
  | n + 1, a => by
    have h := tile_row k s n (a + 1)
    simp only [List.range'_succ, List.map_cons]
    refine Tile.cons (x := (k + 1, s + a)) ?_
    rw [show s + a + (n + 1) = s + (a + 1) + n by omega]
    exact h
theorem tile_cds (c : Nat → Nat) : ∀ k, k ≤ 16 → Tile 0 (cds c k) (nx c k * 2 ^ (16 - k))
  | 0, _ => by simpa [cds, nx] using Tile.nil
  | k + 1, h => by
    have h1 := tile_cds c k (by omega)
    have h2 := tile_row k (2 * nx c k) (c k) 0
    have e : nx c k * 2 ^ (16 - k) = (2 * nx c k + 0) * 2 ^ (16 - (k + 1)) := by
      rw [show 16 - k = (16 - (k + 1)) + 1 by omega, Nat.pow_succ, Nat.add_zero (2 * _), Nat.mul_comm 2 (nx c k), Nat.mul_assoc (nx c k) 2, Nat.mul_comm 2]
    rw [e] at h1
    rw [cds, nx, List.range_eq_range']
    exact h1.append h2
theorem Tile.le {a b : Nat} {l : List (Nat × Nat)} (h : Tile a l b) : a ≤ b := by
  induction h with
  | nil => omega
  | @cons x l b h ih =>
    have : wlo x ≤ whi x := Nat.mul_le_mul_right _ (by omega)
    omega
theorem Tile.mem {a b : Nat} {l : List (Nat × Nat)} (h : Tile a l b) : ∀ x ∈ l, a ≤ wlo x ∧ whi x ≤ b := by
  induction h with
  | nil => intro x hx; cases hx
  | @cons y l b h ih =>
    intro x hx
    rcases List.mem_cons.1 hx with rfl | hx
    · exact ⟨Nat.le_refl _, h.le⟩
    · have h1 := ih x hx
      have : wlo y ≤ whi y := Nat.mul_le_mul_right _ (by omega)
      omega
theorem Tile.pair {a b : Nat} {l : List (Nat × Nat)} (h : Tile a l b) : l.Pairwise fun x y => whi x ≤ wlo y := by
  induction h with
  | nil => exact List.Pairwise.nil
  | @cons x l b h ih => exact List.Pairwise.cons (fun y hy => (h.mem y hy).1) ih
theorem cds_long (c : Nat → Nat) : ∀ k x, x ∈ cds c k → 1 ≤ x.1 ∧ x.1 ≤ k
  | 0, x, h => by cases h
  | k + 1, x, h => by
    rcases List.mem_append.1 h with h | h
    · have := cds_long c k x h; omega
    · obtain ⟨j, _, rfl⟩ := List.mem_map.1 h
      exact ⟨by simp, by simp⟩
theorem cds_mono (c : Nat → Nat) : ∀ k, (cds c k).Pairwise fun x y => x.1 ≤ y.1
  | 0 => List.Pairwise.nil
  | k + 1 => by
    rw [cds, List.pairwise_append]
    refine ⟨cds_mono c k, ?_, fun x hx y hy => ?_⟩
    · rw [List.pairwise_map]; exact List.Pairwise.imp (fun _ => Nat.le_refl _) (List.pairwise_lt_range)
    · obtain ⟨j, _, rfl⟩ := List.mem_map.1 hy
      have := cds_long c k x hx
      exact Nat.le_succ_of_le this.2
/-- Whether the words have room. -/
def roomy (c : Nat → Nat) : Prop := ∀ k, k < 16 → nx c (k + 1) < 2 ^ (k + 1)
theorem nx_up (c : Nat → Nat) (k : Nat) : ∀ d, nx c k * 2 ^ d ≤ nx c (k + d)
  | 0 => by simp
  | d + 1 => by
    have := nx_up c k d
    rw [← Nat.add_assoc, nx, Nat.pow_succ, ← Nat.mul_assoc]; omega
theorem roomy_iff (c : Nat → Nat) : roomy c ↔ nx c 16 < 65536 := by
  constructor
  · intro h; exact h 15 (by omega)
  · intro h k hk
    have h1 := nx_up c (k + 1) (15 - k)
    rw [show k + 1 + (15 - k) = 16 by omega] at h1
    have h2 : nx c (k + 1) * 2 ^ (15 - k) < 2 ^ (k + 1) * 2 ^ (15 - k) := by
      rw [← Nat.pow_add, show k + 1 + (15 - k) = 16 by omega]; exact Nat.lt_of_le_of_lt h1 h
    exact Nat.lt_of_mul_lt_mul_right h2
theorem cds_lt (c : Nat → Nat) (h : roomy c) (x : Nat × Nat) (hx : x ∈ cds c 16) : x.2 + 1 < 2 ^ x.1 ∧ 1 ≤ x.1 ∧ x.1 ≤ 16 := by
  have h1 := cds_long c 16 x hx
  have h2 := ((tile_cds c 16 (by omega)).mem x hx).2
  have h3 := (roomy_iff c).1 h
  refine ⟨?_, h1.1, h1.2⟩
  have h4 : (x.2 + 1) * 2 ^ (16 - x.1) < 2 ^ x.1 * 2 ^ (16 - x.1) := by
    rw [← Nat.pow_add, show x.1 + (16 - x.1) = 16 by omega]
    have : whi x = (x.2 + 1) * 2 ^ (16 - x.1) := rfl
    simp at h2; omega
  exact Nat.lt_of_mul_lt_mul_right h4
/-- No word begins another. -/
theorem cds_prefix (x y : Nat × Nat) (hx : x.1 ≤ y.1) (hy : y.1 ≤ 16) (h : y.2 / 2 ^ (y.1 - x.1) = x.2) : wlo x ≤ wlo y ∧ wlo y < whi x := by
  have hp : 0 < 2 ^ (y.1 - x.1) := Nat.two_pow_pos _
  have hq : 0 < 2 ^ (16 - y.1) := Nat.two_pow_pos _
  have e : 2 ^ (16 - x.1) = 2 ^ (y.1 - x.1) * 2 ^ (16 - y.1) := by rw [← Nat.pow_add]; congr 1; omega
  have h1 : x.2 * 2 ^ (y.1 - x.1) ≤ y.2 := by rw [← h]; exact Nat.div_mul_le_self _ _
  have h2 : y.2 < (x.2 + 1) * 2 ^ (y.1 - x.1) := by rw [← h, Nat.mul_comm]; exact Nat.lt_mul_div_succ _ hp
  unfold wlo whi
  rw [e, ← Nat.mul_assoc, ← Nat.mul_assoc]
  exact ⟨Nat.mul_le_mul_right _ h1, Nat.mul_lt_mul_of_pos_right h2 hq⟩
theorem cds_apart (c : Nat → Nat) (i j : Nat) (x y : Nat × Nat) (hi : (cds c 16)[i]? = some x) (hj : (cds c 16)[j]? = some y) (hne : i ≠ j) (hl : x.1 ≤ y.1) : ¬ y.2 / 2 ^ (y.1 - x.1) = x.2 := by
  intro h
  have hp := (tile_cds c 16 (by omega)).pair
  have hy := cds_long c 16 y (List.mem_of_getElem? hj)
  obtain ⟨h1, h2⟩ := cds_prefix x y hl hy.2 h
  rw [List.pairwise_iff_getElem] at hp
  obtain ⟨hi1, hi2⟩ := List.getElem?_eq_some_iff.1 hi
  obtain ⟨hj1, hj2⟩ := List.getElem?_eq_some_iff.1 hj
  have hw : ∀ z : Nat × Nat, wlo z < whi z := fun z => Nat.mul_lt_mul_of_pos_right (by omega) (Nat.two_pow_pos _)
  rcases Nat.lt_or_gt_of_ne hne with g | g
  · have := hp i j hi1 hj1 g
    rw [hi2, hj2] at this; omega
  · have := hp j i hj1 hi1 g
    rw [hi2, hj2] at this
    have := hw y
    omega
/-- Counts as natural numbers. -/
def cc (C : List Int) (k : Nat) : Nat := (nth C k).toNat
def totOk (C : List Int) : Bool := (List.range 16).all (fun k => decide (0 ≤ nth C k ∧ nth C k ≤ 256)) && decide (sm (cc C) 16 ≤ 256)
theorem totOk_iff (C : List Int) : totOk C = true ↔ (∀ k, k < 16 → 0 ≤ nth C k ∧ nth C k ≤ 256) ∧ sm (cc C) 16 ≤ 256 := by
  simp [totOk]
def roomB (c : Nat → Nat) : Bool := (List.range 16).all fun k => decide (nx c (k + 1) < 2 ^ (k + 1))
theorem roomB_iff (c : Nat → Nat) : roomB c = true ↔ roomy c := by simp [roomB, roomy]
def symsB (S : List Int) : Bool := S.all fun s => decide (0 ≤ s) && decide (s < 256)
/-- What Check gives. -/
def tabE (C S : List Int) : Int :=
  if totOk C = true ∧ sm (cc C) 16 = S.length then if symsB S then if S.Nodup ∧ roomB (cc C) = true then 0 else 4 else 1 else 4
theorem tabE_ok {C S : List Int} (h : tabE C S = 0) : (∀ k, k < 16 → 0 ≤ nth C k ∧ nth C k ≤ 256) ∧ sm (cc C) 16 = S.length ∧ S.length ≤ 256 ∧ (∀ s ∈ S, 0 ≤ s ∧ s < 256) ∧ S.Nodup ∧ roomy (cc C) := by
  unfold tabE at h
  split at h
  · rename_i h1
    split at h
    · rename_i h2
      split at h
      · rename_i h3
        obtain ⟨h4, h5⟩ := (totOk_iff C).1 h1.1
        refine ⟨h4, h1.2, by omega, ?_, h3.1, (roomB_iff _).1 h3.2⟩
        intro s hs
        have := List.all_eq_true.1 h2 s hs
        simpa using this
      · cases h
    · cases h
  · cases h
theorem tabE_of {C S : List Int} (h1 : totOk C = true) (h2 : sm (cc C) 16 = S.length) (h3 : ∀ s ∈ S, 0 ≤ s ∧ s < 256) (h4 : S.Nodup) (h5 : roomy (cc C)) : tabE C S = 0 := by
  unfold tabE
  rw [if_pos ⟨h1, h2⟩, if_pos, if_pos ⟨h4, (roomB_iff _).2 h5⟩]
  rw [symsB, List.all_eq_true]; intro s hs; simpa using h3 s hs
/-- The words with their symbols. -/
def wds (C S : List Int) : List (Int × Nat × Nat) := S.zip (cds (cc C) 16)
def wfl (l : List (Int × Nat × Nat)) : List Int := l.flatMap fun x => [x.1, (x.2.1 : Int), (x.2.2 : Int)]
theorem wfl_len (l : List (Int × Nat × Nat)) : (wfl l).length = l.length * 3 := by
  induction l with
  | nil => rfl
  | cons x l ih => simp only [wfl, List.flatMap_cons, List.length_append, List.length_cons, List.length_nil] at *; omega
theorem wfl_snoc (l : List (Int × Nat × Nat)) (x : Int × Nat × Nat) : wfl (l ++ [x]) = wfl l ++ [x.1, (x.2.1 : Int), (x.2.2 : Int)] := by simp [wfl]
theorem wfl_get : ∀ (l : List (Int × Nat × Nat)) (k : Nat) (x : Int × Nat × Nat), l[k]? = some x → ((wfl l).drop (k * 3)).take 3 = [x.1, (x.2.1 : Int), (x.2.2 : Int)]
  | [], k, x, h => by simp at h
  | y :: l, 0, x, h => by
    obtain rfl : y = x := by simpa using h
    simp [wfl]
  | y :: l, k + 1, x, h => by
    have := wfl_get l k x (by simpa using h)
    rw [show (k + 1) * 3 = k * 3 + 3 by omega]
    simp only [wfl, List.flatMap_cons] at *
    rw [List.drop_append, List.drop_of_length_le (by simp)]
    simpa using this
theorem wfl_nth (l : List (Int × Nat × Nat)) (k : Nat) (x : Int × Nat × Nat) (h : l[k]? = some x) : nth (wfl l) (k * 3) = x.1 ∧ nth (wfl l) (k * 3 + 1) = x.2.1 ∧ nth (wfl l) (k * 3 + 2) = x.2.2 := by
  have e := wfl_get l k x h
  have g : ∀ i, i < 3 → nth (wfl l) (k * 3 + i) = nth [x.1, (x.2.1 : Int), (x.2.2 : Int)] i := fun i hi => by rw [← e, nth_take _ _ _ hi, nth_drop]
  exact ⟨g 0 (by omega), g 1 (by omega), g 2 (by omega)⟩
theorem zip_snoc (S : List Int) (A : List (Nat × Nat)) (x : Nat × Nat) (h : A.length < S.length) : S.zip (A ++ [x]) = S.zip A ++ [(nth S A.length, x)] := by
  apply List.ext_getElem?
  intro i
  rcases Nat.lt_trichotomy i A.length with g | g | g
  · rw [List.getElem?_append_left (by simp; omega)]
    simp only [List.zip, List.getElem?_zipWith]
    rw [List.getElem?_append_left g]
  · subst g
    rw [List.getElem?_append_right (by simp; omega)]
    simp only [List.zip, List.getElem?_zipWith]
    rw [List.getElem?_append_right (by omega), get_nth S _ h, Nat.sub_self, show (List.zipWith Prod.mk S A).length = A.length by simp; omega, Nat.sub_self]
    rfl
  · rw [List.getElem?_eq_none (by simp; omega), List.getElem?_eq_none (by simp; omega)]
theorem wds_len (C S : List Int) (h : sm (cc C) 16 = S.length) : (wds C S).length = S.length := by
  simp [wds, cds_len, h]
theorem wds_get (C S : List Int) (h : sm (cc C) 16 = S.length) (i : Nat) (hi : i < S.length) : ∃ x, (cds (cc C) 16)[i]? = some x ∧ (wds C S)[i]? = some (nth S i, x) := by
  have hl : i < (cds (cc C) 16).length := by rw [cds_len]; omega
  refine ⟨_, List.getElem?_eq_getElem hl, ?_⟩
  simp only [wds, List.zip, List.getElem?_zipWith, get_nth S i hi, List.getElem?_eq_getElem hl]
theorem wds_mem (C S : List Int) (x : Int × Nat × Nat) (hx : x ∈ wds C S) : x.1 ∈ S ∧ x.2 ∈ cds (cc C) 16 := List.of_mem_zip (a := x.1) (b := x.2) hx
/-- The last word of a symbol. -/
def symW (L : List (Int × Nat × Nat)) (s : Int) : Option (Nat × Nat) := (L.reverse.find? fun x => decide (x.1 = s)).map (·.2)
def codW (L : List (Int × Nat × Nat)) (p : Int × Int) : Option Int := (L.reverse.find? fun x => decide (p = ((x.2.1 : Int), (x.2.2 : Int)))).map (·.1)
theorem symW_snoc (L : List (Int × Nat × Nat)) (x : Int × Nat × Nat) (s : Int) : symW (L ++ [x]) s = if s = x.1 then some x.2 else symW L s := by
  unfold symW
  rw [List.reverse_append, List.reverse_singleton, List.singleton_append, List.find?_cons]
  by_cases h : s = x.1
  · simp [h]
  · have : ¬ x.1 = s := fun e => h e.symm
    simp [h, this]
theorem codW_snoc (L : List (Int × Nat × Nat)) (x : Int × Nat × Nat) (p : Int × Int) : codW (L ++ [x]) p = if p = ((x.2.1 : Int), (x.2.2 : Int)) then some x.1 else codW L p := by
  unfold codW
  rw [List.reverse_append, List.reverse_singleton, List.singleton_append, List.find?_cons]
  by_cases h : p = ((x.2.1 : Int), (x.2.2 : Int))
  · simp [h]
  · simp [h]
theorem symW_mem {L : List (Int × Nat × Nat)} {s : Int} {y : Nat × Nat} (h : symW L s = some y) : (s, y) ∈ L := by
  unfold symW at h
  cases hf : L.reverse.find? fun x => decide (x.1 = s) with
  | none => rw [hf] at h; cases h
  | some x =>
    rw [hf] at h
    have h1 := List.mem_of_find?_eq_some hf
    have h2 := List.find?_some hf
    simp only [Option.map_some, Option.some.injEq] at h
    simp only [decide_eq_true_eq] at h2
    subst h; subst h2
    simpa using h1
theorem symW_none {L : List (Int × Nat × Nat)} {s : Int} (h : symW L s = none) : ∀ x ∈ L, x.1 ≠ s := by
  unfold symW at h
  rw [Option.map_eq_none_iff, List.find?_eq_none] at h
  intro x hx
  simpa using h x (by simpa using hx)
theorem codW_mem {L : List (Int × Nat × Nat)} {a b : Nat} {s : Int} (h : codW L ((a : Int), (b : Int)) = some s) : (s, a, b) ∈ L := by
  unfold codW at h
  cases hf : L.reverse.find? fun x => decide (((a : Int), (b : Int)) = ((x.2.1 : Int), (x.2.2 : Int))) with
  | none => rw [hf] at h; cases h
  | some x =>
    rw [hf] at h
    have h1 := List.mem_of_find?_eq_some hf
    have h2 := List.find?_some hf
    simp only [Option.map_some, Option.some.injEq] at h
    simp only [decide_eq_true_eq, Prod.mk.injEq] at h2
    obtain ⟨s', a', b'⟩ := x
    simp only at h h2
    obtain ⟨h3, h4⟩ := h2
    have h5 : a = a' := by omega
    have h6 : b = b' := by omega
    subst h; subst h5; subst h6
    simpa using h1
theorem codW_none {L : List (Int × Nat × Nat)} {a b : Nat} (h : codW L ((a : Int), (b : Int)) = none) : ∀ x ∈ L, x.2 ≠ (a, b) := by
  unfold codW at h
  rw [Option.map_eq_none_iff, List.find?_eq_none] at h
  intro x hx
  have := h x (by simpa using hx)
  intro e
  rw [e] at this
  simp at this
/-- A table that may be: its words are apart. -/
structure Good (L : List (Int × Nat × Nat)) : Prop where
  long : ∀ x ∈ L, 1 ≤ x.2.1 ∧ x.2.1 ≤ 16 ∧ x.2.2 + 1 < 2 ^ x.2.1
  sym : ∀ x ∈ L, ∀ y ∈ L, x.1 = y.1 → x = y
  pre : ∀ x ∈ L, ∀ y ∈ L, x.2.1 ≤ y.2.1 → y.2.2 / 2 ^ (y.2.1 - x.2.1) = x.2.2 → x = y
  range : ∀ x ∈ L, 0 ≤ x.1 ∧ x.1 < 256
theorem wds_good {C S : List Int} (h : tabE C S = 0) : Good (wds C S) := by
  obtain ⟨h1, h2, h3, h4, h5, h6⟩ := tabE_ok h
  have idx : ∀ x ∈ wds C S, ∃ i, i < S.length ∧ x.1 = nth S i ∧ (cds (cc C) 16)[i]? = some x.2 ∧ (wds C S)[i]? = some x := fun x hx => by
    obtain ⟨i, hi, e⟩ := List.getElem_of_mem hx
    rw [wds_len C S h2] at hi
    obtain ⟨y, e1, e2⟩ := wds_get C S h2 i hi
    have e3 : (wds C S)[i]? = some x := by rw [List.getElem?_eq_getElem (by rw [wds_len C S h2]; exact hi), e]
    rw [e2] at e3
    obtain rfl : (nth S i, y) = x := by simpa using e3
    exact ⟨i, hi, rfl, e1, e2⟩
  refine ⟨fun x hx => ?_, fun x hx y hy e => ?_, fun x hx y hy hl hp => ?_, fun x hx => h4 _ (wds_mem C S x hx).1⟩
  · have := cds_lt (cc C) h6 x.2 (wds_mem C S x hx).2
    exact ⟨this.2.1, this.2.2, this.1⟩
  · obtain ⟨i, hi, ei, ci, wi⟩ := idx x hx
    obtain ⟨j, hj, ej, cj, wj⟩ := idx y hy
    have hij : i = j := by
      rw [ei, ej] at e
      have gi := get_nth S i hi
      have gj := get_nth S j hj
      rw [e] at gi
      exact (List.getElem?_inj hi h5).1 (by rw [gi, gj])
    subst hij
    rw [wi] at wj
    simpa using wj
  · obtain ⟨i, hi, ei, ci, wi⟩ := idx x hx
    obtain ⟨j, hj, ej, cj, wj⟩ := idx y hy
    by_cases hij : i = j
    · subst hij; rw [wi] at wj; simpa using wj
    · exact absurd hp (cds_apart (cc C) i j x.2 y.2 ci cj hij hl)
theorem Good.symW {L : List (Int × Nat × Nat)} (h : Good L) {x : Int × Nat × Nat} (hx : x ∈ L) : symW L x.1 = some x.2 := by
  cases hs : Go.Proofs.Ytccgcefeenloiaa.symW L x.1 with
  | none => exact absurd rfl (symW_none hs x hx)
  | some y =>
    have := h.sym _ (symW_mem hs) x hx rfl
    rw [← this]
theorem Good.codW {L : List (Int × Nat × Nat)} (h : Good L) {x : Int × Nat × Nat} (hx : x ∈ L) : codW L ((x.2.1 : Int), (x.2.2 : Int)) = some x.1 := by
  cases hs : Go.Proofs.Ytccgcefeenloiaa.codW L ((x.2.1 : Int), (x.2.2 : Int)) with
  | none => exact absurd rfl (codW_none hs x hx)
  | some y =>
    have := h.pre _ (codW_mem hs) x hx (Nat.le_refl _) (by simp)
    rw [← this]
end Go.Proofs.Ytccgcefeenloiaa
