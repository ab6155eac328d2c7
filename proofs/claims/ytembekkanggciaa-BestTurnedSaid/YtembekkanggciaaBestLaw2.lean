/- best.Make's table is valid, its words have the lengths that packages gave; the lengths of any valid table. -/
import Derived.Test.YtembekkanggciaaBestLaw
namespace Go.Proofs.Ytembekkanggciaa
set_option linter.unusedVariables false
theorem nx_congr {a b : Nat → Nat} : ∀ k, (∀ i, i < k → a i = b i) → nx a k = nx b k
  | 0, _ => rfl
  | k + 1, h => by rw [nx, nx, nx_congr k fun i hi => h i (by omega), h k (by omega)]
theorem cds_congr {a b : Nat → Nat} : ∀ k, (∀ i, i < k → a i = b i) → cds a k = cds b k
  | 0, _ => rfl
  | k + 1, h => by rw [cds, cds, cds_congr k fun i hi => h i (by omega), h k (by omega), nx_congr k fun i hi => h i (by omega)]
theorem one_row1 (l : Nat) (h : l ≤ 16) : sm (fun i => if l = i + 1 then 1 else 0) 16 = if 1 ≤ l then 1 else 0 := by
  have : ∀ l, l < 17 → sm (fun i => if l = i + 1 then 1 else 0) 16 = if 1 ≤ l then 1 else 0 := by decide
  exact this l (by omega)
theorem rows_len (f : Int → Nat) (hf : ∀ s, f s ≤ 16) : ∀ n, sm (fun i => (symsK f n (i + 1)).length) 16 = nsum (fun s : Nat => if 1 ≤ f (s : Int) then 1 else 0) (List.range n)
  | 0 => by simp [symsK, nsum]; decide
  | n + 1 => by
    rw [List.range_succ, nsum_append, ← rows_len f hf n]
    have : nsum (fun s : Nat => if 1 ≤ f (s : Int) then 1 else 0) [n] = if 1 ≤ f (n : Int) then 1 else 0 := by simp [nsum]
    rw [this, ← one_row1 _ (hf _), ← sm_addf]
    refine sm_congrf 16 fun i hi => ?_
    rw [symsK_succ]
    by_cases h : f (n : Int) = i + 1
    · rw [if_pos h, if_pos h, List.length_append]; rfl
    · rw [if_neg h, if_neg h]; rfl
theorem symsTo_sm (f : Int → Nat) (n : Nat) : ∀ k, (symsTo f n k).length = sm (fun i => (symsK f n (i + 1)).length) k
  | 0 => rfl
  | k + 1 => by rw [symsTo_succ, List.length_append, symsTo_sm f n k, sm]
theorem symsK_mem (f : Int → Nat) (n k : Nat) (s : Int) : s ∈ symsK f n k ↔ 0 ≤ s ∧ s < n ∧ f s = k := by
  unfold symsK
  simp only [List.mem_map, List.mem_filter, List.mem_range, decide_eq_true_eq]
  constructor
  · rintro ⟨a, ⟨h1, h2⟩, rfl⟩; exact ⟨by omega, by omega, h2⟩
  · intro ⟨h1, h2, h3⟩; exact ⟨s.toNat, ⟨by omega, by rw [Int.toNat_of_nonneg h1]; exact h3⟩, by omega⟩
theorem symsK_nodup (f : Int → Nat) (n k : Nat) : (symsK f n k).Nodup := by
  unfold symsK
  rw [List.nodup_iff_pairwise_ne, List.pairwise_map]
  refine List.Pairwise.imp ?_ (List.Pairwise.filter _ List.nodup_range)
  intro a b h e
  exact h (by omega)
theorem symsTo_mem (f : Int → Nat) (n : Nat) (s : Int) : ∀ k, s ∈ symsTo f n k ↔ 0 ≤ s ∧ s < n ∧ 1 ≤ f s ∧ f s ≤ k
  | 0 => by simp [symsTo]; intro _ _ _; omega
  | k + 1 => by
    rw [symsTo_succ, List.mem_append, symsTo_mem f n s k, symsK_mem]
    constructor
    · rintro (h | h) <;> omega
    · intro h
      by_cases e : f s = k + 1
      · right; omega
      · left; omega
theorem symsTo_nodup (f : Int → Nat) (n : Nat) : ∀ k, (symsTo f n k).Nodup
  | 0 => by simp [symsTo]
  | k + 1 => by
    rw [symsTo_succ, List.nodup_append]
    refine ⟨symsTo_nodup f n k, symsK_nodup f n (k + 1), fun a ha b hb e => ?_⟩
    subst e
    have h1 := (symsTo_mem f n a k).1 ha
    have h2 := (symsK_mem f n (k + 1) a).1 hb
    omega
theorem zip_words (f : Int → Nat) (n : Nat) : ∀ k, ∀ x ∈ (symsTo f n k).zip (cds (fun i => (symsK f n (i + 1)).length) k), x.2.1 = f x.1
  | 0, x, h => by simp [symsTo] at h
  | k + 1, x, h => by
    rw [symsTo_succ, cds, List.zip_append (by rw [symsTo_sm, cds_len])] at h
    rcases List.mem_append.1 h with h | h
    · exact zip_words f n k x h
    · have h1 := (List.of_mem_zip (a := x.1) (b := x.2) h)
      obtain ⟨j, _, e⟩ := List.mem_map.1 h1.2
      have h2 := (symsK_mem f n (k + 1) x.1).1 h1.1
      rw [h2.2.2, ← e]
/-- The length of a symbol's word; 0 if it has none. -/
def lw (L : List (Int × Nat × Nat)) (s : Int) : Nat := match symW L s with
  | some x => x.1
  | none => 0
theorem wds_fst {C S : List Int} (h : sm (cc C) 16 = S.length) : (wds C S).map (·.1) = S := by
  unfold wds
  exact List.map_fst_zip (by rw [cds_len, h]; exact Nat.le_refl _)
theorem wds_snd {C S : List Int} (h : sm (cc C) 16 = S.length) : (wds C S).map (·.2) = cds (cc C) 16 := by
  unfold wds
  exact List.map_snd_zip (by rw [cds_len, h]; exact Nat.le_refl _)
theorem lw_mem {C S : List Int} (h : tabE C S = 0) {x : Int × Nat × Nat} (hx : x ∈ wds C S) : symW (wds C S) x.1 = some x.2 ∧ lw (wds C S) x.1 = x.2.1 := by
  have := (wds_good h).symW hx
  exact ⟨this, by unfold lw; rw [this]⟩
theorem lw_in {C S : List Int} (h : tabE C S = 0) {s : Int} (hs : s ∈ S) : ∃ x ∈ wds C S, x.1 = s := by
  have h2 := (tabE_ok h).2.1
  rw [← wds_fst h2] at hs
  obtain ⟨x, hx, e⟩ := List.mem_map.1 hs
  exact ⟨x, hx, e⟩
theorem lw_pos {C S : List Int} (h : tabE C S = 0) (s : Int) : (s ∈ S → 1 ≤ lw (wds C S) s ∧ lw (wds C S) s ≤ 16) ∧ (s ∉ S → lw (wds C S) s = 0) := by
  constructor
  · intro hs
    obtain ⟨x, hx, rfl⟩ := lw_in h hs
    rw [(lw_mem h hx).2]
    have := (wds_good h).long x hx
    omega
  · intro hs
    unfold lw
    cases e : symW (wds C S) s with
    | none => rfl
    | some y => exact absurd (wds_mem C S _ (symW_mem e)).1 hs
theorem made_table {c C S : List Int} {n : Nat} {f : Int → Nat} (hn : n ≤ 256) (h16 : ∀ s, f s ≤ 16) (hz : ∀ s, s ∉ posL c n → 0 ≤ s → f s = 0) (hl : LenOk c n f) (hC : ∀ i, i < 16 → nth C i = ((symsK f n (i + 1)).length : Nat)) (hS : S = symsTo f n 16) :
    tabE C S = 0 ∧ (∀ s : Int, 0 ≤ s → s < n → lw (wds C S) s = f s) ∧ S.length = (posL c n).length ∧ (∀ s, s ∈ S ↔ s ∈ posL c n) := by
  have hcc : ∀ i, i < 16 → cc C i = (symsK f n (i + 1)).length := fun i hi => by unfold cc; rw [hC i hi]; simp
  have hmem : ∀ s, s ∈ S ↔ s ∈ posL c n := fun s => by
    rw [hS, symsTo_mem]
    constructor
    · intro h
      by_cases hp : s ∈ posL c n
      · exact hp
      · have := hz s hp h.1; omega
    · intro h
      have h1 := (posL_mem c n s).1 h
      have h2 := hl.top s h
      exact ⟨h1.1, h1.2.1, h2.1, h2.2⟩
  have hsm : sm (cc C) 16 = S.length := by rw [hS, symsTo_sm, sm_congrf 16 hcc]
  have hlen : S.length = (posL c n).length := by
    rw [hS, symsTo_sm, rows_len f h16]
    unfold posL
    rw [List.length_map, ← nsum_one]
    refine nsum_congr _ _ _ fun s hs => ?_
    by_cases hp : (s : Int) ∈ posL c n
    · have h1 := (posL_mem c n s).1 hp
      rw [if_pos (hl.top _ hp).1, if_pos (by simpa using h1.2.2)]
    · have h1 : ¬ 0 < nth c s := fun h => hp ((posL_mem c n s).2 ⟨by omega, by simp at hs; omega, by simpa using h⟩)
      rw [if_neg (by rw [hz _ hp (by omega)]; omega), if_neg (by simpa using h1)]
  have hpl : (posL c n).length ≤ n := by
    unfold posL
    have := List.length_filter_le (fun s => decide (0 < nth c s)) (List.range n)
    simp at this ⊢; exact this
  have hnx : nx (cc C) 16 < 65536 := by
    have h1 := nx_sum (fun i => (symsK f n (i + 1)).length) 16 (by omega)
    rw [rows_sum f h16] at h1
    rw [nx_congr 16 hcc]
    have h2 : nsum (fun s : Nat => bit16 (f (s : Int))) (List.range n) = nsum (fun s => 2 ^ (16 - f s)) (posL c n) := by
      unfold posL
      rw [nsum_map, ← nsum_filter (fun s => decide (0 < nth c s)) (fun s : Nat => bit16 (f (s : Int))) (List.range n) fun s hs hp => ?_]
      · refine nsum_congr _ _ _ fun s hs => ?_
        have h3 := List.mem_filter.1 hs
        have hp : (s : Int) ∈ posL c n := (posL_mem c n s).2 ⟨by omega, by have := h3.1; simp at this; omega, by simpa using h3.2⟩
        unfold bit16; rw [if_pos (hl.top _ hp).1]
      · have hp2 : (s : Int) ∉ posL c n := fun h => by have := ((posL_mem c n s).1 h).2.2; simp at this hp; omega
        unfold bit16; rw [hz _ hp2 (by omega)]; rfl
    rw [h2] at h1
    have := hl.kraft
    simp at h1 this
    omega
  have htab : tabE C S = 0 := by
    refine tabE_of ((totOk_iff C).2 ⟨fun k hk => ?_, by omega⟩) hsm (fun s hs => ?_) (by rw [hS]; exact symsTo_nodup f n 16) ((roomy_iff _).2 hnx)
    · have := symsK_len f n (k + 1)
      rw [hC k hk]; omega
    · have := (posL_mem c n s).1 ((hmem s).1 hs); omega
  refine ⟨htab, fun s h0 h1 => ?_, hlen, hmem⟩
  by_cases hs : s ∈ S
  · obtain ⟨x, hx, rfl⟩ := lw_in htab hs
    rw [(lw_mem htab hx).2]
    refine zip_words f n 16 x ?_
    unfold wds at hx
    rw [hS, cds_congr 16 hcc] at hx
    exact hx
  · rw [(lw_pos htab s).2 hs, hz s (fun h => hs ((hmem s).2 h)) h0]
theorem nsum_sub {α : Type} [DecidableEq α] (f : α → Nat) : ∀ (A B : List α), A.Nodup → (∀ a ∈ A, a ∈ B) → nsum f A ≤ nsum f B
  | [], B, _, _ => by simp [nsum]
  | a :: A, B, hn, h => by
    obtain ⟨h1, h2⟩ := List.nodup_cons.1 hn
    have p := List.perm_cons_erase (h a (by simp))
    rw [nsum_perm f p, nsum_cons, nsum_cons]
    have := nsum_sub f A (B.erase a) h2 fun x hx => (List.mem_erase_of_ne (fun e => h1 (by rw [← e]; exact hx))).2 (h x (by simp [hx]))
    omega
theorem cds_sum (c : Nat → Nat) : ∀ k, k ≤ 16 → nsum (fun x => 2 ^ (16 - x.1)) (cds c k) = nx c k * 2 ^ (16 - k)
  | 0, _ => by simp [cds, nsum, nx]
  | k + 1, h => by
    rw [nx_sum c (k + 1) h, sm, ← nx_sum c k (by omega), ← cds_sum c k (by omega), cds, nsum_append, nsum_map]
    refine congrArg (_ + ·) ?_
    have : ∀ m, nsum (fun _ : Nat => 2 ^ (16 - (k + 1))) (List.range m) = m * 2 ^ (15 - k) := fun m => by
      have := nsum_mul (fun _ : Nat => 1) (2 ^ (15 - k)) (List.range m)
      simp only [Nat.one_mul] at this
      rw [show 16 - (k + 1) = 15 - k by omega, this, nsum_const, List.length_range]
    exact this (c k)
/-- The lengths of a valid table that has a word for all that comes. -/
theorem table_len {C S : List Int} (h : tabE C S = 0) (c : List Int) (n : Nat) (hall : ∀ s ∈ posL c n, s ∈ S) : LenOk c n (lw (wds C S)) := by
  obtain ⟨h1, h2, h3, h4, h5, h6⟩ := tabE_ok h
  refine ⟨fun s hs => (lw_pos h s).1 (hall s hs), ?_⟩
  have a1 := nsum_sub (fun s => 2 ^ (16 - lw (wds C S) s)) (posL c n) S (posL_nodup c n) hall
  have a2 : nsum (fun s => 2 ^ (16 - lw (wds C S) s)) S = nsum (fun x => 2 ^ (16 - x.2.1)) (wds C S) := by
    have e1 := nsum_map (fun x : Int × Nat × Nat => x.1) (fun s => 2 ^ (16 - lw (wds C S) s)) (wds C S)
    rw [wds_fst h2] at e1
    rw [e1]
    exact nsum_congr _ _ _ fun x hx => by rw [(lw_mem h hx).2]
  have a3 : nsum (fun x : Int × Nat × Nat => 2 ^ (16 - x.2.1)) (wds C S) = nsum (fun x => 2 ^ (16 - x.1)) (cds (cc C) 16) := by
    rw [← wds_snd h2, nsum_map]
  have a4 := cds_sum (cc C) 16 (Nat.le_refl _)
  have a5 := (roomy_iff _).1 h6
  simp at a4
  have : (2 : Nat) ^ 16 = 65536 := by decide
  omega
end Go.Proofs.Ytembekkanggciaa
