/- What a block that is read has taken: the plain law. -/
import Derived.Test.YthkdckmhmiebfaaRunBlock
namespace Go.Proofs.Ythkdckmhmiebfaa
set_option linter.unusedVariables false
def Bnd (b : List Int) : Prop := b.length = 64 ∧ ∀ i, i < 64 → -2047 ≤ nth b i ∧ nth b i ≤ 2047
theorem Bnd.set {b : List Int} (h : Bnd b) (i : Nat) (n : Int) (hn : -2047 ≤ n ∧ n ≤ 2047) (hi : i < 64) : Bnd (b.set i n) := by
  refine ⟨by rw [List.length_set]; exact h.1, fun j hj => ?_⟩
  rw [nth_set _ _ _ _ (by rw [h.1]; exact hi)]
  split
  · exact hn
  · exact h.2 j hj
theorem num_in (t : Tok) (h : badT t = false) : -2047 ≤ numT t ∧ numT t ≤ 2047 := by
  obtain ⟨t0, t1, t2⟩ := t
  have hiff := badT_eq t0 t1 t2
  rw [h] at hiff
  by_cases hB : okB t1 t2 = true
  · have h11 : t1 ≤ 11 := by
      by_cases h1 : t1 ≤ 11
      · exact h1
      · have := hiff.2 (.inr (.inl (by omega))); cases this
    have := (numT_bd t0 t1 t2 hB).2.2 h11
    omega
  · have := hiff.2 (.inl (by simpa using hB)); cases this
/-- The loop at a list: what it has taken, and that fewer are too short. -/
theorem loop_cons : ∀ (f at_ : Nat) (b : List Int) (all s : List Tok), (frLoop nextL f at_ b all s).1 = 0 → Bnd b →
    ∃ c, (frLoop nextL f at_ b all s).2.2.1 = all ++ c ∧ s = c ++ (frLoop nextL f at_ b all s).2.2.2 ∧ Bnd (frLoop nextL f at_ b all s).2.1 ∧ ∀ k, k < c.length → (frLoop nextL f at_ b all (c.take k)).1 = 3
  | 0, at_, b, all, s, h, hb => ⟨[], by simp [frLoop], by simp [frLoop], hb, fun k hk => by simp at hk⟩
  | f + 1, at_, b, all, s, h, hb => by
    by_cases h64 : 64 ≤ at_
    · have e : frLoop nextL (f + 1) at_ b all s = (0, b, all, s) := by rw [frLoop, if_pos h64]
      rw [e]
      exact ⟨[], by simp, by simp, hb, fun k hk => by simp at hk⟩
    · cases s with
      | nil =>
        rw [frLoop, if_neg h64] at h
        exact absurd h (by show ¬ ((if (3 : Int) ≠ 0 then ((3 : Int), b, all, ([] : List Tok)) else _) : Int × List Int × List Tok × List Tok).1 = 0; rw [if_pos (by decide)]; show ¬ (3 : Int) = 0; decide)
      | cons t r =>
        have hstep : ∀ r : List Tok, frLoop nextL (f + 1) at_ b all (t :: r) = if badT t = true then (4, b, all ++ [t], r) else if t.1 = 0 then (0, b, all ++ [t], r) else if t.1 = 240 then (if 64 < at_ + 16 then (4, b, all ++ [t], r) else frLoop nextL f (at_ + 16) b (all ++ [t]) r) else (if 64 ≤ at_ + t.1.toNat / 16 then (4, b, all ++ [t], r) else frLoop nextL f (at_ + t.1.toNat / 16 + 1) (b.set (at_ + t.1.toNat / 16) (numT t)) (all ++ [t]) r) := fun r => by
          rw [frLoop, if_neg h64]
          show (if (0 : Int) ≠ 0 then _ else _) = _
          rw [if_neg (by simp)]; rfl
        have hshort : (frLoop nextL (f + 1) at_ b all []).1 = 3 := by
          rw [frLoop, if_neg h64]
          show ((if (3 : Int) ≠ 0 then ((3 : Int), b, all, ([] : List Tok)) else _) : Int × List Int × List Tok × List Tok).1 = 3
          rw [if_pos (by decide)]
        rw [hstep r] at h ⊢
        by_cases hbad : badT t = true
        · rw [if_pos hbad] at h; exact absurd h (by show (4 : Int) ≠ 0; decide)
        · have hbf : badT t = false := by simpa using hbad
          rw [if_neg hbad] at h ⊢
          by_cases hend : t.1 = 0
          · rw [if_pos hend]
            refine ⟨[t], rfl, rfl, hb, fun k hk => ?_⟩
            obtain rfl : k = 0 := by simpa using hk
            exact hshort
          · rw [if_neg hend] at h ⊢
            by_cases hlong : t.1 = 240
            · rw [if_pos hlong] at h ⊢
              by_cases hov : 64 < at_ + 16
              · rw [if_pos hov] at h; exact absurd h (by show (4 : Int) ≠ 0; decide)
              · rw [if_neg hov] at h ⊢
                obtain ⟨c, c1, c2, c3, c4⟩ := loop_cons f (at_ + 16) b (all ++ [t]) r h hb
                refine ⟨t :: c, by rw [c1]; simp, by rw [List.cons_append, ← c2], c3, fun k hk => ?_⟩
                cases k with
                | zero => exact hshort
                | succ k =>
                  rw [List.take_succ_cons, hstep, if_neg hbad, if_neg hend, if_pos hlong, if_neg hov]
                  exact c4 k (by simpa using hk)
            · rw [if_neg hlong] at h ⊢
              by_cases hov : 64 ≤ at_ + t.1.toNat / 16
              · rw [if_pos hov] at h; exact absurd h (by show (4 : Int) ≠ 0; decide)
              · rw [if_neg hov] at h ⊢
                obtain ⟨c, c1, c2, c3, c4⟩ := loop_cons f (at_ + t.1.toNat / 16 + 1) (b.set (at_ + t.1.toNat / 16) (numT t)) (all ++ [t]) r h (hb.set _ _ (num_in t hbf) (by omega))
                refine ⟨t :: c, by rw [c1]; simp, by rw [List.cons_append, ← c2], c3, fun k hk => ?_⟩
                cases k with
                | zero => exact hshort
                | succ k =>
                  rw [List.take_succ_cons, hstep, if_neg hbad, if_neg hend, if_neg hlong, if_neg hov]
                  exact c4 k (by simpa using hk)
theorem first_bnd (n : Int) (h : -2047 ≤ n ∧ n ≤ 2047) : Bnd (first0 n) := by
  unfold first0
  exact Bnd.set ⟨List.length_replicate, fun i hi => by rw [nth_zeros]; omega⟩ 0 n h (by omega)
theorem okFirst_in {before : Int} {t : Tok} (h : okFirst before t = true) : -2047 ≤ before + numT t ∧ before + numT t ≤ 2047 := by
  unfold okFirst at h
  simp only [Bool.and_eq_true, decide_eq_true_eq] at h
  exact h.2
/-- A block that has been read. -/
theorem frm_cons (before : Int) (s : List Tok) (h : (frm nextL before s).1 = 0) : ∃ c z, s = c ++ (frm nextL before s).2.2.2 ∧ (frm nextL before s).2.2.1 = c ∧ 1 ≤ c.length ∧ (frm nextL before s).2.1 = zfrom z ∧ Bnd z ∧ toksOf before z = c ∧ ∀ k, k < c.length → (frm nextL before (c.take k)).1 = 3 := by
  cases s with
  | nil =>
    unfold frm at h
    rw [if_pos (show (nextL [] true).2.1 ≠ 0 by decide)] at h
    exact absurd h (by show (3 : Int) ≠ 0; decide)
  | cons t r =>
    have hstep : ∀ r : List Tok, frm nextL before (t :: r) = if okFirst before t = false then (4, List.replicate 64 0, [], r) else if (frLoop nextL 64 1 (first0 (before + numT t)) [t] r).1 ≠ 0 then ((frLoop nextL 64 1 (first0 (before + numT t)) [t] r).1, List.replicate 64 0, [], (frLoop nextL 64 1 (first0 (before + numT t)) [t] r).2.2.2) else
        if toksOf before (frLoop nextL 64 1 (first0 (before + numT t)) [t] r).2.1 = (frLoop nextL 64 1 (first0 (before + numT t)) [t] r).2.2.1 then (0, zfrom (frLoop nextL 64 1 (first0 (before + numT t)) [t] r).2.1, (frLoop nextL 64 1 (first0 (before + numT t)) [t] r).2.2.1, (frLoop nextL 64 1 (first0 (before + numT t)) [t] r).2.2.2) else (4, List.replicate 64 0, [], (frLoop nextL 64 1 (first0 (before + numT t)) [t] r).2.2.2) := fun r => by
      unfold frm
      rw [if_neg (show ¬ (nextL (t :: r) true).2.1 ≠ 0 by simp [nextL])]
      rfl
    have hshort : (frm nextL before []).1 = 3 := by
      unfold frm
      rw [if_pos (show (nextL [] true).2.1 ≠ 0 by decide)]; rfl
    rw [hstep r] at h ⊢
    by_cases h1 : okFirst before t = false
    · rw [if_pos h1] at h; exact absurd h (by show (4 : Int) ≠ 0; decide)
    · have hok : okFirst before t = true := by simpa using h1
      rw [if_neg h1] at h ⊢
      by_cases h2 : (frLoop nextL 64 1 (first0 (before + numT t)) [t] r).1 ≠ 0
      · rw [if_pos h2] at h; exact absurd h h2
      · rw [if_neg h2] at h ⊢
        have h20 : (frLoop nextL 64 1 (first0 (before + numT t)) [t] r).1 = 0 := by
          by_cases h3 : (frLoop nextL 64 1 (first0 (before + numT t)) [t] r).1 = 0
          · exact h3
          · exact absurd h3 h2
        obtain ⟨c, c1, c2, c3, c4⟩ := loop_cons 64 1 (first0 (before + numT t)) [t] r h20 (first_bnd _ (okFirst_in hok))
        by_cases h3 : toksOf before (frLoop nextL 64 1 (first0 (before + numT t)) [t] r).2.1 = (frLoop nextL 64 1 (first0 (before + numT t)) [t] r).2.2.1
        · rw [if_pos h3]
          obtain ⟨q, hq⟩ : ∃ q, frLoop nextL 64 1 (first0 (before + numT t)) [t] r = q := ⟨_, rfl⟩
          rw [hq] at c1 c2 c3 h3 ⊢
          obtain ⟨q1, qb, qa, qs⟩ := q
          dsimp only at c1 c2 c3 h3 ⊢
          refine ⟨t :: c, qb, by rw [List.cons_append, ← c2], by rw [c1]; rfl, by simp, rfl, c3, by rw [h3, c1]; rfl, fun k hk => ?_⟩
          cases k with
          | zero => exact hshort
          | succ k =>
            have h4 := c4 k (by simpa using hk)
            rw [List.take_succ_cons, hstep, if_neg h1, if_pos (by rw [h4]; decide)]
            exact h4
        · rw [if_neg h3] at h; exact absurd h (by show (4 : Int) ≠ 0; decide)
end Go.Proofs.Ythkdckmhmiebfaa
