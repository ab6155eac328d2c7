/- Decoding what has been encoded: the plain law. -/
import Derived.Test.YtccgcefeenloiaaCode
namespace Go.Proofs.Ytccgcefeenloiaa
set_option linter.unusedVariables false
theorem numAt_div (l : List Nat) (i k m : Nat) (h : k ≤ m) (hm : i + m ≤ 8 * l.length) : numAt l i m / 2 ^ (m - k) = numAt l i k := by
  unfold numAt
  have e : ((unpack l).drop i).take m = ((unpack l).drop i).take k ++ ((((unpack l).drop i).drop k).take (m - k)) := by
    conv => lhs; rw [show m = k + (m - k) by omega, List.take_add]
  have hl : ((((unpack l).drop i).drop k).take (m - k)).length = m - k := by
    rw [List.length_take, List.length_drop, List.length_drop, unpack_len]; omega
  have hlt := num_lt ((((unpack l).drop i).drop k).take (m - k))
  rw [e, num_append]
  rw [hl] at hlt ⊢
  rw [Nat.mul_comm, Nat.mul_add_div (Nat.two_pow_pos _), Nat.div_eq_of_lt hlt, Nat.add_zero]
theorem gt_word {L : List (Int × Nat × Nat)} (hG : Good L) (l : List Nat) (i : Nat) (x : Int × Nat × Nat) (hx : x ∈ L) (hi : i + x.2.1 ≤ 8 * l.length) (hb : numAt l i x.2.1 = x.2.2) :
    ∀ f d, d + f = 16 → d < x.2.1 → gtW L l i f d = (x.1, 0, i + x.2.1) := by
  have hl := hG.long x hx
  intro f
  induction f with
  | zero => intro d h1 h2; omega
  | succ f ih =>
    intro d h1 h2
    rw [gtW, if_neg (by omega)]
    cases hc : codW L (((d + 1 : Nat) : Int), (numAt l i (d + 1) : Int)) with
    | some s =>
      have hm := codW_mem hc
      have e := hG.pre _ hm x hx (by show d + 1 ≤ x.2.1; omega) (by show x.2.2 / 2 ^ (x.2.1 - (d + 1)) = numAt l i (d + 1); rw [← hb]; exact numAt_div l i (d + 1) x.2.1 (by omega) hi)
      dsimp only
      have e1 : s = x.1 := by rw [← e]
      have e2 : d + 1 = x.2.1 := by rw [← e]
      rw [e1, e2]
    | none =>
      dsimp only
      refine ih (d + 1) (by omega) ?_
      have hne : d + 1 ≠ x.2.1 := fun e => by
        rw [e, hb] at hc
        rw [hG.codW hx] at hc; cases hc
      omega
theorem gt_ok {L : List (Int × Nat × Nat)} (l : List Nat) (i : Nat) : ∀ f d, (gtW L l i f d).2.1 = 0 → ∃ m, d < m ∧ m ≤ d + f ∧ (gtW L l i f d).2.2 = i + m ∧ i + m ≤ 8 * l.length ∧ ((gtW L l i f d).1, m, numAt l i m) ∈ L := by
  intro f
  induction f with
  | zero => intro d h; exact absurd h (by show (4 : Int) ≠ 0; decide)
  | succ f ih =>
    intro d h
    rw [gtW] at h ⊢
    by_cases hs : 8 * l.length < i + (d + 1)
    · rw [if_pos hs] at h; exact absurd h (by show (3 : Int) ≠ 0; decide)
    · rw [if_neg hs] at h ⊢
      cases hc : codW L (((d + 1 : Nat) : Int), (numAt l i (d + 1) : Int)) with
      | some s => exact ⟨d + 1, by omega, by omega, rfl, by omega, codW_mem hc⟩
      | none =>
        rw [hc] at h
        obtain ⟨m, h1, h2, h3, h4, h5⟩ := ih (d + 1) h
        exact ⟨m, by omega, by omega, h3, h4, h5⟩
theorem wb_of {L : List (Int × Nat × Nat)} (hG : Good L) {x : Int × Nat × Nat} (hx : x ∈ L) : wb L x.1 = bitsOf x.2.1 x.2.2 := by
  unfold wb; rw [hG.symW hx]
/-- Symbols that have words are read as they were written. -/
theorem dc_back {L : List (Int × Nat × Nat)} (hG : Good L) (l : List Nat) : ∀ (syms : List Int) (pre rest : List Bool), (∀ s ∈ syms, (symW L s).isSome = true) → unpack l = pre ++ (encBits L syms ++ rest) →
    dcW L l syms.length pre.length = (syms, 0, pre.length + (encBits L syms).length)
  | [], pre, rest, _, _ => by simp [dcW, encBits]
  | s :: syms, pre, rest, hs, hu => by
    obtain ⟨y, hy⟩ := Option.isSome_iff_exists.1 (hs s (by simp))
    have hm := symW_mem hy
    have hw : wb L s = bitsOf y.1 y.2 := wb_of hG hm
    have hlg := hG.long _ hm
    dsimp only at hlg
    have hen : encBits L (s :: syms) = bitsOf y.1 y.2 ++ encBits L syms := by simp [encBits, hw]
    have hlen : 8 * l.length = pre.length + (y.1 + ((encBits L syms).length + rest.length)) := by
      rw [← unpack_len, hu, hen]; simp only [List.length_append, bitsOf_len]; omega
    have hb : numAt l pre.length y.1 = y.2 := by
      unfold numAt
      rw [hu, List.drop_left' rfl, hen, List.append_assoc, List.take_left' (bitsOf_len _ _), num_bitsOf_lt _ _ (by omega)]
    have hg := gt_word hG l pre.length (s, y) hm (by show pre.length + y.1 ≤ _; omega) hb 16 0 (by omega) (by show 0 < y.1; omega)
    have ih := dc_back hG l syms (pre ++ bitsOf y.1 y.2) rest (fun s hs' => hs s (by simp [hs'])) (by rw [hu, hen, List.append_assoc, List.append_assoc])
    rw [List.length_append, bitsOf_len] at ih
    rw [List.length_cons, dcW, hg, if_pos rfl]
    show (s :: (dcW L l syms.length (pre.length + y.1)).1, (dcW L l syms.length (pre.length + y.1)).2) = _
    rw [ih, hen, List.length_append, bitsOf_len, Nat.add_assoc]
theorem back_table {C S syms : List Int} (h : encE C S syms = 0) : tabE C S = 0 ∧ syms.length ≤ 20000 ∧ decE C S (encB C S syms) syms.length = 0 ∧ decV C S (encB C S syms) syms.length = syms ∧ decT C S (encB C S syms) syms.length = (encBits (wds C S) syms).length ∧ (encB C S syms).length = ((encBits (wds C S) syms).length + 7) / 8 ∧ (encBits (wds C S) syms).length ≤ 16 * syms.length := by
  have hB : encB C S syms = bytesOf (encBits (wds C S) syms) := by rw [encB, if_pos h]
  unfold encE at h
  split at h
  · rename_i h1
    split at h
    · cases h
    · rename_i h2
      split at h
      · rename_i h3
        have hG := wds_good h1
        have hd := dc_back hG (encB C S syms) syms [] (padding (encBits (wds C S) syms)) (fun s hs => (symW_iff h1 s).2 (by
          have := List.all_eq_true.1 h3 s hs; simpa using this)) (by rw [hB, unpack_bytesOf]; rfl)
        rw [List.length_nil, Nat.zero_add] at hd
        have hE : decE C S (encB C S syms) syms.length = 0 := by
          rw [decE, if_pos h1, if_pos ⟨by omega, by omega⟩, Int.toNat_natCast, hd]
        refine ⟨h1, by omega, hE, ?_, ?_, by rw [hB, bytesOf_len], encBits_len hG syms⟩
        · rw [decV, if_pos hE, Int.toNat_natCast, hd]
        · rw [decT, if_pos hE, Int.toNat_natCast, hd]
      · cases h
  · rename_i h1; exact absurd h h1
/-- What is read in n symbols. -/
theorem dc_ok {L : List (Int × Nat × Nat)} (hG : Good L) (l : List Nat) : ∀ (n i : Nat), (dcW L l n i).2.1 = 0 → i ≤ 8 * l.length →
    (dcW L l n i).1.length = n ∧ (∀ s ∈ (dcW L l n i).1, (symW L s).isSome = true) ∧ i ≤ (dcW L l n i).2.2 ∧ (dcW L l n i).2.2 ≤ 8 * l.length ∧ (dcW L l n i).2.2 ≤ i + 16 * n ∧ encBits L (dcW L l n i).1 = ((unpack l).drop i).take ((dcW L l n i).2.2 - i) ∧
    ∀ k, k ≤ n → (dcW L l k i).2.1 = 0 ∧ (dcW L l k i).1 = (dcW L l n i).1.take k ∧ (dcW L l k i).2.2 ≤ (dcW L l n i).2.2
  | 0, i, _, hi => by
    refine ⟨rfl, fun s hs => (by cases hs), Nat.le_refl _, hi, by simp [dcW], by simp [dcW, encBits], fun k hk => ?_⟩
    obtain rfl : k = 0 := by omega
    exact ⟨rfl, rfl, Nat.le_refl _⟩
  | n + 1, i, h, hi => by
    rw [dcW] at h
    by_cases h0 : (gtW L l i 16 0).2.1 = 0
    · rw [if_pos h0] at h
      obtain ⟨m, h1, h2, h3, h4, h5⟩ := gt_ok l i 16 0 h0
      have e : dcW L l (n + 1) i = ((gtW L l i 16 0).1 :: (dcW L l n (i + m)).1, (dcW L l n (i + m)).2) := by rw [dcW, if_pos h0, h3]
      rw [h3] at h
      obtain ⟨r1, r2, r3, r4, r5, r6, r7⟩ := dc_ok hG l n (i + m) h h4
      rw [e]
      dsimp only
      have hw := wb_of hG h5
      dsimp only at hw
      refine ⟨by simp [r1], fun s hs => ?_, by omega, r4, by omega, ?_, fun k hk => ?_⟩
      · rcases List.mem_cons.1 hs with rfl | hs
        · have := hG.symW h5
          dsimp only at this
          rw [this]; rfl
        · exact r2 s hs
      · have e2 : encBits L ((gtW L l i 16 0).1 :: (dcW L l n (i + m)).1) = bitsOf m (numAt l i m) ++ encBits L (dcW L l n (i + m)).1 := by simp [encBits, hw]
        rw [e2, r6]
        have hbm : bitsOf m (numAt l i m) = ((unpack l).drop i).take m := by
          have := bitsOf_num (((unpack l).drop i).take m)
          rw [show (((unpack l).drop i).take m).length = m by rw [List.length_take, List.length_drop, unpack_len]; omega] at this
          exact this
        rw [hbm, ← List.drop_drop, show (dcW L l n (i + m)).2.2 - i = m + ((dcW L l n (i + m)).2.2 - (i + m)) by omega, List.take_add]
      · cases k with
        | zero => exact ⟨rfl, rfl, by show i ≤ _; omega⟩
        | succ k =>
          obtain ⟨q1, q2, q3⟩ := r7 k (by omega)
          have e3 : dcW L l (k + 1) i = ((gtW L l i 16 0).1 :: (dcW L l k (i + m)).1, (dcW L l k (i + m)).2) := by rw [dcW, if_pos h0, h3]
          rw [e3]
          exact ⟨q1, by rw [List.take_succ_cons, q2], q3⟩
    · rw [if_neg h0] at h
      exact absurd h h0
end Go.Proofs.Ytccgcefeenloiaa
