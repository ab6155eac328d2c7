/- Reading blocks from tokens: the plain law. -/
import Derived.Test.YtccgcefeenloiaaRunMath
namespace Go.Proofs.Ytccgcefeenloiaa
set_option linter.unusedVariables false
/-- Whether a token is none (of those behind the first). -/
def badT (t : Tok) : Bool := !(decide (0 ≤ t.2.1 ∧ t.2.1 ≤ 11) && decide (0 ≤ t.2.2 ∧ t.2.2 < 2 ^ t.2.1.toNat) && decide (0 ≤ t.1 ∧ t.1 ≤ 255) && decide (t.2.1 = t.1 % 16) && (decide (t.2.1 ≠ 0) || decide (t.1 = 0 ∨ t.1 = 240)))
def numT (t : Tok) : Int := sback t.2.1.toNat t.2.2.toNat
section
variable {σ : Type} (next : σ → Bool → Tok × Int × σ)
def frLoop : Nat → Nat → List Int → List Tok → σ → Int × List Int × List Tok × σ
  | 0, _, b, all, s => (0, b, all, s)
  | f + 1, at_, b, all, s =>
    if 64 ≤ at_ then (0, b, all, s) else
    if (next s false).2.1 ≠ 0 then ((next s false).2.1, b, all, (next s false).2.2) else
    if badT (next s false).1 = true then (4, b, all ++ [(next s false).1], (next s false).2.2) else
    if (next s false).1.1 = 0 then (0, b, all ++ [(next s false).1], (next s false).2.2) else
    if (next s false).1.1 = 240 then
      if 64 < at_ + 16 then (4, b, all ++ [(next s false).1], (next s false).2.2) else frLoop f (at_ + 16) b (all ++ [(next s false).1]) (next s false).2.2
    else
      if 64 ≤ at_ + (next s false).1.1.toNat / 16 then (4, b, all ++ [(next s false).1], (next s false).2.2)
      else frLoop f (at_ + (next s false).1.1.toNat / 16 + 1) (b.set (at_ + (next s false).1.1.toNat / 16) (numT (next s false).1)) (all ++ [(next s false).1]) (next s false).2.2
def okFirst (before : Int) (t : Tok) : Bool := decide (0 ≤ t.2.1 ∧ t.2.1 ≤ 12) && decide (0 ≤ t.2.2 ∧ t.2.2 < 2 ^ t.2.1.toNat) && decide (t.1 = t.2.1) && decide (-2047 ≤ before + numT t ∧ before + numT t ≤ 2047)
def first0 (n : Int) : List Int := (List.replicate 64 0).set 0 n
/-- What From gives: what goes wrong, the block, the tokens, the source behind them. -/
def frm (before : Int) (s : σ) : Int × List Int × List Tok × σ :=
  if (next s true).2.1 ≠ 0 then ((next s true).2.1, List.replicate 64 0, [], (next s true).2.2) else
  if okFirst before (next s true).1 = false then (4, List.replicate 64 0, [], (next s true).2.2) else
  if (frLoop next 64 1 (first0 (before + numT (next s true).1)) [(next s true).1] (next s true).2.2).1 ≠ 0 then
    ((frLoop next 64 1 (first0 (before + numT (next s true).1)) [(next s true).1] (next s true).2.2).1, List.replicate 64 0, [], (frLoop next 64 1 (first0 (before + numT (next s true).1)) [(next s true).1] (next s true).2.2).2.2.2) else
  if toksOf before (frLoop next 64 1 (first0 (before + numT (next s true).1)) [(next s true).1] (next s true).2.2).2.1 = (frLoop next 64 1 (first0 (before + numT (next s true).1)) [(next s true).1] (next s true).2.2).2.2.1 then
    (0, zfrom (frLoop next 64 1 (first0 (before + numT (next s true).1)) [(next s true).1] (next s true).2.2).2.1, (frLoop next 64 1 (first0 (before + numT (next s true).1)) [(next s true).1] (next s true).2.2).2.2.1, (frLoop next 64 1 (first0 (before + numT (next s true).1)) [(next s true).1] (next s true).2.2).2.2.2)
  else (4, List.replicate 64 0, [], (frLoop next 64 1 (first0 (before + numT (next s true).1)) [(next s true).1] (next s true).2.2).2.2.2)
end
theorem sback_sv (n : Int) : sback (sz n) (sv n).toNat = n ∧ 0 ≤ sv n ∧ sv n < 2 ^ sz n := by
  obtain ⟨h1, h2⟩ := blen_spec n.natAbs
  have hz : blen n.natAbs = sz n := rfl
  rw [hz] at h1 h2
  have e : ((2 : Int) ^ sz n) = ((2 ^ sz n : Nat) : Int) := by push_cast; rfl
  rw [e]
  by_cases hn : n < 0
  · obtain ⟨h3, h4⟩ := h2 (by omega)
    have hsv : sv n = n + ((2 ^ sz n - 1 : Nat) : Int) := by unfold sv; rw [if_pos hn]
    have hp : 2 ^ sz n = 2 * 2 ^ (sz n - 1) := by rw [← Nat.pow_succ']; congr 1; omega
    obtain ⟨p, hpe⟩ : ∃ p, 2 ^ (sz n - 1) = p := ⟨_, rfl⟩
    rw [hpe] at h4 hp
    rw [hp] at h1 hsv
    refine ⟨?_, by rw [hsv]; omega, by rw [hp, hsv]; omega⟩
    unfold sback
    rw [if_pos ⟨by omega, by rw [hpe, hsv]; omega⟩, hp, hsv]; omega
  · have hsv : sv n = n := by unfold sv; rw [if_neg hn]
    by_cases h0 : n = 0
    · subst h0
      rw [sv_zero, sz_zero]
      exact ⟨rfl, by omega, by decide⟩
    · obtain ⟨h3, h4⟩ := h2 (by omega)
      refine ⟨?_, by rw [hsv]; omega, by rw [hsv]; omega⟩
      unfold sback
      rw [if_neg (by rw [hsv]; omega), hsv]; omega
theorem tok_ok (r : Nat) (n : Int) (hr : r ≤ 15) (hn : n ≠ 0) (hb : -2048 < n ∧ n < 2048) : badT (tok r n) = false ∧ (tok r n).1 ≠ 0 ∧ (tok r n).1 ≠ 240 ∧ (tok r n).1.toNat / 16 = r ∧ numT (tok r n) = n := by
  have h1 := sz_pos n hn
  have h2 := sz_le11 n hb
  obtain ⟨h3, h4, h5⟩ := sback_sv n
  unfold tok
  refine ⟨?_, by show ((r * 16 + sz n : Nat) : Int) ≠ 0; omega, by show ((r * 16 + sz n : Nat) : Int) ≠ 240; omega, by show ((r * 16 + sz n : Nat) : Int).toNat / 16 = r; omega, ?_⟩
  · unfold badT
    dsimp only
    rw [decide_eq_true (show 0 ≤ ((sz n : Nat) : Int) ∧ ((sz n : Nat) : Int) ≤ 11 by omega), decide_eq_true (show 0 ≤ sv n ∧ sv n < 2 ^ ((sz n : Nat) : Int).toNat by rw [Int.toNat_natCast]; exact ⟨h4, h5⟩), decide_eq_true (show 0 ≤ ((r * 16 + sz n : Nat) : Int) ∧ ((r * 16 + sz n : Nat) : Int) ≤ 255 by omega),
      decide_eq_true (show ((sz n : Nat) : Int) = ((r * 16 + sz n : Nat) : Int) % 16 by omega), decide_eq_true (show ((sz n : Nat) : Int) ≠ 0 by omega)]
    rfl
  · unfold numT
    dsimp only
    rw [Int.toNat_natCast]; exact h3
theorem first_ok (before n : Int) (hb : -2047 ≤ before ∧ before ≤ 2047) (hn : -2047 ≤ n ∧ n ≤ 2047) : okFirst before (tok 0 (n - before)) = true ∧ before + numT (tok 0 (n - before)) = n := by
  obtain ⟨h3, h4, h5⟩ := sback_sv (n - before)
  have h2 := sz_le (n - before) (by omega)
  have hnum : numT (tok 0 (n - before)) = n - before := by unfold numT tok; dsimp only; rw [Int.toNat_natCast]; exact h3
  refine ⟨?_, by rw [hnum]; omega⟩
  unfold okFirst
  rw [hnum]
  unfold tok
  dsimp only
  rw [decide_eq_true (show 0 ≤ ((sz (n - before) : Nat) : Int) ∧ ((sz (n - before) : Nat) : Int) ≤ 12 by omega), decide_eq_true (show 0 ≤ sv (n - before) ∧ sv (n - before) < 2 ^ ((sz (n - before) : Nat) : Int).toNat by rw [Int.toNat_natCast]; exact ⟨h4, h5⟩),
    decide_eq_true (show ((0 * 16 + sz (n - before) : Nat) : Int) = ((sz (n - before) : Nat) : Int) by omega), decide_eq_true (show -2047 ≤ before + (n - before) ∧ before + (n - before) ≤ 2047 by omega)]
  rfl
/-- A source that is a list. -/
def nextL : List Tok → Bool → Tok × Int × List Tok
  | [], _ => ((0, 0, 0), 3, [])
  | t :: r, _ => (t, 0, r)
/-- A source that hands out a list, whatever comes behind. -/
def Feeds {σ : Type} (next : σ → Bool → Tok × Int × σ) : List Tok → σ → σ → Prop
  | [], s, s' => s = s'
  | t :: r, s, s' => (next s false).1 = t ∧ (next s false).2.1 = 0 ∧ Feeds next r (next s false).2.2 s'
/-- Some noughts, and what is behind them. -/
theorem zeros_split : ∀ l : List Int, (∀ n ∈ l, n = 0) ∨ ∃ m n l', n ≠ 0 ∧ l = List.replicate m 0 ++ n :: l'
  | [] => .inl (by simp)
  | n :: l => by
    by_cases h : n = 0
    · rcases zeros_split l with h2 | ⟨m, n', l', h2, h3⟩
      · exact .inl (by intro x hx; rcases List.mem_cons.1 hx with rfl | hx; exact h; exact h2 x hx)
      · exact .inr ⟨m + 1, n', l', h2, by rw [h3, h]; rfl⟩
    · exact .inr ⟨0, n, l, h, rfl⟩
theorem tks_zeros (m : Nat) (n : Int) (l : List Int) (hn : n ≠ 0) : ∀ r, tks r (List.replicate m 0 ++ n :: l) = List.replicate ((r + m) / 16) longT ++ (tok ((r + m) % 16) n :: tks 0 l) := by
  induction m with
  | zero => intro r; simp only [List.replicate_zero, List.nil_append, tks, if_neg hn, Nat.add_zero]
  | succ m ih => intro r; rw [List.replicate_succ, List.cons_append, tks, if_pos rfl, ih, show r + 1 + m = r + (m + 1) by omega]
theorem tks_end : ∀ (l : List Int) (r : Nat), (∀ n ∈ l, n = 0) → tks r l = if 0 < r + l.length then [endT] else []
  | [], r, _ => by simp [tks]
  | n :: l, r, h => by
    rw [tks, if_pos (h n (by simp)), tks_end l (r + 1) fun x hx => h x (by simp [hx])]
    simp only [List.length_cons]
    rw [if_pos (by omega), if_pos (by omega)]
section
variable {σ : Type} {next : σ → Bool → Tok × Int × σ}
theorem Feeds.append : ∀ {l m : List Tok} {s s' : σ}, Feeds next (l ++ m) s s' → ∃ s1, Feeds next l s s1 ∧ Feeds next m s1 s'
  | [], m, s, s', h => ⟨s, rfl, h⟩
  | t :: l, m, s, s', ⟨h1, h2, h3⟩ => by
    obtain ⟨s1, h4, h5⟩ := Feeds.append h3
    exact ⟨s1, ⟨h1, h2, h4⟩, h5⟩
theorem bad_long : badT longT = false := by decide +kernel
theorem bad_end : badT endT = false := by decide +kernel
theorem loop_long (f : Nat) (at_ : Nat) (b : List Int) (all : List Tok) (s s' : σ) : ∀ q, at_ + 16 * q ≤ 63 → Feeds next (List.replicate q longT) s s' →
    frLoop next (f + q) at_ b all s = frLoop next f (at_ + 16 * q) b (all ++ List.replicate q longT) s' := by
  intro q
  induction q generalizing at_ all s with
  | zero => intro _ h; rw [show s = s' from h]; simp
  | succ q ih =>
    intro hq h
    rw [List.replicate_succ] at h
    obtain ⟨h1, h2, h3⟩ := h
    rw [show f + (q + 1) = (f + q) + 1 by omega, frLoop, if_neg (by omega), h1, h2, if_neg (by simp), if_neg (by rw [bad_long]; simp), if_neg (by decide), if_pos (show longT.1 = 240 from rfl), if_neg (by omega), ih (at_ + 16) _ _ (by omega) h3, List.replicate_succ]
    rw [show at_ + 16 + 16 * q = at_ + 16 * (q + 1) by omega]
    simp
theorem set_mid (z b : List Int) (at_ j : Nat) (hz : z.length = 64) (hb : b = z.take at_ ++ List.replicate (64 - at_) 0) (hj : at_ + j < 64) (hzero : ∀ i, i < j → nth z (at_ + i) = 0) : b.set (at_ + j) (nth z (at_ + j)) = z.take (at_ + j + 1) ++ List.replicate (64 - (at_ + j + 1)) 0 := by
  have hbl : b.length = 64 := by rw [hb]; simp [hz]; omega
  apply list_ext
  · simp [hbl, hz]; omega
  · intro i hi
    rw [List.length_set, hbl] at hi
    rw [nth_set _ _ _ _ (by omega)]
    have hL : (z.take at_).length = at_ := by simp [hz]; omega
    have hL2 : (z.take (at_ + j + 1)).length = at_ + j + 1 := by simp [hz]; omega
    have htake : ∀ k, i < k → nth (z.take k) i = nth z i := fun k hk => nth_take _ _ _ hk
    split
    · rename_i h; subst h
      rw [nth_app1 _ _ _ (by omega), htake _ (by omega)]
    · rename_i h
      rw [hb]
      by_cases h1 : i < at_
      · rw [nth_app1 _ _ _ (by omega), nth_app1 _ _ _ (by omega), htake _ h1, htake _ (by omega)]
      · rw [nth_app2 _ _ _ (by omega), nth_zeros]
        by_cases h2 : i < at_ + j + 1
        · rw [nth_app1 _ _ _ (by omega), htake _ h2]
          have := hzero (i - at_) (by omega)
          rw [show at_ + (i - at_) = i by omega] at this
          exact this.symm
        · rw [nth_app2 _ _ _ (by omega), nth_zeros]
/-- The loop reads the tokens of the numbers behind. -/
theorem loop_toks (z : List Int) (hz : z.length = 64) (hr : ∀ i, i < 64 → -2047 ≤ nth z i ∧ nth z i ≤ 2047) : ∀ (k at_ f : Nat) (b : List Int) (all : List Tok) (s s' : σ), 64 - at_ = k → at_ ≤ 64 → k ≤ f → b = z.take at_ ++ List.replicate (64 - at_) 0 → Feeds next (tks 0 (z.drop at_)) s s' →
    frLoop next f at_ b all s = (0, z, all ++ tks 0 (z.drop at_), s') := by
  intro k
  induction k using Nat.strongRecOn with
  | _ k ih =>
    intro at_ f b all s s' hk hat hf hb hfd
    by_cases h64 : at_ = 64
    · subst h64
      have hd : z.drop 64 = [] := by rw [List.drop_eq_nil_iff]; omega
      rw [hd] at hfd ⊢
      have hs : s = s' := hfd
      have hbz : b = z := by rw [hb, Nat.sub_self, List.replicate_zero, List.append_nil, ← hz, List.take_length]
      cases f with
      | zero => rw [frLoop, hs, hbz]; simp [tks]
      | succ f => rw [frLoop, if_pos (by omega), hs, hbz]; simp [tks]
    · rcases zeros_split (z.drop at_) with hall | ⟨m, n, l', hn, hl'⟩
      · rw [tks_end _ 0 hall] at hfd ⊢
        have hlen : 0 < 0 + (z.drop at_).length := by rw [List.length_drop, hz]; omega
        rw [if_pos hlen] at hfd ⊢
        obtain ⟨h1, h2, h3⟩ := hfd
        obtain ⟨f, rfl⟩ : ∃ g, f = g + 1 := ⟨f - 1, by omega⟩
        have hbz : b = z := by
          rw [hb]
          conv => rhs; rw [← List.take_append_drop at_ z]
          congr 1
          have : (z.drop at_).length = 64 - at_ := by rw [List.length_drop, hz]
          rw [← this]
          exact (List.eq_replicate_iff.2 ⟨rfl, hall⟩).symm
        rw [frLoop, if_neg (by omega), h1, h2, if_neg (by simp), if_neg (by rw [bad_end]; simp), if_pos (show endT.1 = 0 from rfl), hbz, show (next s false).2.2 = s' from h3]
      · rw [hl', tks_zeros m n l' hn 0, Nat.zero_add] at hfd ⊢
        have hdl : (z.drop at_).length = 64 - at_ := by rw [List.length_drop, hz]
        rw [hl', List.length_append, List.length_replicate, List.length_cons] at hdl
        have hnth : ∀ i, nth z (at_ + i) = nth (List.replicate m 0 ++ n :: l') i := fun i => by rw [← hl', nth_drop]
        have hnm : nth z (at_ + m) = n := by rw [hnth, nth_app2 _ _ _ (by simp)]; simp [nth]
        have hd2 : z.drop (at_ + m + 1) = l' := by
          have : z.drop (at_ + m + 1) = (z.drop at_).drop (m + 1) := by rw [List.drop_drop, Nat.add_assoc]
          rw [this, hl', List.drop_append, List.drop_of_length_le (by simp)]; simp
        obtain ⟨s1, hf1, hf2⟩ := hfd.append
        obtain ⟨h1, h2, h3⟩ := hf2
        have hq : 16 * (m / 16) + m % 16 = m := Nat.div_add_mod m 16
        obtain ⟨g, hg⟩ : ∃ g, f = (g + 1) + m / 16 := ⟨f - 1 - m / 16, by omega⟩
        obtain ⟨t1, t2, t3, t4, t5⟩ := tok_ok (m % 16) n (by omega) hn (by have := hr (at_ + m) (by omega); rw [hnm] at this; omega)
        rw [hg, loop_long (g + 1) at_ b all s s1 (m / 16) (by omega) hf1, frLoop, if_neg (by omega), h1, h2, if_neg (by simp), if_neg (by rw [t1]; simp), if_neg t2, if_neg t3, t4, t5, if_neg (by omega)]
        rw [show at_ + 16 * (m / 16) + m % 16 = at_ + m by omega]
        have hset := set_mid z b at_ m hz hb (by omega) fun i hi => by rw [hnth, nth_app1 _ _ _ (by simpa using hi), nth_rep _ _ _ hi]
        rw [hnm] at hset
        have := ih (64 - (at_ + m + 1)) (by omega) (at_ + m + 1) g (b.set (at_ + m) n) (all ++ List.replicate (m / 16) longT ++ [tok (m % 16) n]) (next s1 false).2.2 s' rfl (by omega) (by omega) hset (by rw [hd2]; exact h3)
        rw [this, hd2]
        simp
theorem frm_toks (before : Int) (z : List Int) (hz : z.length = 64) (hb : -2047 ≤ before ∧ before ≤ 2047) (hr : ∀ i, i < 64 → -2047 ≤ nth z i ∧ nth z i ≤ 2047) (s s' : σ) (h1 : (next s true).1 = tok 0 (nth z 0 - before)) (h2 : (next s true).2.1 = 0)
    (h3 : Feeds next (tks 0 (z.drop 1)) (next s true).2.2 s') : frm next before s = (0, zfrom z, toksOf before z, s') := by
  obtain ⟨f1, f2⟩ := first_ok before (nth z 0) hb (hr 0 (by omega))
  have hl := loop_toks z hz hr 63 1 64 (first0 (nth z 0)) [tok 0 (nth z 0 - before)] (next s true).2.2 s' rfl (by omega) (by omega) (by
    unfold first0
    match z, hz with
    | n :: z, _ => rfl) h3
  unfold frm
  rw [h1, h2, if_neg (by simp), if_neg (by rw [f1]; simp), f2, hl]
  rw [if_neg (by simp)]
  exact (if_pos (show toksOf before z = _ from rfl)).trans rfl
end
/-- Behind the tokens of a list that is a source. -/
theorem feeds_list : ∀ (l m : List Tok), Feeds nextL l (l ++ m) m
  | [], m => rfl
  | t :: l, m => ⟨rfl, rfl, feeds_list l m⟩
theorem frm_back (before : Int) (z : List Int) (more : List Tok) (hz : z.length = 64) (hb : -2047 ≤ before ∧ before ≤ 2047) (hr : ∀ i, i < 64 → -2047 ≤ nth z i ∧ nth z i ≤ 2047) : frm nextL before (toksOf before z ++ more) = (0, zfrom z, toksOf before z, more) :=
  frm_toks before z hz hb hr _ more rfl rfl (feeds_list _ _)
end Go.Proofs.Ytccgcefeenloiaa
