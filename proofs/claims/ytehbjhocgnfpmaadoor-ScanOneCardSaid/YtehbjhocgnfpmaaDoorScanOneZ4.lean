/- The law ScanOne: what its proof needs, part 4. -/
import Derived.Test.YtehbjhocgnfpmaaDoorScanOneZ3
import Derived.Deep.MidRow
/- Encoding, in plain Lean: all tokens have words, or not. -/
namespace Go.Proofs.YtehbjhocgnfpmaaDoor
open Go.RowKit
set_option maxRecDepth 100000
set_option linter.unusedVariables false
def words (L1 L2 : List (Int × Nat × Nat)) (T : List (Tok × Bool)) : Prop := ∀ x ∈ T, (symW (if x.2 then L1 else L2) x.1.1).isSome = true
theorem enc_all (L1 L2 : List (Int × Nat × Nat)) : ∀ (T : List (Tok × Bool)) (bs : List Bool), words L1 L2 T → ech (encStep L1 L2) T bs = (0, bs ++ T.flatMap (tkBits L1 L2))
 | [], bs, _ => by simp [ech]
 | x :: T, bs, h => by
  have h1 : encStep L1 L2 bs x.1 x.2 = (0, bs ++ tkBits L1 L2 x) := by unfold encStep; rw [if_pos (h x (by simp))]
  rw [ech, h1, if_pos rfl, enc_all L1 L2 T _ (fun y hy => h y (by simp [hy])), List.flatMap_cons, List.append_assoc]
theorem enc_not (L1 L2 : List (Int × Nat × Nat)) : ∀ (T : List (Tok × Bool)) (bs : List Bool), ¬ words L1 L2 T → (ech (encStep L1 L2) T bs).1 = 5
 | [], bs, h => absurd (fun x hx => (by cases hx)) h
 | x :: T, bs, h => by
  rw [ech]
  by_cases hx : (symW (if x.2 then L1 else L2) x.1.1).isSome = true
  · have h1 : encStep L1 L2 bs x.1 x.2 = (0, bs ++ tkBits L1 L2 x) := by unfold encStep; rw [if_pos hx]
    rw [h1, if_pos rfl]
    exact enc_not L1 L2 T _ fun hw => h fun y hy => by
     rcases List.mem_cons.1 hy with rfl | hy
     · exact hx
     · exact hw y hy
  · have h1 : encStep L1 L2 bs x.1 x.2 = (5, bs) := by unfold encStep; rw [if_neg hx]
    rw [h1]; rfl

set_option maxRecDepth 100000
set_option linter.unusedVariables false
theorem bits_at (l : List Nat) (i m : Nat) (h : i + m ≤ 8 * l.length) : (unpack l).drop i = bitsOf m (numAt l i m) ++ (unpack l).drop (i + m) := by
 have h1 : (((unpack l).drop i).take m).length = m := by rw [List.length_take, List.length_drop, unpack_len]; omega
 have h2 := bitsOf_num (((unpack l).drop i).take m)
 rw [h1] at h2
 unfold numAt
 rw [h2, ← List.drop_drop, List.take_append_drop]
theorem num_at (l : List Nat) (i m v : Nat) (rest : List Bool) (h : (unpack l).drop i = bitsOf m v ++ rest) (hv : v < 2 ^ m) : numAt l i m = v ∧ (unpack l).drop (i + m) = rest ∧ (i ≤ 8 * l.length → i + m ≤ 8 * l.length) := by
 refine ⟨?_, ?_, fun hi => ?_⟩
 · unfold numAt
   rw [h, List.take_left' (bitsOf_len m v), num_bitsOf_lt m v hv]
 · rw [← List.drop_drop, h, List.drop_left' (bitsOf_len m v)]
 · have := congrArg List.length h
   rw [List.length_drop, unpack_len, List.length_append, bitsOf_len] at this
   omega
def okX (x : Tok × Bool) : Prop := x.1.2.1 = tkWidth x.2 x.1.1 ∧ (0 ≤ x.1.2.1 ∧ x.1.2.1 ≤ 12) ∧ (x.2 = false → x.1.2.1 ≤ 11) ∧ 0 ≤ x.1.2.2 ∧ x.1.2.2 < 2 ^ x.1.2.1.toNat
section
variable {L1 L2 : List (Int × Nat × Nat)} (h1 : Good L1) (h2 : Good L2) (l : List Nat)
include h1 h2
theorem tk_read (i : Nat) (x : Tok × Bool) (s' : Nat) (ht : (tkNext L1 L2 l i x.2).1 = x.1) (he : (tkNext L1 L2 l i x.2).2.1 = 0) (hs : (tkNext L1 L2 l i x.2).2.2 = s') :
 s' ≤ 8 * l.length ∧ (symW (if x.2 then L1 else L2) x.1.1).isSome = true ∧ (unpack l).drop i = tkBits L1 L2 x ++ (unpack l).drop s' := by
 obtain ⟨t, b⟩ := x
 dsimp only at ht he hs ⊢
 have hG : Good (if b then L1 else L2) := by cases b <;> assumption
 unfold tkBits
 dsimp only
 unfold tkNext at ht he hs
 generalize (if b then L1 else L2) = L at *
 by_cases hg : (gtW L l i 16 0).2.1 ≠ 0
 · rw [if_pos hg] at he; exact absurd he hg
 rw [if_neg hg] at ht he hs
 obtain ⟨m, hm1, hm2, hm3, hm4, hm5⟩ := gt_ok (L := L) l i 16 0 (by simpa using hg)
 obtain ⟨⟨sy, ge, gi⟩, hG0⟩ : ∃ y, gtW L l i 16 0 = y := ⟨_, rfl⟩
 rw [hG0] at ht he hs hm3 hm5
 dsimp only at ht he hs hm3 hm5
 by_cases hw : 12 < tkWidth b sy ∨ (b = false ∧ 11 < tkWidth b sy)
 · rw [if_pos hw] at he; cases he
 rw [if_neg hw] at ht he hs
 by_cases hsh : 8 * l.length < gi + (tkWidth b sy).toNat
 · rw [if_pos hsh] at he; cases he
 rw [if_neg hsh] at ht he hs
 dsimp only at ht he hs
 subst ht; subst hs
 dsimp only
 refine ⟨by omega, by rw [hG.symW hm5]; rfl, ?_⟩
 rw [wb_of hG hm5, bits_at l i m hm4, List.append_assoc, ← hm3, Int.toNat_natCast, ← bits_at l gi _ (by omega)]
theorem tk_back (i : Nat) (x : Tok × Bool) (rest : List Bool) (hi : i ≤ 8 * l.length) (hx : okX x) (hw : (symW (if x.2 then L1 else L2) x.1.1).isSome = true) (hb : (unpack l).drop i = tkBits L1 L2 x ++ rest) :
 tkNext L1 L2 l i x.2 = (x.1, 0, i + (tkBits L1 L2 x).length) ∧ (unpack l).drop (i + (tkBits L1 L2 x).length) = rest ∧ i + (tkBits L1 L2 x).length ≤ 8 * l.length := by
 obtain ⟨⟨t0, t1, t2⟩, b⟩ := x
 obtain ⟨k1, k2, k3, k4, k5⟩ := hx
 dsimp only at k1 k2 k3 k4 k5 hw
 have hG : Good (if b then L1 else L2) := by cases b <;> assumption
 unfold tkBits at hb ⊢
 dsimp only at hb ⊢
 unfold tkNext
 generalize (if b then L1 else L2) = L at *
 obtain ⟨⟨m, cd⟩, hy⟩ := Option.isSome_iff_exists.1 hw
 have hm : (t0, m, cd) ∈ L := symW_mem hy
 have hlong := hG.long _ hm
 dsimp only at hlong
 have hwb : wb L t0 = bitsOf m cd := wb_of hG hm
 obtain ⟨k, rfl⟩ : ∃ k : Nat, t1 = (k : Int) := ⟨t1.toNat, by omega⟩
 obtain ⟨v, rfl⟩ : ∃ v : Nat, t2 = (v : Int) := ⟨t2.toNat, by omega⟩
 rw [Int.toNat_natCast] at k5
 have hv : v < 2 ^ k := by exact_mod_cast k5
 rw [hwb, Int.toNat_natCast, Int.toNat_natCast, List.append_assoc] at hb
 obtain ⟨n1, n2, n3⟩ := num_at l i m cd _ hb (by omega)
 obtain ⟨n4, n5, n6⟩ := num_at l (i + m) k v _ n2 hv
 have hgt := gt_word hG l i (t0, m, cd) hm (n3 hi) n1 16 0 (by omega) (by show 0 < m; omega)
 dsimp only at hgt
 rw [hgt]
 dsimp only
 have hno : ¬ (12 < (k : Int) ∨ (b = false ∧ 11 < (k : Int))) := by
  rintro (h | ⟨h, h'⟩)
  · omega
  · have := k3 h; omega
 rw [if_neg (by simp), ← k1, if_neg hno, Int.toNat_natCast, if_neg (by have := n6 (n3 hi); omega), n4, hwb, Int.toNat_natCast, List.length_append, bitsOf_len, bitsOf_len, ← Nat.add_assoc]
 exact ⟨rfl, n5, n6 (n3 hi)⟩
theorem fed_read : ∀ (T : List (Tok × Bool)) (i i' : Nat), Fed (tkNext L1 L2 l) T i i' → i ≤ 8 * l.length → i' ≤ 8 * l.length ∧ words L1 L2 T ∧ (unpack l).drop i = T.flatMap (tkBits L1 L2) ++ (unpack l).drop i'
 | [], i, i', h, hi => by rw [show i = i' from h] at hi ⊢; exact ⟨hi, fun x hx => (by cases hx), by simp⟩
 | x :: T, i, i', h, hi => by
  obtain ⟨k1, k2, k3⟩ := tk_read h1 h2 l i x _ h.1 h.2.1 rfl
  obtain ⟨m1, m2, m3⟩ := fed_read T _ i' h.2.2 k1
  refine ⟨m1, fun y hy => ?_, by rw [k3, m3, List.flatMap_cons, List.append_assoc]⟩
  rcases List.mem_cons.1 hy with rfl | hy
  · exact k2
  · exact m2 y hy
theorem fed_back : ∀ (T : List (Tok × Bool)) (i : Nat) (rest : List Bool), i ≤ 8 * l.length → (∀ x ∈ T, okX x) → words L1 L2 T → (unpack l).drop i = T.flatMap (tkBits L1 L2) ++ rest →
 Fed (tkNext L1 L2 l) T i (i + (T.flatMap (tkBits L1 L2)).length) ∧ (unpack l).drop (i + (T.flatMap (tkBits L1 L2)).length) = rest ∧ i + (T.flatMap (tkBits L1 L2)).length ≤ 8 * l.length
 | [], i, rest, hi, _, _, hb => by
  simp only [List.flatMap_nil, List.nil_append, List.length_nil, Nat.add_zero] at hb ⊢
  exact ⟨rfl, hb, hi⟩
 | x :: T, i, rest, hi, hx, hw, hb => by
  rw [List.flatMap_cons, List.append_assoc] at hb
  obtain ⟨k1, k2, k3⟩ := tk_back h1 h2 l i x _ hi (hx x (by simp)) (hw x (by simp)) hb
  obtain ⟨m1, m2, m3⟩ := fed_back T _ rest k3 (fun y hy => hx y (by simp [hy])) (fun y hy => hw y (by simp [hy])) k2
  rw [List.flatMap_cons, List.length_append, ← Nat.add_assoc]
  exact ⟨⟨by rw [k1], by rw [k1], by rw [k1]; exact m1⟩, m2, m3⟩
end

set_option maxRecDepth 100000
set_option linter.unusedVariables false
def tfq : Int → List Int → Nat → List (Tok × Bool)
 | _, _, 0 => []
 | p, l, f + 1 => mark (tokL p (seg l 64 0)) ++ tfq (nth (seg l 64 0) 0) (l.drop 64) f
theorem seg_drop (l : List Int) (k j : Nat) : seg (l.drop (k * 64)) 64 j = seg l 64 (k + j) := by
 unfold seg
 rw [List.drop_drop, ← Nat.add_mul]
theorem tfl_q (l : List Int) : ∀ (f k : Nat), tfl l k f = tfq (bef l k) (l.drop (k * 64)) f
 | 0, k => rfl
 | f + 1, k => by
  rw [tfl, tfq, tfl_q l f (k + 1), seg_drop, bef_succ, List.drop_drop, show k * 64 + 64 = (k + 1) * 64 by omega]
  rfl
theorem tks_okX : ∀ (l : List Int) (r : Nat), (∀ x ∈ l, -2047 ≤ x ∧ x ≤ 2047) → ∀ t ∈ tks r l, okX (t, false)
 | [], r, _, t, ht => by
  unfold tks at ht
  split at ht
  · simp at ht; subst ht; unfold okX; decide
  · simp at ht
 | n :: l, r, h, t, ht => by
  unfold tks at ht
  split at ht
  · exact tks_okX l (r + 1) (fun x hx => h x (by simp [hx])) t ht
  · rcases List.mem_append.1 ht with ht | ht
    · rw [List.eq_of_mem_replicate ht]; unfold okX; decide
    · rcases List.mem_cons.1 ht with rfl | ht
      · have h1 := sz_le11 n (by have := h n (by simp); omega)
        have h2 := sback_sv n
        unfold okX tok tkWidth
        dsimp only
        rw [Int.toNat_natCast]
        refine ⟨?_, by omega, fun _ => by omega, h2.2.1, by exact_mod_cast h2.2.2⟩
        rw [if_neg (by decide)]
        omega
      · exact tks_okX l 0 (fun x hx => h x (by simp [hx])) t ht
theorem mark_okX {p : Int} {z : List Int} (hp : -2047 ≤ p ∧ p ≤ 2047) (hz : Bd z) : ∀ x ∈ mark (toksOf p z), okX x := by
 intro x hx
 unfold toksOf mark at hx
 rcases List.mem_cons.1 hx with rfl | hx
 · have h0 := hz.2 0 (by omega)
   have h1 := sz_le (nth z 0 - p) (by omega)
   have h2 := sback_sv (nth z 0 - p)
   unfold okX tok tkWidth
   dsimp only
   rw [Int.toNat_natCast]
   refine ⟨?_, by omega, fun h => (by cases h), h2.2.1, by exact_mod_cast h2.2.2⟩
   rw [if_pos rfl]
   omega
 · obtain ⟨t, ht, rfl⟩ := List.mem_map.1 hx
   refine tks_okX _ 0 (fun y hy => ?_) t ht
   obtain ⟨i, hi, rfl⟩ := List.mem_iff_getElem.1 (List.mem_of_mem_drop hy)
   have := hz.2 i (by rw [← hz.1]; exact hi)
   simpa [nth, List.getD, hi] using this
theorem blk_zto {x : List Int} (hx : x.length = 64) (h : blkIn x = true) : Bd (zto x) ∧ Bd x := by
 have h1 := (allIn_iff _ _ _).1 h
 rw [hx] at h1
 exact ⟨⟨zto_len x, fun i hi => by rw [zto_get _ i hi]; exact h1 _ (zn_lt i hi)⟩, hx, h1⟩
theorem blk_of {x : List Int} (h : Bd x) : blkIn x = true := (allIn_iff _ _ _).2 (by rw [h.1]; exact h.2)
theorem tokL_of {p : Int} {x : List Int} (hp : -2047 ≤ p ∧ p ≤ 2047) (h : Bd x) : tokL p x = toksOf p (zto x) := by
 unfold tokL
 rw [if_pos (tokE_of h.1 hp h.2)]
theorem tfq_okX : ∀ (f : Nat) (p : Int) (l : List Int), (-2047 ≤ p ∧ p ≤ 2047) → l.length = f * 64 → (∀ k, k < f → blkIn (seg l 64 k) = true) → ∀ x ∈ tfq p l f, okX x
 | 0, p, l, _, _, _, x, hx => by cases hx
 | f + 1, p, l, hp, hl, hb, x, hx => by
  have hs : (seg l 64 0).length = 64 := seg_len l 64 0 (f + 1) hl (by omega)
  obtain ⟨b1, b2⟩ := blk_zto hs (hb 0 (by omega))
  rw [tfq, tokL_of hp b2] at hx
  rcases List.mem_append.1 hx with hx | hx
  · exact mark_okX hp b1 x hx
  · refine tfq_okX f _ (l.drop 64) (b2.2 0 (by omega)) (by rw [List.length_drop]; omega) (fun k hk => ?_) x hx
    have := seg_drop l 1 k
    rw [Nat.one_mul] at this
    rw [this]
    exact hb _ (by omega)
theorem fed_split {σ : Type} {next : σ → Bool → Tok × Int × σ} : ∀ {A B : List (Tok × Bool)} {s s2 : σ}, Fed next (A ++ B) s s2 → ∃ s1, Fed next A s s1 ∧ Fed next B s1 s2
 | [], B, s, s2, h => ⟨s, rfl, h⟩
 | x :: A, B, s, s2, h => by
  obtain ⟨s1, k1, k2⟩ := fed_split h.2.2
  exact ⟨s1, ⟨h.1, h.2.1, k1⟩, k2⟩
theorem fed_unrest {σ : Type} {next : σ → Bool → Tok × Int × σ} : ∀ {A : List Tok} {s s' : σ}, Fed next (A.map fun x => (x, false)) s s' → Feeds next A s s'
 | [], s, s', h => h
 | t :: A, s, s', h => ⟨h.1, h.2.1, fed_unrest h.2.2⟩
section
variable {σ : Type} (next : σ → Bool → Tok × Int × σ)
theorem dcl_fed : ∀ (f : Nat) (p : Int) (s : σ), (dcl next f p s).1 = 0 → (-2047 ≤ p ∧ p ≤ 2047) → Fed next (tfq p (dcl next f p s).2.1 f) s (dcl next f p s).2.2 ∧ ∀ k, k < f → blkIn (seg (dcl next f p s).2.1 64 k) = true
 | 0, p, s, _, _ => ⟨rfl, fun k hk => by omega⟩
 | f + 1, p, s, h, hp => by
  rw [dcl] at h ⊢
  by_cases h1 : (frm next p s).1 ≠ 0
  · rw [if_pos h1] at h; exact absurd h h1
  rw [if_neg h1] at h ⊢
  dsimp only at h ⊢
  obtain ⟨z, hz, e1, e2, e3⟩ := frm_fed next p s (by simpa using h1)
  have hb := frm_bd next p s (by simpa using h1)
  obtain ⟨F, hF⟩ : ∃ F, frm next p s = F := ⟨_, rfl⟩
  rw [hF] at h h1 e1 e2 e3 hb ⊢
  obtain ⟨E, b0, all, s1⟩ := F
  dsimp only at h h1 e1 e2 e3 hb ⊢
  obtain ⟨k1, k2⟩ := dcl_fed f (nth b0 0) s1 h (hb.2 0 (by omega))
  have hs0 : seg (b0 ++ (dcl next f (nth b0 0) s1).2.1) 64 0 = b0 := by
   unfold seg
   rw [Nat.zero_mul, List.drop_zero, List.take_left' hb.1]
  have hz2 : zto b0 = z := by rw [e1]; exact zto_zfrom z hz.1
  refine ⟨?_, fun k hk => ?_⟩
  · rw [tfq, hs0, List.drop_left' hb.1, tokL_of hp hb, hz2]
    exact e3.app k1
  · cases k with
    | zero => rw [hs0]; exact blk_of hb
    | succ k =>
     have := seg_drop (b0 ++ (dcl next f (nth b0 0) s1).2.1) 1 k
     rw [Nat.one_mul, List.drop_left' hb.1] at this
     rw [show k + 1 = 1 + k by omega, ← this]
     exact k2 k (by omega)
theorem dcl_of : ∀ (f : Nat) (p : Int) (l : List Int) (s s' : σ), l.length = f * 64 → (-2047 ≤ p ∧ p ≤ 2047) → (∀ k, k < f → blkIn (seg l 64 k) = true) → Fed next (tfq p l f) s s' → dcl next f p s = (0, l, s')
 | 0, p, l, s, s', hl, _, _, h => by
  have : l = [] := List.eq_nil_of_length_eq_zero (by omega)
  rw [dcl, this, show s = s' from h]
 | f + 1, p, l, s, s', hl, hp, hb, h => by
  have hs : (seg l 64 0).length = 64 := seg_len l 64 0 (f + 1) hl (by omega)
  obtain ⟨b1, b2⟩ := blk_zto hs (hb 0 (by omega))
  rw [tfq, tokL_of hp b2] at h
  obtain ⟨s1, m1, m2⟩ := fed_split h
  have hfrm : frm next p s = (0, seg l 64 0, toksOf p (zto (seg l 64 0)), s1) := by
   have := frm_toks (next := next) p (zto (seg l 64 0)) (zto_len _) hp b1.2 s s1 m1.1 m1.2.1 (fed_unrest m1.2.2)
   rw [zfrom_zto _ hs] at this
   exact this
  have ih := dcl_of f (nth (seg l 64 0) 0) (l.drop 64) s1 s' (by rw [List.length_drop]; omega) (b2.2 0 (by omega)) (fun k hk => by
   have := seg_drop l 1 k
   rw [Nat.one_mul] at this
   rw [this]
   exact hb _ (by omega)) m2
  rw [dcl, hfrm]
  dsimp only
  rw [if_neg (by simp), ih]
  dsimp only
  rw [show seg l 64 0 = l.take 64 by unfold seg; simp, List.take_append_drop]
end
def dcf (L1 L2 : List (Int × Nat × Nat)) (l : List Nat) (n : Nat) : Int × List Int :=
 if (dcl (tkNext L1 L2 l) n 0 0).1 ≠ 0 then ((dcl (tkNext L1 L2 l) n 0 0).1, []) else
 if 8 * l.length - (dcl (tkNext L1 L2 l) n 0 0).2.2 ≤ 7 ∧ numAt l (dcl (tkNext L1 L2 l) n 0 0).2.2 (8 * l.length - (dcl (tkNext L1 L2 l) n 0 0).2.2) = 2 ^ (8 * l.length - (dcl (tkNext L1 L2 l) n 0 0).2.2) - 1 then (0, (dcl (tkNext L1 L2 l) n 0 0).2.1) else (4, [])
theorem tfl_zero (l : List Int) (n : Nat) : tfl l 0 n = tfq 0 l n := by rw [tfl_q, Nat.zero_mul, List.drop_zero]; rfl
theorem unpack_inj {a b : List Nat} (ha : ∀ x ∈ a, x < 256) (hb : ∀ x ∈ b, x < 256) (h : unpack a = unpack b) : a = b := by
 have hl : a.length = b.length := by have := congrArg List.length h; rw [unpack_len, unpack_len] at this; omega
 rw [← packs_unpack a ha, ← packs_unpack b hb, h, hl]
theorem ones_rep (m : Nat) : bitsOf m (2 ^ m - 1) = List.replicate m true := by
 refine num_inj _ _ (by rw [bitsOf_len, List.length_replicate]) ?_
 rw [num_bitsOf_lt _ _ (by have := Nat.two_pow_pos m; omega)]
 induction m with
 | zero => rfl
 | succ m ih =>
  rw [List.replicate_succ', num_snoc, ← ih, Nat.pow_succ]
  have := Nat.two_pow_pos m
  simp
  omega
theorem dcf_back {L1 L2 : List (Int × Nat × Nat)} (h1 : Good L1) (h2 : Good L2) {l : List Int} {n : Nat} (hl : l.length = n * 64) (hb : allBlk l n = true) (hw : words L1 L2 (tfl l 0 n)) :
 dcf L1 L2 (bytesOf ((tfl l 0 n).flatMap (tkBits L1 L2))) n = (0, l) := by
 have hbk : ∀ k, k < n → blkIn (seg l 64 k) = true := fun k hk => allBlk_at hb hk
 rw [tfl_zero] at hw ⊢
 obtain ⟨bits, hbits⟩ : ∃ b, (tfq 0 l n).flatMap (tkBits L1 L2) = b := ⟨_, rfl⟩
 have hu := unpack_bytesOf bits
 obtain ⟨k1, k2, k3⟩ := fed_back h1 h2 (bytesOf bits) (tfq 0 l n) 0 (padding bits) (by omega) (tfq_okX n 0 l (by omega) hl hbk) hw (by rw [List.drop_zero, hu, hbits])
 rw [hbits, Nat.zero_add] at k1 k2 k3
 have hd := dcl_of (tkNext L1 L2 (bytesOf bits)) n 0 l 0 bits.length hl (by omega) hbk k1
 rw [hbits]
 unfold dcf
 rw [hd]
 dsimp only
 have hlen : 8 * (bytesOf bits).length = bits.length + (padding bits).length := by
  have := congrArg List.length hu
  rw [unpack_len, List.length_append] at this
  exact this
 have hpl : (padding bits).length ≤ 7 := by unfold padding; rw [List.length_replicate]; omega
 have hn : numAt (bytesOf bits) bits.length (padding bits).length = 2 ^ (padding bits).length - 1 := by
  unfold numAt
  rw [k2, List.take_length, ← num_bitsOf_lt (padding bits).length (2 ^ (padding bits).length - 1) (by have := Nat.two_pow_pos (padding bits).length; omega), ones_rep]
  congr 1
  unfold padding
  rw [List.length_replicate]
 rw [if_neg (by simp), hlen, Nat.add_sub_cancel_left, if_pos ⟨hpl, hn⟩]
theorem dcf_again {L1 L2 : List (Int × Nat × Nat)} (h1 : Good L1) (h2 : Good L2) {by_ : List Nat} {n : Nat} (hby : ∀ x ∈ by_, x < 256) (h : (dcf L1 L2 by_ n).1 = 0) :
 (dcf L1 L2 by_ n).2.length = n * 64 ∧ allBlk (dcf L1 L2 by_ n).2 n = true ∧ words L1 L2 (tfl (dcf L1 L2 by_ n).2 0 n) ∧ bytesOf ((tfl (dcf L1 L2 by_ n).2 0 n).flatMap (tkBits L1 L2)) = by_ := by
 unfold dcf at h ⊢
 by_cases he : (dcl (tkNext L1 L2 by_) n 0 0).1 ≠ 0
 · rw [if_pos he] at h; exact absurd h he
 rw [if_neg he] at h ⊢
 have he0 : (dcl (tkNext L1 L2 by_) n 0 0).1 = 0 := by simpa using he
 obtain ⟨k1, k2⟩ := dcl_fed (tkNext L1 L2 by_) n 0 0 he0 (by omega)
 have hlen := dcl_len (tkNext L1 L2 by_) n 0 0 he0
 obtain ⟨⟨E, B, i⟩, hd⟩ : ∃ d, dcl (tkNext L1 L2 by_) n 0 0 = d := ⟨_, rfl⟩
 rw [hd] at h k1 k2 hlen ⊢
 dsimp only at h k1 k2 hlen ⊢
 by_cases hc : 8 * by_.length - i ≤ 7 ∧ numAt by_ i (8 * by_.length - i) = 2 ^ (8 * by_.length - i) - 1
 · rw [if_pos hc]
   dsimp only
   obtain ⟨m1, m2, m3⟩ := fed_read h1 h2 by_ _ 0 i k1 (by omega)
   refine ⟨hlen, ?_, by rw [tfl_zero]; exact m2, ?_⟩
   · unfold allBlk
     rw [List.all_eq_true]
     exact fun k hk => k2 k (List.mem_range.1 hk)
   rw [tfl_zero]
   refine unpack_inj (bytesOf_lt _) hby ?_
   rw [unpack_bytesOf, ← List.drop_zero (l := unpack by_), m3]
   congr 1
   have h3 := bits_at by_ i (8 * by_.length - i) (by omega)
   rw [hc.2, ones_rep, List.drop_of_length_le (i := i + (8 * by_.length - i)) (by rw [unpack_len]; omega), List.append_nil] at h3
   rw [h3]
   unfold padding
   congr 1
   have h4 := congrArg List.length m3
   rw [List.drop_zero, unpack_len, List.length_append, List.length_drop, unpack_len] at h4
   omega
 · rw [if_neg hc] at h; cases h

set_option maxRecDepth 100000
set_option linter.unusedVariables false
structure Veil5 (p : Prop) : Prop where
 out : p
theorem V.mkIf {P : Program} {t ty : TypeId} {x : Operand} {a : Act} {v : Value} (hx : a.eval x = v) (hr : ∀ w : World, (Instr.makeInterface t v).run P w = .ok (.iface t v) w) : Val P (.makeInterface t x) ty a (.iface t v) := fun d pos af g w => by
 simp only [execOp, hx, Sem.run_bind, hr, Result.andThen_ok, Sem.run_pure]
def segSrc (W : World) (gc gr : Nat) (L1 L2 : List (Int × Nat × Nat)) (ad : Option Addr) (n c : Nat) (l : List Nat) (hL1 : Good L1) (hL2 : Good L2) (hl : ∀ x ∈ l, x < 256) (hn : n ≤ 1000000000000000000) : Src W Nat where
 next := tkNext L1 L2 l
 res := srcR gc gr L1 L2 ad n c l
 tid := 99
 ptr := .agg #[.pointer (some ⟨gc, 0, none⟩), .pointer (some ⟨gr, 0, none⟩)]
 f := 130
 inv := fun b w => by kernel_rfl
 call := fun w rs rs' s b t0 t1 t2 er s' hS hp h => srcTok_any W w rs rs' gc gr L1 L2 ad n c l s b t0 t1 t2 er s' hL1 hL2 hl hn hS hp h
theorem segFrom_any {W : World} (w0 : World) (rs rs' : List Res) (gc gr : Nat) (L1 L2 : List (Int × Nat × Nat)) (ad : Option Addr) (n c : Nat) (l : List Nat) (hL1 : Good L1) (hL2 : Good L2) (hl : ∀ x ∈ l, x < 256) (hn : n ≤ 1000000000000000000) (i : Nat) (p : Int) (hb : -2047 ≤ p ∧ p ≤ 2047) (hS : St W w0 rs) (hp : Pull (srcR gc gr L1 L2 ad n c l i) rs rs') (E : Int) (bl : List Int) (all : List Tok) (i' : Nat) (hF : frm (tkNext L1 L2 l) p i = (E, bl, all, i')) :
 Calls Tryd.prog 49 #[.int .i64 p, .iface 99 (.agg #[.pointer (some ⟨gc, 0, none⟩), .pointer (some ⟨gr, 0, none⟩)])] w0 fun e w => ∃ ad2 c2 m, e = .returned (.tuple #[.agg (iv bl), .slice ad2 m c2, .int .i64 E]) ∧ St W w (srcR gc gr L1 L2 ad n c l i' :: rs') := by
 refine (from_any (segSrc W gc gr L1 L2 ad n c l hL1 hL2 hl hn) w0 rs rs' i p hb hS hp).mono ?_
 rintro e w ⟨ad2, c2, rfl, hS2⟩
 have hq : frm (segSrc W gc gr L1 L2 ad n c l hL1 hL2 hl hn).next p i = (E, bl, all, i') := hF
 rw [hq] at hS2 ⊢
 exact ⟨ad2, c2, _, rfl, hS2.drop⟩
theorem stf_in {l : List Int} (h : ∀ x ∈ l, 0 ≤ x ∧ x < 256) : ∀ x ∈ stf l, 0 ≤ x ∧ x < 256 := by
 intro x hx
 unfold stf rep1 at hx
 obtain ⟨y, hy, hx⟩ := List.mem_flatMap.1 hx
 split at hx
 · simp at hx
   rcases hx with rfl | rfl <;> omega
 · simp at hx
   subst hx
   exact h x hy
def SegDec (w0 : World) (E : Int) (B : List Int) (e : Ending) (w : World) : Prop :=
 ∃ ao c m, B.length = m * 64 ∧ e = .returned (.tuple #[.slice ao m c, .int .i64 E]) ∧ St w0 w [own 52 64 ao m c (B.map (Value.int .i64))]
theorem dec_err {w0 w : World} {E : Int} {B : List Int} (E' : Int) (h : E = E') (hB : B = []) (hE : Ext w0 w) : SegDec w0 E B (.returned (.tuple #[.slice none 0 0, .int .i64 E'])) w := by
 subst h; subst hB
 exact ⟨none, 0, 0, rfl, rfl, (St.of_ext hE).nil _ _⟩
theorem mk_src {w0 w : World} {gc gr n c : Nat} {L1 L2 : List (Int × Nat × Nat)} {ad : Option Addr} {l : List Nat} {rs : List Res} {rs' : List Res} (h : St w0 w rs) (s : Sub (cdr gc L1 L2 :: rd gr ad n c 0 :: own 5 1 ad n c (bv l) :: rs') rs) : St w0 w (srcR gc gr L1 L2 ad n c l 0 :: rs') := by
 refine St.close ⟨(), by omega⟩ ?_
 have h2 := h.sub s
 have h3 : St w0 w (rdo gr ad n c 0 l :: cdr gc L1 L2 :: rs') := St.close () (by dsimp only [List.cons_append, List.nil_append]; exact h2.sub sb9)
 dsimp only [List.cons_append, List.nil_append]
 exact h3.sub sb9
set_option maxHeartbeats 8000000 in
theorem segDecode_run (w0 : World) (C1 C2 S1 S2 : List Int) (a1 a2 : Option Addr) (n1 n2 k1 k2 : Nat) (hC1 : Len C1 16) (hC2 : Len C2 16) (hs1 : Sl w0 1 (.slice a1 n1 k1) n1 (S1.map (Value.int .i64))) (hs2 : Sl w0 1 (.slice a2 n2 k2) n2 (S2.map (Value.int .i64))) (hn1 : n1 ≤ 9223372036854775807) (hn2 : n2 ≤ 9223372036854775807) (ad : Option Addr) (nb c : Nat) (l : List Nat) (n : Nat)
 (hb : nb ≤ 1000000000) (hv : Sl w0 1 (.slice ad nb c) nb ((stf (byI l)).map (Value.int .u8))) (hnil : ad = none → c = 0) (hl : ∀ x ∈ l, x < 256) (hml : ∃ m, w0.cell? ⟨0, 0, none⟩ = some (.int .i64 m)) (hn : n ≤ 400) (hT1 : tabE C1 S1 = 0) (hT2 : tabE C2 S2 = 0) (R : Int × List Int) (hR : dcf (wds C1 S1) (wds C2 S2) l n = R) :
 Calls Tryd.prog 24 #[.agg (pcells [.ints C1, .val (.slice a1 n1 k1), .ints C2, .val (.slice a2 n2 k2)]).toArray, .slice ad nb c, .int .i64 n] w0 (SegDec w0 R.1 R.2) := by
 have hS := St.start w0
 have HT1 := hid hT1
 have HT2 := hid hT2
 have HG1 := hid (wds_good hT1)
 have HG2 := hid (wds_good hT2)
 obtain ⟨L1, hL1⟩ : ∃ L, wds C1 S1 = L := ⟨_, rfl⟩
 obtain ⟨L2, hL2⟩ : ∃ L, wds C2 S2 = L := ⟨_, rfl⟩
 rw [hL1] at HG1
 rw [hL2] at HG2
 rw [hL1, hL2] at hR
 have HL1 := hid hL1
 have HL2 := hid hL2
 have HLt := hid hl
 have HR : Veil5 (dcf L1 L2 l n = R) := ⟨hR⟩
 obtain ⟨nl, hnl⟩ : ∃ nl, l.length = nl := ⟨_, rfl⟩
 have hnlb : nl ≤ 1000000000 := by
  have h1 := hv.1
  rw [List.length_map, stf_len, byI, List.length_map] at h1
  omega
 have HNL := hid hnl
 have hbyl := hid (show (byI l).length = nl by unfold byI; rw [List.length_map]; exact hnl)
 have HBI := hid (show ∀ x ∈ stf (byI l), 0 ≤ x ∧ x < 256 from fun x hx => stf_in (fun y hy => by
  obtain ⟨z, hz, rfl⟩ := List.mem_map.1 hy
  have := hl z hz
  omega) x hx)
 have HBV := hid (bv_byI l)
 have HPL := hid (plain_any w0 ad nb c (stf (byI l)) hv hnil HBI.out hb hml)
 clear hl hT1 hT2 hL1 hL2 hR hnl
 go_enter Tryd.func24, Tryd.ntmps24
 repeat' (first
  | ((with_reducible refine gs9 21 ?_); refine wpl_call (f := 37) Tryd.call37 kr9 ?_; refine ⟨_, (made_ok _ C1 C2 S1 S2 a1 a2 n1 n2 k1 k2 hC1 hC2 (hs1.ext hS.1) (hs2.ext hS.1) hn1 hn2 HT1.out HT2.out), ?_⟩; rintro e w ⟨gc, rfl, hS2⟩; rw [HL1.out, HL2.out] at hS2; replace hS := hS.call1 hS2; clear hS2; refine ⟨_, rfl, ?_⟩; refine put_move ?_; go_step) | (refine y91 ?_) | (refine y9105 ?_) | (refine y991 ?_) | ((with_reducible refine gs9 3 ?_); (refine wl9 ?_; apply wp_boxP (o := ⟨some 3, _, _, _, _, _⟩) hS 33 _ rfl _ rfl; clear hS; intro g3 w hS; refine put_move ?_; go_step)) | (refine y9127 ?_) | ((fail_if_success with_reducible refine ga9 ?_); go_step))
 all_goals (try (have hF : False := (by omega); cases hF))
 repeat' (first
  | (refine y9146 ?_) | (refine y9139 ?_) | ((with_reducible refine gs9 28 ?_); (refine wplD _ (V.lss rfl rfl) kr9 (fun hB => ?_) (fun hB => ?_) <;> (try (have hF : False := (by omega); cases hF)) <;> go_step)) | (refine y988 ?_) | ((fail_if_success with_reducible refine ga9 ?_); go_step))
 all_goals (try (have hF : False := (by omega); cases hF))
 repeat' (first
  | ((with_reducible refine gs9 35 ?_); refine wpl_call (f := 20) Tryd.call20 kr9 ?_; refine ⟨_, (plain_any w ad nb c (stf (byI l)) (hv.ext hS.1) hnil HBI.out hb (by obtain ⟨m, hm⟩ := hml; exact ⟨m, hS.1.cell hm⟩)), ?_⟩; rintro e w ⟨hq, _⟩; obtain ⟨ap, cp, rfl, hS2⟩ := hq _ rfl; clear hq; rw [hbyl.out, ← HBV.out] at hS2; rw [hbyl.out]; replace hS := hS.call1 hS2; clear hS2; refine ⟨_, rfl, ?_⟩; refine put_move ?_; go_step) | (refine y91 ?_) | (refine y9105 ?_) | (refine y991 ?_) | ((fail_if_success with_reducible refine ga9 ?_); go_step))
 all_goals (try (have hF : False := (by omega); cases hF))
 repeat' (first
  | ((with_reducible refine gs9 43 ?_); refine wpl_call (f := 48) Tryd.call48 kr9 ?_; refine ⟨_, (newReader_any w ap nl cp), ?_⟩; rintro e w ⟨gr, rfl, hS2⟩; replace hS := hS.call1 hS2; clear hS2; refine ⟨_, rfl, ?_⟩; refine put_move ?_; go_step) | (refine y91 ?_) | ((with_reducible refine gs9 44 ?_); (refine wvv9 (V.build (vs := [(0, _), (1, _)]) rfl (bl99_0_1 _ _)) ?_; go_step)) | ((with_reducible refine gs9 10 ?_); (refine wl9 ?_; apply wp_alloc (o := ⟨some 10, _, _, _, _, _⟩) hS 99 rfl (.agg #[.pointer none, .pointer none]) [.pointer none, .pointer none] (fun w => Tryd.zeroValue99 w) rfl; clear hS; intro g10 w hS; refine put_move ?_; go_step)) | ((with_reducible refine gt9 _ (.store 99 _ _) ?_); (refine wl9 ?_; apply wp_storeG hS 99 _ _ rfl _ rfl 2 (row_of rfl) _ _; (case hp => exact pl9); (case hy => rfl); (case hn => rfl); (case hn' => rfl); (case hv => rfl); (case hd => exact rfl); clear hS; intro w hS)) | ((fail_if_success with_reducible refine ga9 ?_); go_step))
 all_goals (try (have hF : False := (by omega); cases hF))
 replace hS : St w0 w [srcR gc gr L1 L2 ap nl cp l 0, blk g10 [.pointer (some ⟨gc, 0, none⟩), .pointer (some ⟨gr, 0, none⟩)]] := mk_src hS sb9
 replace hS := hS.nilk 52 64 .i64
 go_loopg [11, 12, 46] n (fun gk pv ov kv w => ∃ (k i : Nat) (p : Int) (acc : List Int) (ao : Option Addr) (co : Nat), gk + k = n ∧ kv = .int .i64 k ∧ pv = .int .i64 p ∧ ov = .slice ao k co ∧ (-2047 ≤ p ∧ p ≤ 2047) ∧ Veil5 (dcl (tkNext L1 L2 l) n 0 0 = ((dcl (tkNext L1 L2 l) (n - k) p i).1, acc ++ (dcl (tkNext L1 L2 l) (n - k) p i).2.1, (dcl (tkNext L1 L2 l) (n - k) p i).2.2)) ∧ St w0 w [own 52 64 ao k co (acc.map (Value.int .i64)), srcR gc gr L1 L2 ap nl cp l i, blk g10 [.pointer (some ⟨gc, 0, none⟩), .pointer (some ⟨gr, 0, none⟩)]])
 case atStart => exact ⟨0, 0, 0, [], none, 0, by omega, rfl, rfl, rfl, by omega, ⟨rfl⟩, hS⟩
 case round =>
  clear hS HPL
  obtain ⟨k, i, p, acc, ao, co, hk, rfl, rfl, rfl, hpb, HV, hS⟩ := hrel
  by_cases hlt : k < n
  · obtain ⟨⟨E, bl, all, i'⟩, hF⟩ : ∃ F, frm (tkNext L1 L2 l) p i = F := ⟨_, rfl⟩
    have hbl : Len bl 64 := by have := frm_len2 (tkNext L1 L2 l) p i; rw [hF] at this; exact this
    have hd : dcl (tkNext L1 L2 l) (n - k) p i = if E ≠ 0 then (E, [], i') else ((dcl (tkNext L1 L2 l) (n - (k + 1)) (nth bl 0) i').1, bl ++ (dcl (tkNext L1 L2 l) (n - (k + 1)) (nth bl 0) i').2.1, (dcl (tkNext L1 L2 l) (n - (k + 1)) (nth bl 0) i').2.2) := by
     rw [show n - k = (n - (k + 1)) + 1 by omega, dcl, hF]
    have HF : Veil5 (frm (tkNext L1 L2 l) p i = (E, bl, all, i')) := ⟨hF⟩
    have HBB : Veil5 (E = 0 → -2047 ≤ nth bl 0 ∧ nth bl 0 ≤ 2047) := ⟨fun h => by
     have := frm_bd (tkNext L1 L2 l) p i (by rw [hF]; exact h)
     rw [hF] at this
     exact this.2 0 (by omega)⟩
    have HD : Veil5 (dcl (tkNext L1 L2 l) (n - k) p i = if E ≠ 0 then (E, [], i') else ((dcl (tkNext L1 L2 l) (n - (k + 1)) (nth bl 0) i').1, bl ++ (dcl (tkNext L1 L2 l) (n - (k + 1)) (nth bl 0) i').2.1, (dcl (tkNext L1 L2 l) (n - (k + 1)) (nth bl 0) i').2.2)) := ⟨hd⟩
    clear hF hd
    by_cases hE0 : E = 0
    case neg =>
     have he : (dcl (tkNext L1 L2 l) n 0 0).1 = E := by rw [HV.out, HD.out, if_pos hE0]
     have hR1 : Veil5 (R = (E, [])) := ⟨by rw [← HR.out]; unfold dcf; rw [if_pos (by rw [he]; exact hE0), he]⟩
     clear he HD HV
     repeat' (first
      | (refine y970 ?_) | ((with_reducible refine gs9 52 ?_); refine wpl_call (f := 49) Tryd.call49 kr9 ?_; refine ⟨_, (segFrom_any _ _ _ gc gr L1 L2 ap nl cp l HG1.out HG2.out HLt.out (by omega) i p hpb hS pl9 E bl all i' HF.out), ?_⟩; clear hS; rintro e w ⟨ad5, c5, m5, rfl, hS⟩; refine ⟨_, rfl, ?_⟩; refine put_move ?_; go_step) | (refine y91 ?_) | (refine y990 ?_) | (refine y9105 ?_) | (refine y991 ?_) | (refine y9137 ?_) | ((with_reducible refine gs9 13 ?_); (refine wl9 ?_; apply wp_allocA (o := ⟨some 13, _, _, _, _, _⟩) hS 52 rfl (List.replicate 64 0) 64 List.length_replicate za52; clear hS; intro g13 w hS; refine put_move ?_; go_step)) | ((with_reducible refine gt9 _ (.store 52 _ _) ?_); (refine wl9 ?_; apply wp_storeA hS 52 _ _ rfl _ rfl 64 (row_of rfl) _ _; (case hp => exact pl9); (case hy => rfl); (case hm => (repeat (first | assumption | exact Len.rep | apply Len.set | ((with_reducible show Len (_ :: _) _); exact rfl)))); (case hd => exact rfl); clear hS; intro w hS)) | ((fail_if_success with_reducible refine ga9 ?_); go_step))
     all_goals (try (have hF : False := (by omega); cases hF))
     refine ret_all (xs := [_, _]) rfl (.cons (OneRes.tmp rfl) (.cons (OneRes.tmp rfl) (.nil))) (by simp) rfl ?_
     exact dec_err E (by rw [hR1.out]) (by rw [hR1.out]) hS.1
    have hbb := HBB.out hE0
    have HV2 : Veil5 (dcl (tkNext L1 L2 l) n 0 0 = ((dcl (tkNext L1 L2 l) (n - (k + 1)) (nth bl 0) i').1, (acc ++ bl) ++ (dcl (tkNext L1 L2 l) (n - (k + 1)) (nth bl 0) i').2.1, (dcl (tkNext L1 L2 l) (n - (k + 1)) (nth bl 0) i').2.2)) := ⟨by rw [HV.out, HD.out, if_neg (by simpa using hE0), List.append_assoc]⟩
    clear HV HD HBB
    repeat' (first
     | (refine y970 ?_) | ((with_reducible refine gs9 52 ?_); refine wpl_call (f := 49) Tryd.call49 kr9 ?_; refine ⟨_, (segFrom_any _ _ _ gc gr L1 L2 ap nl cp l HG1.out HG2.out HLt.out (by omega) i p hpb hS pl9 E bl all i' HF.out), ?_⟩; clear hS; rintro e w ⟨ad5, c5, m5, rfl, hS⟩; refine ⟨_, rfl, ?_⟩; refine put_move ?_; go_step) | (refine y91 ?_) | (refine y990 ?_) | (refine y9105 ?_) | (refine y991 ?_) | (refine y9137 ?_) | ((with_reducible refine gs9 13 ?_); (refine wl9 ?_; apply wp_allocA (o := ⟨some 13, _, _, _, _, _⟩) hS 52 rfl (List.replicate 64 0) 64 List.length_replicate za52; clear hS; intro g13 w hS; refine put_move ?_; go_step)) | ((with_reducible refine gt9 _ (.store 52 _ _) ?_); (refine wl9 ?_; apply wp_storeA hS 52 _ _ rfl _ rfl 64 (row_of rfl) _ _; (case hp => exact pl9); (case hy => rfl); (case hm => (repeat (first | assumption | exact Len.rep | apply Len.set | ((with_reducible show Len (_ :: _) _); exact rfl)))); (case hd => exact rfl); clear hS; intro w hS)) | ((fail_if_success with_reducible refine ga9 ?_); go_step))
    all_goals (try (have hF : False := (by omega); cases hF))
    repeat' (first
     | ((with_reducible refine gs9 61 ?_); refine wl9 ?_; refine wp_buildSlice1 (o := ⟨some 61, _, _, _, _, _⟩) hS 22 1 _ rfl 52 64 512 el22 _ _ (Parts.agg rfl (by rw [List.length_map]; exact hbl) Parts.nil) rfl (by decide) (by decide) ?_; clear hS; intro g61 w hS; rw [List.append_nil] at hS; have hsl61 := hS.slBlk (n := 1) (s := 64) Pull.head (by rw [List.length_map]; exact hbl) (by decide); refine put_move ?_; go_step) | (refine y91 ?_) | (refine y982 ?_) | (refine y985 ?_) | (refine y9129 ?_) | ((with_reducible refine gs9 62 ?_); (refine wl9 ?_; apply wp_append (o := ⟨some 62, _, _, _, _, _⟩) hS _ _ 22 rfl 52 64 512 el22 _ _ _ _ rfl; (case hp => exact pl9); (case hx => exact rfl); (case hm => (first | exact hS.slBlk pl9 (by rfl) (by decide) | exact hS.sl pl9 | with_reducible assumption | exact Sl.ext (by with_reducible assumption) hS.1 | exact Sl.nil _ _ | exact Sl.ext (by assumption) hS.1 | assumption)); (case h1 => (first | exact oneAll rfl | exact oneMap _ _ | (intro u hu; cases hu))); (case h63 => unfold maxLen; omega); (case hb => omega); clear hS; intro ad62 c62 w hS; (first | simp only [mapk1] at hS | simp only [mapk2] at hS | simp only [mapk3] at hS | simp only [mapk4] at hS | simp only [mapkl] at hS | skip); refine put_move ?_; go_step)) | (refine y9122 ?_) | ((fail_if_success with_reducible refine ga9 ?_); go_step))
    go_roundg (gk - 1)
    case measure => omega
    case rel => exact ⟨k + 1, i', nth bl 0, acc ++ bl, _, _, by omega, by go_num, rfl, rfl, hbb, HV2, hS.sub sb9⟩
  · obtain rfl : k = n := by omega
    have HV2 : Veil5 (dcl (tkNext L1 L2 l) k 0 0 = (0, acc, i)) := ⟨by rw [HV.out, Nat.sub_self, dcl]; simp⟩
    clear HV
    repeat' (first
     | (refine y990 ?_) | ((fail_if_success with_reducible refine ga9 ?_); go_step))
    obtain ⟨⟨_, hi⟩, hS⟩ := (hS.pull (.tail .head)).open
    dsimp only [List.cons_append, List.nil_append] at hS
    have hcl := ((hS.pull (.tail .head)).open)
    obtain ⟨_, hcl⟩ := hcl
    dsimp only [List.cons_append, List.nil_append] at hcl
    have hcc := (hcl.blk Pull.head).1
    have c0 : wr.cell? ⟨gr, 0, none⟩ = some (.slice ap nl cp) := by rw [hcc.cell]; rfl
    have c1 : wr.cell? ⟨gr, 1, none⟩ = some (.int .i64 (i : Nat)) := by rw [hcc.cell]; rfl
    clear hcl hcc
    obtain ⟨Lf, hLf⟩ : ∃ x, 8 * nl - i = x := ⟨_, rfl⟩
    have HLF := hid hLf
    obtain ⟨N, hN⟩ : ∃ N, numAt l i (Lf % 8) = N := ⟨_, rfl⟩
    have HN := hid hN
    have HR2 : Veil5 (R = if Lf ≤ 7 ∧ numAt l i Lf = 2 ^ Lf - 1 then (0, acc) else (4, [])) := ⟨by rw [← HR.out]; unfold dcf; rw [HV2.out]; dsimp only; rw [if_neg (by simp), HNL.out, hLf]⟩
    have hal := hS.ownLen (xs := acc.map (Value.int .i64)) pl9
    rw [List.length_map] at hal
    have HL0 := hid (left_any wr gr nl cp i ap c0 c1 (by omega) hi)
    have HAL := hid hal
    clear c0 c1 HV2 HR hN hal
    by_cases h7 : 7 < Lf
    · have hR4 : Veil5 (R = (4, [])) := ⟨by rw [HR2.out, if_neg (by omega)]⟩
      clear HR2
      repeat' (first
       | ((with_reducible refine gs9 68 ?_); refine wpl_call (f := 50) Tryd.call50 kr9 ?_; refine ⟨_, (HL0.out), ?_⟩; rintro e w ⟨rfl, hE⟩; rw [HLF.out]; replace hS := hS.ext hE; clear hE; refine ⟨_, rfl, ?_⟩; refine put_move ?_; go_step) | (refine y984 ?_) | ((with_reducible refine gs9 74 ?_); refine wpl_call (f := 51) Tryd.call51 kr9 ?_; refine ⟨_, (get_own w0 _ _ _ gr nl cp i (Lf % 8) ap l hS pl9 HLt.out (by omega) hi (by omega)), ?_⟩; rintro e w ⟨_, hq⟩; obtain ⟨rfl, hS2⟩ := hq (by omega); clear hq hS; have hS := hS2; clear hS2; rw [HN.out]; refine ⟨_, rfl, ?_⟩; refine put_move ?_; go_step) | go_skip | (refine y91 ?_) | (refine y9140 ?_) | ((with_reducible refine gs9 78 ?_); (refine wplD _ (V.gtr rfl rfl) kr9 (fun hB => ?_) (fun hB => ?_) <;> (try (have hF : False := (by omega); cases hF)) <;> go_step)) | (refine y9113 ?_) | (refine y9105 ?_) | (refine y9136 ?_) | ((fail_if_success with_reducible refine ga9 ?_); go_step))
      all_goals (try (have hF : False := (by omega); cases hF))
      all_goals
       refine ret_all (xs := [_, _]) rfl (.cons (OneRes.tmp rfl) (.cons (OneRes.tmp rfl) (.nil))) (by simp) rfl ?_
       exact dec_err 4 (by rw [hR4.out]) (by rw [hR4.out]) hS.1
    · have hm : Lf % 8 = Lf := by omega
      have hpow : (2 : Int) ^ Lf ≤ 128 ∧ 1 ≤ (2 : Int) ^ Lf := by
       have h1 : Lf = 0 ∨ Lf = 1 ∨ Lf = 2 ∨ Lf = 3 ∨ Lf = 4 ∨ Lf = 5 ∨ Lf = 6 ∨ Lf = 7 := by omega
       rcases h1 with h | h | h | h | h | h | h | h <;> rw [h] <;> decide
      have hNl : numAt l i Lf = N := by rw [← HN.out, hm]
      by_cases hyes : (N : Int) = 2 ^ Lf - 1
      · have hR0 : Veil5 (R = (0, acc)) := ⟨by
         have h1 : (((2 ^ Lf : Nat)) : Int) = (2 : Int) ^ Lf := by push_cast; rfl
         rw [HR2.out, if_pos ⟨by omega, by rw [hNl]; omega⟩]⟩
        clear HR2 hNl hm
        repeat' (first
         | ((with_reducible refine gs9 68 ?_); refine wpl_call (f := 50) Tryd.call50 kr9 ?_; refine ⟨_, (HL0.out), ?_⟩; rintro e w ⟨rfl, hE⟩; rw [HLF.out]; replace hS := hS.ext hE; clear hE; refine ⟨_, rfl, ?_⟩; refine put_move ?_; go_step) | (refine y984 ?_) | ((with_reducible refine gs9 74 ?_); refine wpl_call (f := 51) Tryd.call51 kr9 ?_; refine ⟨_, (get_own w0 _ _ _ gr nl cp i (Lf % 8) ap l hS pl9 HLt.out (by omega) hi (by omega)), ?_⟩; rintro e w ⟨_, hq⟩; obtain ⟨rfl, hS2⟩ := hq (by omega); clear hq hS; have hS := hS2; clear hS2; rw [HN.out]; refine ⟨_, rfl, ?_⟩; refine put_move ?_; go_step) | (refine y91 ?_) | (refine y9139 ?_) | ((with_reducible refine gs9 78 ?_); (refine wplD _ (V.gtr rfl rfl) kr9 (fun hB => ?_) (fun hB => ?_) <;> (try (have hF : False := (by omega); cases hF)) <;> go_step)) | (refine y9113 ?_) | (refine y9105 ?_) | ((with_reducible refine gt9 _ (.binOp .shl _ _ _ _) ?_); (refine wvv9 (V.shl1 rfl rfl isn9 (by omega)) ?_; go_step)) | (refine y995 ?_) | (refine y992 ?_) | (refine y9136 ?_) | ((fail_if_success with_reducible refine ga9 ?_); go_step))
        all_goals (try (have hF : False := (by omega); cases hF))
        repeat' (first
         | ((fail_if_success with_reducible refine ga9 ?_); go_step))
        refine ret_all (xs := [_, _]) rfl (.cons (OneRes.tmp rfl) (.cons (OneRes.tmp rfl) (.nil))) (by simp) rfl ?_
        exact ⟨ao, co, k, by rw [hR0.out]; exact HAL.out, by rw [hR0.out]; rfl, by rw [hR0.out]; exact hS.sub sb9⟩
      · have hR4 : Veil5 (R = (4, [])) := ⟨by
         rw [HR2.out, if_neg ?_]
         rintro ⟨_, h⟩
         rw [hNl] at h
         have h1 : (((2 ^ Lf : Nat)) : Int) = (2 : Int) ^ Lf := by push_cast; rfl
         have h2 := Nat.two_pow_pos Lf
         omega⟩
        clear HR2 hNl hm
        repeat' (first
         | ((with_reducible refine gs9 68 ?_); refine wpl_call (f := 50) Tryd.call50 kr9 ?_; refine ⟨_, (HL0.out), ?_⟩; rintro e w ⟨rfl, hE⟩; rw [HLF.out]; replace hS := hS.ext hE; clear hE; refine ⟨_, rfl, ?_⟩; refine put_move ?_; go_step) | (refine y984 ?_) | ((with_reducible refine gs9 74 ?_); refine wpl_call (f := 51) Tryd.call51 kr9 ?_; refine ⟨_, (get_own w0 _ _ _ gr nl cp i (Lf % 8) ap l hS pl9 HLt.out (by omega) hi (by omega)), ?_⟩; rintro e w ⟨_, hq⟩; obtain ⟨rfl, hS2⟩ := hq (by omega); clear hq hS; have hS := hS2; clear hS2; rw [HN.out]; refine ⟨_, rfl, ?_⟩; refine put_move ?_; go_step) | (refine y91 ?_) | (refine y9139 ?_) | ((with_reducible refine gs9 78 ?_); (refine wplD _ (V.gtr rfl rfl) kr9 (fun hB => ?_) (fun hB => ?_) <;> (try (have hF : False := (by omega); cases hF)) <;> go_step)) | (refine y9113 ?_) | (refine y9105 ?_) | ((with_reducible refine gt9 _ (.binOp .shl _ _ _ _) ?_); (refine wvv9 (V.shl1 rfl rfl isn9 (by omega)) ?_; go_step)) | (refine y995 ?_) | (refine y992 ?_) | (refine y9136 ?_) | ((fail_if_success with_reducible refine ga9 ?_); go_step))
        all_goals (try (have hF : False := (by omega); cases hF))
        all_goals
         refine ret_all (xs := [_, _]) rfl (.cons (OneRes.tmp rfl) (.cons (OneRes.tmp rfl) (.nil))) (by simp) rfl ?_
         exact dec_err 4 (by rw [hR4.out]) (by rw [hR4.out]) hS.1

set_option maxRecDepth 100000
set_option linter.unusedVariables false
set_option maxHeartbeats 8000000 in
theorem segDecode_tab (w0 : World) (C1 C2 S1 S2 : List Int) (a1 a2 : Option Addr) (n1 n2 k1 k2 : Nat) (hC1 : Len C1 16) (hC2 : Len C2 16) (hs1 : Sl w0 1 (.slice a1 n1 k1) n1 (S1.map (Value.int .i64))) (hs2 : Sl w0 1 (.slice a2 n2 k2) n2 (S2.map (Value.int .i64))) (hn1 : n1 ≤ 9223372036854775807) (hn2 : n2 ≤ 9223372036854775807) (ad : Option Addr) (nb c : Nat) (z : Int) (E : Int) (hE : tbE C1 S1 C2 S2 = E) (h0 : E ≠ 0) :
 Calls Tryd.prog 24 #[.agg (pcells [.ints C1, .val (.slice a1 n1 k1), .ints C2, .val (.slice a2 n2 k2)]).toArray, .slice ad nb c, .int .i64 z] w0 (SegDec w0 E []) := by
 have hS := St.start w0
 have HE := hid hE
 clear hE
 go_enter Tryd.func24, Tryd.ntmps24
 repeat' (first
  | ((with_reducible refine gs9 21 ?_); refine wpl_call (f := 37) Tryd.call37 kr9 ?_; refine ⟨_, (made_bad _ C1 C2 S1 S2 a1 a2 n1 n2 k1 k2 hC1 hC2 (hs1.ext hS.1) (hs2.ext hS.1) hn1 hn2 E HE.out h0), ?_⟩; rintro e w ⟨rfl, hE2⟩; replace hS := hS.ext hE2; clear hE2; refine ⟨_, rfl, ?_⟩; refine put_move ?_; go_step) | (refine y91 ?_) | (refine y9105 ?_) | (refine y991 ?_) | ((with_reducible refine gs9 3 ?_); (refine wl9 ?_; apply wp_boxP (o := ⟨some 3, _, _, _, _, _⟩) hS 33 _ rfl _ rfl; clear hS; intro g3 w hS; refine put_move ?_; go_step)) | (refine y9127 ?_) | ((fail_if_success with_reducible refine ga9 ?_); go_step))
 all_goals (try (have hF : False := (by omega); cases hF))
 refine ret_all (xs := [_, _]) rfl (.cons (OneRes.tmp rfl) (.cons (OneRes.tmp rfl) (.nil))) (by simp) rfl ?_
 exact dec_err E rfl rfl hS.1
set_option maxHeartbeats 8000000 in
theorem segDecode_arg (w0 : World) (C1 C2 S1 S2 : List Int) (a1 a2 : Option Addr) (n1 n2 k1 k2 : Nat) (hC1 : Len C1 16) (hC2 : Len C2 16) (hs1 : Sl w0 1 (.slice a1 n1 k1) n1 (S1.map (Value.int .i64))) (hs2 : Sl w0 1 (.slice a2 n2 k2) n2 (S2.map (Value.int .i64))) (hn1 : n1 ≤ 9223372036854775807) (hn2 : n2 ≤ 9223372036854775807) (ad : Option Addr) (nb c : Nat) (z : Int) (hT1 : tabE C1 S1 = 0) (hT2 : tabE C2 S2 = 0) (hz : z < 0 ∨ 400 < z) :
 Calls Tryd.prog 24 #[.agg (pcells [.ints C1, .val (.slice a1 n1 k1), .ints C2, .val (.slice a2 n2 k2)]).toArray, .slice ad nb c, .int .i64 z] w0 (SegDec w0 1 []) := by
 have hS := St.start w0
 have HT1 := hid hT1
 have HT2 := hid hT2
 clear hT1 hT2
 rcases hz with hz | hz
 all_goals
  go_enter Tryd.func24, Tryd.ntmps24
  repeat' (first
   | ((with_reducible refine gs9 21 ?_); refine wpl_call (f := 37) Tryd.call37 kr9 ?_; refine ⟨_, (made_ok _ C1 C2 S1 S2 a1 a2 n1 n2 k1 k2 hC1 hC2 (hs1.ext hS.1) (hs2.ext hS.1) hn1 hn2 HT1.out HT2.out), ?_⟩; rintro e w ⟨gc, rfl, hS2⟩; replace hS := hS.call1 hS2; clear hS2; refine ⟨_, rfl, ?_⟩; refine put_move ?_; go_step) | (refine y91 ?_) | (refine y9105 ?_) | (refine y991 ?_) | ((with_reducible refine gs9 3 ?_); (refine wl9 ?_; apply wp_boxP (o := ⟨some 3, _, _, _, _, _⟩) hS 33 _ rfl _ rfl; clear hS; intro g3 w hS; refine put_move ?_; go_step)) | (refine y9127 ?_) | ((fail_if_success with_reducible refine ga9 ?_); go_step))
  all_goals (try (have hF : False := (by omega); cases hF))
  repeat' (first
   | go_skip | ((first | (with_reducible refine mv9 ?_) | (with_reducible refine as9 ?_)); (first | go_big_want | go_step); go_step) | ((with_reducible refine gt9 _ (.pick _ _ _) ?_); first | (refine wplPickT rfl kr9 ?_; go_step) | (refine wplPickF rfl kr9 ?_; go_step)) | ((with_reducible refine gs9 28 ?_); (refine wplD _ (V.lss rfl rfl) kr9 (fun hB => ?_) (fun hB => ?_) <;> (try (have hF : False := (by omega); cases hF)) <;> go_step)) | ((with_reducible refine gt9 _ (.binOp .gtr _ _ _ _) ?_); (refine wvv9 (V.gtr rfl rfl) ?_; go_step)) | ((fail_if_success with_reducible refine ga9 ?_); go_step))
  all_goals (try (have hF : False := (by omega); cases hF))
  refine ret_all (xs := [_, _]) rfl (.cons (OneRes.tmp rfl) (.cons (OneRes.tmp rfl) (.nil))) (by simp) rfl ?_
  exact dec_err 1 rfl rfl hS.1
set_option maxHeartbeats 8000000 in
theorem segDecode_plain (w0 : World) (C1 C2 S1 S2 : List Int) (a1 a2 : Option Addr) (n1 n2 k1 k2 : Nat) (hC1 : Len C1 16) (hC2 : Len C2 16) (hs1 : Sl w0 1 (.slice a1 n1 k1) n1 (S1.map (Value.int .i64))) (hs2 : Sl w0 1 (.slice a2 n2 k2) n2 (S2.map (Value.int .i64))) (hn1 : n1 ≤ 9223372036854775807) (hn2 : n2 ≤ 9223372036854775807) (ad : Option Addr) (nb c : Nat) (b : List Int) (z : Int)
 (hb : nb ≤ 1000000000) (hv : Sl w0 1 (.slice ad nb c) nb (b.map (Value.int .u8))) (hnil : ad = none → c = 0) (hx : ∀ x ∈ b, 0 ≤ x ∧ x < 256) (hml : ∃ m, w0.cell? ⟨0, 0, none⟩ = some (.int .i64 m)) (hT1 : tabE C1 S1 = 0) (hT2 : tabE C2 S2 = 0) (hz : 0 ≤ z ∧ z ≤ 400) (hno : ∀ cc, b ≠ stf cc) :
 Calls Tryd.prog 24 #[.agg (pcells [.ints C1, .val (.slice a1 n1 k1), .ints C2, .val (.slice a2 n2 k2)]).toArray, .slice ad nb c, .int .i64 z] w0 (SegDec w0 4 []) := by
 have hS := St.start w0
 have HT1 := hid hT1
 have HT2 := hid hT2
 have HX := hid hx
 have HNO := hid hno
 clear hT1 hT2 hx hno
 go_enter Tryd.func24, Tryd.ntmps24
 repeat' (first
  | ((with_reducible refine gs9 21 ?_); refine wpl_call (f := 37) Tryd.call37 kr9 ?_; refine ⟨_, (made_ok _ C1 C2 S1 S2 a1 a2 n1 n2 k1 k2 hC1 hC2 (hs1.ext hS.1) (hs2.ext hS.1) hn1 hn2 HT1.out HT2.out), ?_⟩; rintro e w ⟨gc, rfl, hS2⟩; replace hS := hS.call1 hS2; clear hS2; refine ⟨_, rfl, ?_⟩; refine put_move ?_; go_step) | (refine y91 ?_) | (refine y9105 ?_) | (refine y991 ?_) | ((with_reducible refine gs9 3 ?_); (refine wl9 ?_; apply wp_boxP (o := ⟨some 3, _, _, _, _, _⟩) hS 33 _ rfl _ rfl; clear hS; intro g3 w hS; refine put_move ?_; go_step)) | (refine y9127 ?_) | ((fail_if_success with_reducible refine ga9 ?_); go_step))
 all_goals (try (have hF : False := (by omega); cases hF))
 repeat' (first
  | (refine y9146 ?_) | (refine y9139 ?_) | ((with_reducible refine gs9 28 ?_); (refine wplD _ (V.lss rfl rfl) kr9 (fun hB => ?_) (fun hB => ?_) <;> (try (have hF : False := (by omega); cases hF)) <;> go_step)) | (refine y988 ?_) | ((fail_if_success with_reducible refine ga9 ?_); go_step))
 all_goals (try (have hF : False := (by omega); cases hF))
 repeat' (first
  | ((with_reducible refine gs9 35 ?_); refine wpl_call (f := 20) Tryd.call20 kr9 ?_; refine ⟨_, (plain_any w ad nb c b (hv.ext hS.1) hnil HX.out hb (by obtain ⟨m, hm⟩ := hml; exact ⟨m, hS.1.cell hm⟩)), ?_⟩; rintro e w ⟨_, hq⟩; obtain ⟨rfl, hE2⟩ := hq HNO.out; clear hq; replace hS := hS.ext hE2; clear hE2; refine ⟨_, rfl, ?_⟩; refine put_move ?_; go_step) | (refine y91 ?_) | (refine y9105 ?_) | (refine y991 ?_) | ((fail_if_success with_reducible refine ga9 ?_); go_step))
 all_goals (try (have hF : False := (by omega); cases hF))
 refine ret_all (xs := [_, _]) rfl (.cons (OneRes.tmp rfl) (.cons (OneRes.tmp rfl) (.nil))) (by simp) rfl ?_
 exact dec_err 4 rfl rfl hS.1
open Classical in
noncomputable def dsf (b : List Int) : Option (List Nat) := if h : ∃ l : List Nat, (∀ x ∈ l, x < 256) ∧ b = stf (byI l) then some h.choose else none
theorem byI_inj {a b : List Nat} (h : byI a = byI b) : a = b := by
 unfold byI at h
 exact (List.map_inj_right (fun x y e => by omega)).1 h
theorem dsf_some {b : List Int} {l : List Nat} (h : dsf b = some l) : (∀ x ∈ l, x < 256) ∧ b = stf (byI l) := by
 unfold dsf at h
 split at h
 · rename_i h1
   have := h1.choose_spec
   rw [Option.some.inj h] at this
   exact this
 · cases h
theorem stf_of {cc : List Int} : ∀ x ∈ cc, x ∈ stf cc := by
 intro x hx
 unfold stf rep1
 rw [List.mem_flatMap]
 refine ⟨x, hx, ?_⟩
 split
 · rename_i h; subst h; simp
 · simp
theorem dsf_none {b : List Int} (hx : ∀ x ∈ b, 0 ≤ x ∧ x < 256) (h : dsf b = none) : ∀ cc, b ≠ stf cc := by
 rintro cc rfl
 have h1 : ∃ l : List Nat, (∀ x ∈ l, x < 256) ∧ stf cc = stf (byI l) := by
  refine ⟨cc.map Int.toNat, fun x hx2 => ?_, ?_⟩
  · obtain ⟨y, hy, rfl⟩ := List.mem_map.1 hx2
    have := hx y (stf_of y hy)
    omega
  · congr 1
    unfold byI
    rw [List.map_map]
    symm
    rw [List.map_congr_left (g := id) (fun x hx2 => by have := hx x (stf_of x hx2); simp; omega), List.map_id]
 unfold dsf at h
 rw [dif_pos h1] at h
 cases h
noncomputable def segD (C1 S1 C2 S2 : List Int) (b : List Int) (z : Int) : Int × List Int :=
 if tbE C1 S1 C2 S2 = 0 then if 0 ≤ z ∧ z ≤ 400 then match dsf b with
  | none => (4, [])
  | some l => dcf (wds C1 S1) (wds C2 S2) l z.toNat
 else (1, []) else (tbE C1 S1 C2 S2, [])
theorem tbE_zero {C1 S1 C2 S2 : List Int} (h : tbE C1 S1 C2 S2 = 0) : tabE C1 S1 = 0 ∧ tabE C2 S2 = 0 := by
 unfold tbE at h
 by_cases h1 : tabE C1 S1 = 0
 · rw [if_pos h1] at h; exact ⟨h1, h⟩
 · rw [if_neg h1] at h; exact absurd h h1
theorem segDecode_any (w0 : World) (C1 C2 S1 S2 : List Int) (a1 a2 : Option Addr) (n1 n2 k1 k2 : Nat) (hC1 : Len C1 16) (hC2 : Len C2 16) (hs1 : Sl w0 1 (.slice a1 n1 k1) n1 (S1.map (Value.int .i64))) (hs2 : Sl w0 1 (.slice a2 n2 k2) n2 (S2.map (Value.int .i64))) (hn1 : n1 ≤ 9223372036854775807) (hn2 : n2 ≤ 9223372036854775807) (ad : Option Addr) (nb c : Nat) (b : List Int) (z : Int)
 (hb : nb ≤ 1000000000) (hv : Sl w0 1 (.slice ad nb c) nb (b.map (Value.int .u8))) (hnil : ad = none → c = 0) (hx : ∀ x ∈ b, 0 ≤ x ∧ x < 256) (hml : ∃ m, w0.cell? ⟨0, 0, none⟩ = some (.int .i64 m)) (R : Int × List Int) (hR : segD C1 S1 C2 S2 b z = R) :
 Calls Tryd.prog 24 #[.agg (pcells [.ints C1, .val (.slice a1 n1 k1), .ints C2, .val (.slice a2 n2 k2)]).toArray, .slice ad nb c, .int .i64 z] w0 (SegDec w0 R.1 R.2) := by
 subst hR
 unfold segD
 by_cases hT : tbE C1 S1 C2 S2 = 0
 · rw [if_pos hT]
   obtain ⟨h1, h2⟩ := tbE_zero hT
   by_cases hz : 0 ≤ z ∧ z ≤ 400
   · rw [if_pos hz]
     cases hd : dsf b with
     | none => exact segDecode_plain w0 C1 C2 S1 S2 a1 a2 n1 n2 k1 k2 hC1 hC2 hs1 hs2 hn1 hn2 ad nb c b z hb hv hnil hx hml h1 h2 hz (dsf_none hx hd)
     | some l =>
      obtain ⟨hl, rfl⟩ := dsf_some hd
      obtain ⟨n, rfl⟩ : ∃ n : Nat, z = (n : Int) := ⟨z.toNat, by omega⟩
      exact segDecode_run w0 C1 C2 S1 S2 a1 a2 n1 n2 k1 k2 hC1 hC2 hs1 hs2 hn1 hn2 ad nb c l n hb hv hnil hl hml (by omega) h1 h2 _ rfl
   · rw [if_neg hz]
     exact segDecode_arg w0 C1 C2 S1 S2 a1 a2 n1 n2 k1 k2 hC1 hC2 hs1 hs2 hn1 hn2 ad nb c z h1 h2 (by omega)
 · rw [if_neg hT]
   exact segDecode_tab w0 C1 C2 S1 S2 a1 a2 n1 n2 k1 k2 hC1 hC2 hs1 hs2 hn1 hn2 ad nb c z _ rfl hT

set_option maxRecDepth 100000
set_option linter.unusedVariables false
theorem segD_again {C1 S1 C2 S2 b : List Int} {z : Int} (h : (segD C1 S1 C2 S2 b z).1 = 0) :
 ∃ n : Nat, z = (n : Int) ∧ n ≤ 400 ∧ (segD C1 S1 C2 S2 b z).2.length = n * 64 ∧ segE C1 S1 C2 S2 (segD C1 S1 C2 S2 b z).2 n = 0 ∧ segB C1 S1 C2 S2 (segD C1 S1 C2 S2 b z).2 n = b := by
 unfold segD at h ⊢
 by_cases ht : tbE C1 S1 C2 S2 = 0
 case neg => rw [if_neg ht] at h; exact absurd h ht
 rw [if_pos ht] at h ⊢
 obtain ⟨t1, t2⟩ := tbE_zero ht
 by_cases hz : 0 ≤ z ∧ z ≤ 400
 case neg => rw [if_neg hz] at h; cases h
 rw [if_pos hz] at h ⊢
 cases hd : dsf b with
 | none => rw [hd] at h; cases h
 | some l =>
  rw [hd] at h
  dsimp only at h ⊢
  obtain ⟨hl, hb⟩ := dsf_some hd
  obtain ⟨k1, k2, k3, k4⟩ := dcf_again (wds_good t1) (wds_good t2) hl h
  have hz2 : z.toNat ≤ 400 := by omega
  have hblk : blkE (dcf (wds C1 S1) (wds C2 S2) l z.toNat).2 z.toNat = 0 := by
   unfold blkE
   rw [if_neg (by omega), if_pos k2]
  have he := enc_all (wds C1 S1) (wds C2 S2) _ [] k3
  have h0 : segE C1 S1 C2 S2 (dcf (wds C1 S1) (wds C2 S2) l z.toNat).2 z.toNat = 0 := by
   unfold segE
   rw [if_pos ht, if_pos hblk, he]
  refine ⟨z.toNat, by omega, hz2, k1, h0, ?_⟩
  unfold segB segBits
  rw [if_pos h0, he]
  dsimp only
  rw [List.nil_append, k4, hb]

set_option maxRecDepth 100000
set_option linter.unusedVariables false
theorem stf_prefix : ∀ (P F : List Int) (r : List Int), stf P ++ r = stf F → ∃ s, F = P ++ s
 | [], F, r, _ => ⟨F, rfl⟩
 | x :: P, [], r, h => by
  rw [stf_cons, stf_nil] at h
  by_cases hx : x = 255
  · rw [if_pos hx] at h; simp at h
  · rw [if_neg hx] at h; simp at h
 | x :: P, y :: F, r, h => by
  rw [stf_cons, stf_cons, List.append_assoc] at h
  by_cases hx : x = 255
  · rw [if_pos hx] at h
    by_cases hy : y = 255
    · rw [if_pos hy] at h
      obtain ⟨s, hs⟩ := stf_prefix P F r (List.append_cancel_left h)
      exact ⟨s, by rw [hs, hx, hy]; rfl⟩
    · rw [if_neg hy] at h
      simp at h
      exact absurd h.1.symm hy
  · rw [if_neg hx] at h
    by_cases hy : y = 255
    · rw [if_pos hy] at h
      simp at h
      exact absurd (h.1.trans rfl) hx
    · rw [if_neg hy] at h
      simp at h
      obtain ⟨h1, h2⟩ := h
      obtain ⟨s, hs⟩ := stf_prefix P F r h2
      exact ⟨s, by rw [hs, h1]; rfl⟩
theorem dcl_more {L1 L2 : List (Int × Nat × Nat)} (h1 : Good L1) (h2 : Good L2) {P F : List Nat} (s : List Nat) (hF : F = P ++ s) {n : Nat} (h : (dcl (tkNext L1 L2 P) n 0 0).1 = 0) :
 dcl (tkNext L1 L2 F) n 0 0 = (0, (dcl (tkNext L1 L2 P) n 0 0).2.1, (((tfq 0 (dcl (tkNext L1 L2 P) n 0 0).2.1 n).flatMap (tkBits L1 L2)).length)) := by
 obtain ⟨k1, k2⟩ := dcl_fed (tkNext L1 L2 P) n 0 0 h (by omega)
 have hlen := dcl_len (tkNext L1 L2 P) n 0 0 h
 obtain ⟨⟨E, B, i⟩, hd⟩ : ∃ d, dcl (tkNext L1 L2 P) n 0 0 = d := ⟨_, rfl⟩
 rw [hd] at k1 k2 hlen ⊢
 dsimp only at k1 k2 hlen ⊢
 obtain ⟨m1, m2, m3⟩ := fed_read h1 h2 P _ 0 i k1 (by omega)
 obtain ⟨f1, f2, f3⟩ := fed_back h1 h2 F (tfq 0 B n) 0 ((unpack P).drop i ++ unpack s) (by omega) (tfq_okX n 0 B (by omega) hlen k2) m2 (by
  rw [List.drop_zero] at m3 ⊢
  rw [hF, unpack_append, m3, List.append_assoc]
  congr 1
  congr 1
  rw [← m3])
 rw [Nat.zero_add] at f1
 exact dcl_of (tkNext L1 L2 F) n 0 B 0 _ hlen (by omega) k2 f1
theorem cut_not {C1 S1 C2 S2 l : List Int} {n q : Nat} (hl : l.length = n * 64) (h0 : segE C1 S1 C2 S2 l n = 0) (hq : q < (segB C1 S1 C2 S2 l n).length) :
 (segD C1 S1 C2 S2 ((segB C1 S1 C2 S2 l n).take q) (n : Int)).1 ≠ 0 := by
 intro h
 obtain ⟨n', e1, e2, e3, e4, e5⟩ := segD_again h
 obtain rfl : n = n' := by omega
 have ht : tbE C1 S1 C2 S2 = 0 := by
  unfold segE at h0
  by_cases h1 : tbE C1 S1 C2 S2 = 0
  · exact h1
  · rw [if_neg h1] at h0; exact absurd h0 h1
 have hb : blkE l n = 0 := by
  unfold segE at h0
  rw [if_pos ht] at h0
  by_cases h1 : blkE l n = 0
  · exact h1
  · rw [if_neg h1] at h0; exact absurd h0 h1
 obtain ⟨t1, t2⟩ := tbE_zero ht
 have hall : allBlk l n = true := by
  unfold blkE at hb
  split at hb
  · cases hb
  · cases h : allBlk l n
    · rw [h] at hb; cases hb
    · rfl
 have hw : words (wds C1 S1) (wds C2 S2) (tfl l 0 n) := by
  by_cases h1 : words (wds C1 S1) (wds C2 S2) (tfl l 0 n)
  · exact h1
  · have := enc_not (wds C1 S1) (wds C2 S2) _ [] h1
    unfold segE at h0
    rw [if_pos ht, if_pos hb, this] at h0
    cases h0
 have hbk := dcf_back (wds_good t1) (wds_good t2) hl hall hw
 obtain ⟨F, hF⟩ : ∃ F, bytesOf ((tfl l 0 n).flatMap (tkBits (wds C1 S1) (wds C2 S2))) = F := ⟨_, rfl⟩
 have hsb : segB C1 S1 C2 S2 l n = stf (byI F) := by
  unfold segB segBits
  rw [if_pos h0, enc_all _ _ _ [] hw, List.nil_append, hF]
 rw [hF] at hbk
 obtain ⟨a, ha⟩ : ∃ a, segB C1 S1 C2 S2 l n = a := ⟨_, rfl⟩
 rw [ha] at h hq e3 e4 e5 hsb
 -- the piece is stuffed
 have hd : ∃ P, dsf (a.take q) = some P := by
  unfold segD at h
  rw [if_pos ht, if_pos (by omega)] at h
  cases hd : dsf (a.take q) with
  | none => rw [hd] at h; cases h
  | some P => exact ⟨P, rfl⟩
 obtain ⟨P, hd⟩ := hd
 obtain ⟨hP, hPe⟩ := dsf_some hd
 have hD : segD C1 S1 C2 S2 (a.take q) n = dcf (wds C1 S1) (wds C2 S2) P n := by
  unfold segD
  rw [if_pos ht, if_pos (by omega), hd]
  dsimp only
  rw [Int.toNat_natCast]
 rw [hD] at h e3 e4 e5
 obtain ⟨s, hs⟩ := stf_prefix (byI P) (byI F) (a.drop q) (by rw [← hPe, List.take_append_drop, hsb])
 have hFP : F = P ++ F.drop P.length := by
  have h1 : P.length ≤ F.length := by
   have := congrArg List.length hs
   unfold byI at this
   rw [List.length_append, List.length_map, List.length_map] at this
   omega
  have h2 : F.take P.length = P := by
   apply byI_inj
   have h3 := congrArg (List.take P.length) hs
   rw [List.take_left' (by unfold byI; rw [List.length_map])] at h3
   rw [← h3]
   unfold byI
   rw [List.map_take]
  rw [← h2, List.length_take, Nat.min_eq_left h1, List.take_append_drop]
 have hdcl : (dcl (tkNext (wds C1 S1) (wds C2 S2) P) n 0 0).1 = 0 := by
  unfold dcf at h
  by_cases h9 : (dcl (tkNext (wds C1 S1) (wds C2 S2) P) n 0 0).1 ≠ 0
  · rw [if_pos h9] at h; exact absurd h h9
  · simpa using h9
 have hmore := dcl_more (wds_good t1) (wds_good t2) _ hFP hdcl
 have heq : (dcf (wds C1 S1) (wds C2 S2) P n).2 = l := by
  have hP2 : (dcf (wds C1 S1) (wds C2 S2) P n).2 = (dcl (tkNext (wds C1 S1) (wds C2 S2) P) n 0 0).2.1 := by
   unfold dcf at h ⊢
   rw [if_neg (by simpa using hdcl)] at h ⊢
   split at h
   · rename_i hc; rw [if_pos hc]
   · cases h
  rw [hP2]
  unfold dcf at hbk
  rw [hmore] at hbk
  dsimp only at hbk
  rw [if_neg (by simp)] at hbk
  split at hbk
  · exact congrArg Prod.snd hbk
  · have := congrArg Prod.fst hbk; cases this
 rw [heq, ha] at e5
 have := congrArg List.length e5
 rw [List.length_take] at this
 omega

set_option maxRecDepth 100000
set_option linter.unusedVariables false
def okNE (n every : Int) : Prop := 0 ≤ every ∧ every ≤ 100 ∧ 0 ≤ n ∧ n ≤ 400
instance (n every : Int) : Decidable (okNE n every) := by unfold okNE; infer_instance
def spE (b : List Int) : Int := match spf b [] [] [] with
 | none => 4
 | some _ => 0
def pcE (C1 S1 C2 S2 b : List Int) (n every : Int) : Int := if okNE n every then if tbE C1 S1 C2 S2 = 0 then spE b else tbE C1 S1 C2 S2 else 1
def SpGives (w0 : World) (b : List Int) (e : Ending) (w : World) : Prop :=
 ∀ ps ms, spf b [] [] [] = some (ps, ms) → ∃ (pcs : List Pc) (ao am : Option Addr) (co cm lo lm : Nat), lo = ps.length ∧ lm = ms.length ∧ pcs.map (·.xs) = ps ∧ e = .returned (.tuple #[.slice ao lo co, .slice am lm cm, .int .i64 0]) ∧
  St w0 w [own 34 1 ao lo co (pcs.map Pc.val), own 3 1 am lm cm (ms.map (Value.int .i64)), star (pcs.map Pc.res)]
def PcGives (w0 : World) (E : Int) (b : List Int) (e : Ending) (w : World) : Prop :=
 (E ≠ 0 → e = .returned (.tuple #[.slice none 0 0, .slice none 0 0, .int .i64 E]) ∧ Ext w0 w) ∧ (E = 0 → SpGives w0 b e w)
theorem pc_no {w0 w : World} {E : Int} {b : List Int} (E' : Int) (h : E = E') (h0 : E' ≠ 0) (hE : Ext w0 w) : PcGives w0 E b (.returned (.tuple #[.slice none 0 0, .slice none 0 0, .int .i64 E'])) w := by
 subst h
 exact ⟨fun _ => ⟨rfl, hE⟩, fun h => absurd h h0⟩
set_option maxHeartbeats 8000000 in
theorem pieces_any (w0 : World) (C1 C2 S1 S2 : List Int) (a1 a2 : Option Addr) (n1 n2 k1 k2 : Nat) (hC1 : Len C1 16) (hC2 : Len C2 16) (hs1 : Sl w0 1 (.slice a1 n1 k1) n1 (S1.map (Value.int .i64))) (hs2 : Sl w0 1 (.slice a2 n2 k2) n2 (S2.map (Value.int .i64))) (hn1 : n1 ≤ 9223372036854775807) (hn2 : n2 ≤ 9223372036854775807) (ad : Option Addr) (nb c : Nat) (b : List Int) (n every : Int)
 (hb : nb ≤ 1000000000) (hv : Sl w0 1 (.slice ad nb c) nb (b.map (Value.int .u8))) (hx : ∀ x ∈ b, 0 ≤ x ∧ x < 256) :
 Calls Tryd.prog 56 #[.agg (pcells [.ints C1, .val (.slice a1 n1 k1), .ints C2, .val (.slice a2 n2 k2)]).toArray, .slice ad nb c, .int .i64 n, .int .i64 every] w0 (PcGives w0 (pcE C1 S1 C2 S2 b n every) b) := by
 have hS := St.start w0
 have hL1 := hid (tabLen2 C1 (.slice a1 n1 k1) hC1)
 have hL2 := hid (tabLen2 C2 (.slice a2 n2 k2) hC2)
 have HX := hid hx
 obtain ⟨E1, hE1⟩ : ∃ x, tabE C1 S1 = x := ⟨_, rfl⟩
 obtain ⟨E2, hE2⟩ : ∃ x, tabE C2 S2 = x := ⟨_, rfl⟩
 have HE1 := hid hE1
 have HE2 := hid hE2
 have HT := hid (show tbE C1 S1 C2 S2 = if E1 = 0 then E2 else E1 by unfold tbE; rw [hE1, hE2])
 clear hE1 hE2 hx
 by_cases hok : okNE n every
 case neg =>
  have HP := hid (show pcE C1 S1 C2 S2 b n every = 1 by unfold pcE; rw [if_neg hok])
  have hbad : (every < 0) ∨ (100 < every) ∨ (n < 0) ∨ (400 < n) := by unfold okNE at hok; omega
  clear hok
  rcases hbad with h | h | h | h
  all_goals
   go_enter Tryd.func56, Tryd.ntmps56
   repeat' (first
    | go_skip | ((first | (with_reducible refine mv9 ?_) | (with_reducible refine as9 ?_)); (first | go_big_want | go_step); go_step) | ((with_reducible refine gt9 _ (.pick _ _ _) ?_); first | (refine wplPickT rfl kr9 ?_; go_step) | (refine wplPickF rfl kr9 ?_; go_step)) | ((with_reducible refine gs9 15 ?_); (refine wplD _ (V.lss rfl rfl) kr9 (fun hB => ?_) (fun hB => ?_) <;> (try (have hF : False := (by omega); cases hF)) <;> go_step)) | ((with_reducible refine gs9 18 ?_); (refine wplD _ (V.gtr rfl rfl) kr9 (fun hB => ?_) (fun hB => ?_) <;> (try (have hF : False := (by omega); cases hF)) <;> go_step)) | ((with_reducible refine gs9 22 ?_); (refine wplD _ (V.lss rfl rfl) kr9 (fun hB => ?_) (fun hB => ?_) <;> (try (have hF : False := (by omega); cases hF)) <;> go_step)) | ((with_reducible refine gt9 _ (.binOp .gtr _ _ _ _) ?_); (refine wvv9 (V.gtr rfl rfl) ?_; go_step)) | ((with_reducible refine gs9 4 ?_); (refine wl9 ?_; apply wp_boxP (o := ⟨some 4, _, _, _, _, _⟩) hS 33 _ rfl _ rfl; clear hS; intro g4 w hS; refine put_move ?_; go_step)) | ((fail_if_success with_reducible refine ga9 ?_); go_step))
   all_goals (try (have hF : False := (by omega); cases hF))
   all_goals
    refine ret_all (xs := [_, _, _]) rfl (.cons (OneRes.tmp rfl) (.cons (OneRes.tmp rfl) (.cons (OneRes.tmp rfl) (.nil)))) (by simp) rfl ?_
    exact pc_no 1 HP.out (by decide) hS.1
 have HP := hid (show pcE C1 S1 C2 S2 b n every = if tbE C1 S1 C2 S2 = 0 then spE b else tbE C1 S1 C2 S2 by unfold pcE; rw [if_pos hok])
 have hok2 := hok
 unfold okNE at hok2
 obtain ⟨o1, o2, o3, o4⟩ := hok2
 clear hok
 go_enter Tryd.func56, Tryd.ntmps56
 repeat' (first
  | (refine y91 ?_) | (refine y9139 ?_) | ((with_reducible refine gs9 15 ?_); (refine wplD _ (V.lss rfl rfl) kr9 (fun hB => ?_) (fun hB => ?_) <;> (try (have hF : False := (by omega); cases hF)) <;> go_step)) | ((with_reducible refine gs9 18 ?_); (refine wplD _ (V.gtr rfl rfl) kr9 (fun hB => ?_) (fun hB => ?_) <;> (try (have hF : False := (by omega); cases hF)) <;> go_step)) | ((with_reducible refine gs9 22 ?_); (refine wplD _ (V.lss rfl rfl) kr9 (fun hB => ?_) (fun hB => ?_) <;> (try (have hF : False := (by omega); cases hF)) <;> go_step)) | (refine y988 ?_) | ((with_reducible refine gs9 4 ?_); (refine wl9 ?_; apply wp_boxP (o := ⟨some 4, _, _, _, _, _⟩) hS 33 _ rfl _ rfl; clear hS; intro g4 w hS; refine put_move ?_; go_step)) | ((fail_if_success with_reducible refine ga9 ?_); go_step))
 all_goals (try (have hF : False := (by omega); cases hF))
 repeat' (first
  | ((with_reducible refine gs9 32 ?_); refine wl9 ?_; refine wp_buildSlice1 (o := ⟨some 32, _, _, _, _, _⟩) hS 106 2 _ rfl 31 17 152 el106 _ _ (Parts.agg rfl hL1.out (Parts.agg rfl hL2.out Parts.nil)) rfl (by decide) (by decide) ?_; clear hS; intro g32 w hS; replace hS := st_tabs3 hS; refine put_move ?_; go_step) | (refine y9146 ?_) | (refine y9108 ?_) | (refine y9109 ?_) | (refine y997 ?_) | (refine y9126 ?_) | ((fail_if_success with_reducible refine ga9 ?_); go_step))
 clear hL1 hL2
 go_loopg [34] 2 (fun gk kv w => ∃ k : Nat, gk + k = 2 ∧ kv = .int .i64 k ∧ (1 ≤ k → E1 = 0) ∧ (2 ≤ k → E2 = 0) ∧ St w0 w [prt g32 [.ints C1, .val (.slice a1 n1 k1), .ints C2, .val (.slice a2 n2 k2)]])
 case atStart => exact ⟨0, rfl, rfl, fun h => absurd h (by omega), fun h => absurd h (by omega), hS.sub sb9⟩
 case round =>
  clear hS
  obtain ⟨k, hk, rfl, HA, HB, hS⟩ := hrel
  by_cases hlt : k < 2
  · obtain rfl | rfl : k = 0 ∨ k = 1 := by omega
    · clear HA HB
      repeat' (first
       | ((with_reducible refine gt9 _ (.call ⟨.value (.func 52), _, _⟩) ?_); refine wpl_call (f := 52) Tryd.call52 kr9 ?_; refine ⟨_, (check_any _ C1 S1 a1 n1 k1 hC1 (hs1.ext hS.1) hn1), ?_⟩; rintro e w ⟨rfl, hE2⟩; rw [HE1.out]; replace hS := hS.ext hE2; clear hE2; refine ⟨_, rfl, ?_⟩; refine put_move ?_; go_step) | (refine y91 ?_) | (refine y990 ?_) | (refine y959 ?_) | (refine y991 ?_) | (refine y985 ?_) | (refine y9126 ?_) | ((with_reducible refine gs9 12 ?_); (refine wl9 ?_; apply wp_allocP (o := ⟨some 12, _, _, _, _, _⟩) hS 31 rfl _ zp31; clear hS; intro g12 w hS; refine put_move ?_; go_step)) | ((with_reducible refine gt9 _ (.store 31 _ _) ?_); (refine wl9 ?_; apply wp_storePP hS 31 _ _ rfl _ rfl 17 (row_of rfl) _ _; (case hp => exact pl9); (case hy => rfl); (case hn => (repeat (first | exact Pre.nil | (apply Pre.ints; (case hn => (first | (with_reducible assumption) | exact Len.rep | exact Len.set (by with_reducible assumption) | exact Len.set Len.rep | exact Len.set (Len.set Len.rep))); (case h => omega); (case hm => rfl)) | apply Pre.val))); (case hn' => (repeat (first | exact Pre.nil | (apply Pre.ints; (case hn => (first | (with_reducible assumption) | exact Len.rep | exact Len.set (by with_reducible assumption) | exact Len.set Len.rep | exact Len.set (Len.set Len.rep))); (case h => omega); (case hm => rfl)) | apply Pre.val))); (case hv => rfl); (case hd => exact rfl); clear hS; intro w hS)) | ((fail_if_success with_reducible refine ga9 ?_); go_step))
      · skip
        refine ret_all (xs := [_, _, _]) rfl (.cons (OneRes.tmp rfl) (.cons (OneRes.tmp rfl) (.cons (OneRes.tmp rfl) (.nil)))) (by simp) rfl ?_
        exact pc_no E1 (by rw [HP.out, HT.out, if_neg (show ¬ E1 = 0 by omega), if_neg (by omega)]) (by omega) hS.1
      · go_roundg (gk - 1)
        case measure => omega
        case rel => exact ⟨1, by omega, rfl, fun _ => by omega, fun h => absurd h (by omega), hS.sub sb9⟩
    · have h1 := HA (by omega)
      subst h1
      clear HA HB
      repeat' (first
       | ((with_reducible refine gt9 _ (.call ⟨.value (.func 52), _, _⟩) ?_); refine wpl_call (f := 52) Tryd.call52 kr9 ?_; refine ⟨_, (check_any _ C2 S2 a2 n2 k2 hC2 (hs2.ext hS.1) hn2), ?_⟩; rintro e w ⟨rfl, hE2⟩; rw [HE2.out]; replace hS := hS.ext hE2; clear hE2; refine ⟨_, rfl, ?_⟩; refine put_move ?_; go_step) | (refine y91 ?_) | (refine y990 ?_) | (refine y959 ?_) | (refine y991 ?_) | (refine y985 ?_) | (refine y9126 ?_) | ((with_reducible refine gs9 12 ?_); (refine wl9 ?_; apply wp_allocP (o := ⟨some 12, _, _, _, _, _⟩) hS 31 rfl _ zp31; clear hS; intro g12 w hS; refine put_move ?_; go_step)) | ((with_reducible refine gt9 _ (.store 31 _ _) ?_); (refine wl9 ?_; apply wp_storePP hS 31 _ _ rfl _ rfl 17 (row_of rfl) _ _; (case hp => exact pl9); (case hy => rfl); (case hn => (repeat (first | exact Pre.nil | (apply Pre.ints; (case hn => (first | (with_reducible assumption) | exact Len.rep | exact Len.set (by with_reducible assumption) | exact Len.set Len.rep | exact Len.set (Len.set Len.rep))); (case h => omega); (case hm => rfl)) | apply Pre.val))); (case hn' => (repeat (first | exact Pre.nil | (apply Pre.ints; (case hn => (first | (with_reducible assumption) | exact Len.rep | exact Len.set (by with_reducible assumption) | exact Len.set Len.rep | exact Len.set (Len.set Len.rep))); (case h => omega); (case hm => rfl)) | apply Pre.val))); (case hv => rfl); (case hd => exact rfl); clear hS; intro w hS)) | ((fail_if_success with_reducible refine ga9 ?_); go_step))
      · skip
        refine ret_all (xs := [_, _, _]) rfl (.cons (OneRes.tmp rfl) (.cons (OneRes.tmp rfl) (.cons (OneRes.tmp rfl) (.nil)))) (by simp) rfl ?_
        exact pc_no E2 (by rw [HP.out, HT.out, if_pos rfl, if_neg (by omega)]) (by omega) hS.1
      · go_roundg (gk - 1)
        case measure => omega
        case rel => exact ⟨2, by omega, rfl, fun _ => rfl, fun _ => by omega, hS.sub sb9⟩
  · obtain rfl : k = 2 := by omega
    have h1 := HA (by omega)
    have h2 := HB (by omega)
    subst h1; subst h2
    have HP2 := hid (show pcE C1 S1 C2 S2 b n every = spE b by rw [HP.out, HT.out, if_pos rfl, if_pos rfl])
    cases hsp : spf b [] [] [] with
    | none =>
     have HSP := hid hsp
     have HP3 := hid (show pcE C1 S1 C2 S2 b n every = 4 by rw [HP2.out]; unfold spE; rw [hsp])
     clear hsp
     repeat' (first
      | (refine y9146 ?_) | (refine y990 ?_) | ((fail_if_success with_reducible refine ga9 ?_); go_step))
     repeat' (first
      | ((with_reducible refine gs9 45 ?_); refine wpl_call (f := 19) Tryd.call19 kr9 ?_; refine ⟨_, (split_any _ ad nb c b (hv.ext hS.1) HX.out hb), ?_⟩; rintro e w ⟨hq, _⟩; obtain ⟨rfl, hE2⟩ := hq HSP.out; clear hq; replace hS := hS.ext hE2; clear hE2; refine ⟨_, rfl, ?_⟩; refine put_move ?_; go_step) | (refine y92 ?_) | (refine y9105 ?_) | ((fail_if_success with_reducible refine ga9 ?_); go_step))
     refine ret_all (xs := [_, _, _]) rfl (.cons (OneRes.tmp rfl) (.cons (OneRes.tmp rfl) (.cons (OneRes.tmp rfl) (.nil)))) (by simp) rfl ?_
     exact pc_no 4 HP3.out (by decide) hS.1
    | some y =>
     obtain ⟨ps, ms⟩ := y
     have HSP := hid hsp
     have HP3 := hid (show pcE C1 S1 C2 S2 b n every = 0 by rw [HP2.out]; unfold spE; rw [hsp])
     clear hsp
     repeat' (first
      | (refine y9146 ?_) | (refine y990 ?_) | ((fail_if_success with_reducible refine ga9 ?_); go_step))
     repeat' (first
      | ((with_reducible refine gs9 45 ?_); refine wpl_call (f := 19) Tryd.call19 kr9 ?_; refine ⟨_, (split_any _ ad nb c b (hv.ext hS.1) HX.out hb), ?_⟩; rintro e w ⟨_, hq⟩; obtain ⟨pcs, ao, am, co, cm, lo, lm, hlo, hlm, hpc, rfl, hS2⟩ := hq _ _ HSP.out; clear hq; have HQ := hid (And.intro hlo (And.intro hlm hpc)); clear hlo hlm hpc; replace hS := hS.call hS2; dsimp only [List.cons_append, List.nil_append] at hS; clear hS2; refine ⟨_, rfl, ?_⟩; refine put_move ?_; go_step) | (refine y92 ?_) | (refine y9105 ?_) | ((fail_if_success with_reducible refine ga9 ?_); go_step))
     refine ret_all (xs := [_, _, _]) rfl (.cons (OneRes.tmp rfl) (.cons (OneRes.tmp rfl) (.cons (OneRes.tmp rfl) (.nil)))) (by simp) rfl ?_
     refine ⟨fun h => absurd HP3.out h, fun _ ps' ms' hsp' => ?_⟩
     have he := HSP.out.symm.trans hsp'
     obtain ⟨rfl, rfl⟩ : ps = ps' ∧ ms = ms' := by simpa using he
     exact ⟨pcs, ao, am, co, cm, lo, lm, HQ.out.1, HQ.out.2.1, HQ.out.2.2, rfl, hS.sub sb9⟩

set_option maxRecDepth 100000
set_option linter.unusedVariables false
theorem bl111_0_1 (m0 : Int) (m1 : Int) (w : World) : (Instr.build 111 #[(0, .int .i64 m0), (1, .int .i64 m1)]).run Tryd.prog w = .ok (.agg #[.int .i64 m0, .int .i64 m1]) w := by kernel_rfl
def spnA (n every : Nat) : Nat → Nat → List (Nat × Nat)
 | 0, _ => []
 | f + 1, at_ => if at_ < n then (at_, min (at_ + every) n) :: spnA n every f (at_ + every) else []
def spn (n every : Nat) : List (Nat × Nat) := if every = 0 ∨ n = 0 then [(0, n)] else spnA n every n 0
def sfl (L : List (Nat × Nat)) : List Int := L.flatMap fun x => [(x.1 : Int), (x.2 : Int)]
theorem sfl_snoc (L : List (Nat × Nat)) (x : Nat × Nat) : sfl (L ++ [x]) = sfl L ++ [(x.1 : Int), (x.2 : Int)] := by simp [sfl]
theorem sfl_get : ∀ (L : List (Nat × Nat)) (k : Nat) (x : Nat × Nat), L[k]? = some x → ((sfl L).drop (k * 2)).take 2 = [(x.1 : Int), (x.2 : Int)]
 | [], k, x, h => by simp at h
 | y :: L, 0, x, h => by obtain rfl : y = x := (by simpa using h); simp [sfl]
 | y :: L, k + 1, x, h => by
  have := sfl_get L k x (by simpa using h)
  rw [show (k + 1) * 2 = k * 2 + 2 by omega]
  simpa [sfl] using this
set_option maxHeartbeats 4000000 in
theorem spans_any (w0 : World) (n every : Nat) (hn : n ≤ 1048576) (he : every ≤ 1048576) :
 Calls Tryd.prog 53 #[.int .i64 n, .int .i64 every] w0 fun e w => ∃ ad c m, (spn n every).length = m ∧ e = .returned (.slice ad m c) ∧ St w0 w [own 111 2 ad m c ((sfl (spn n every)).map (Value.int .i64))] := by
 have hS := St.start w0
 by_cases h0 : every = 0 ∨ n = 0
 · have HP := hid (show spn n every = [(0, n)] by unfold spn; rw [if_pos h0])
   rcases h0 with h0 | h0
   all_goals
    subst h0
    go_enter Tryd.func53, Tryd.ntmps53
    repeat' (first
     | ((with_reducible refine gs9 15 ?_); (refine wl9 ?_; apply wp_buildSliceO (o := ⟨some 15, _, _, _, _, _⟩) hS 108 1 _ rfl 111 2 16 el108 _ _; (case hvs => (repeat (first | exact Parts.nil | (apply Parts.agg; (rfl); (rfl)) | (apply Parts.one; exact isv9; (rfl); (rfl))))); (case hn => rfl); (case hn0 => decide); (case hns => decide); clear hS; intro g15 w hS; simp only [List.cons_append, List.nil_append] at hS; refine put_move ?_; go_step)) | go_skip | (refine y91 ?_) | (refine y9141 ?_) | ((with_reducible refine gs9 8 ?_); (refine wplD _ (V.eql rfl rfl) kr9 (fun hB => ?_) (fun hB => ?_) <;> (try (have hF : False := (by omega); cases hF)) <;> go_step)) | (refine y986 ?_) | ((with_reducible refine gs9 14 ?_); (refine wvv9 (V.build (vs := [(0, _), (1, _)]) rfl (bl111_0_1 _ _)) ?_; go_step)) | ((fail_if_success with_reducible refine ga9 ?_); go_step))
    all_goals (try (have hF : False := (by omega); cases hF))
    all_goals
     go_ret
     refine ⟨_, _, 1, by rw [HP.out]; rfl, rfl, ?_⟩
     rw [HP.out]
     exact hS.sub (xs := [own 111 2 (some ⟨g15, 0, none⟩) 1 1 [.int .i64 0, .int .i64 (_ : Nat)]]) sb9
 · have HP := hid (show spn n every = spnA n every n 0 by unfold spn; rw [if_neg h0])
   have he1 : 0 < every := by omega
   have hn1 : 0 < n := by omega
   clear h0
   go_enter Tryd.func53, Tryd.ntmps53
   repeat' (first
    | (refine y91 ?_) | (refine y9139 ?_) | ((with_reducible refine gs9 8 ?_); (refine wplD _ (V.eql rfl rfl) kr9 (fun hB => ?_) (fun hB => ?_) <;> (try (have hF : False := (by omega); cases hF)) <;> go_step)) | (refine y986 ?_) | ((fail_if_success with_reducible refine ga9 ?_); go_step))
   all_goals (try (have hF : False := (by omega); cases hF))
   repeat' (first
    | ((fail_if_success with_reducible refine ga9 ?_); go_step))
   replace hS := hS.nilk 111 2 .i64
   go_loopg [5, 6] n (fun gk ov iv_ w => ∃ (at_ m : Nat) (o : List (Nat × Nat)) (ad : Option Addr) (c : Nat), iv_ = .int .i64 at_ ∧ ov = .slice ad m c ∧ n ≤ gk + at_ ∧ at_ ≤ n + every ∧ m ≤ at_ ∧ Hid (o.length = m) ∧ Hid (spn n every = o ++ spnA n every gk at_) ∧ St w0 w [own 111 2 ad m c ((sfl o).map (Value.int .i64))])
   case atStart => exact ⟨0, 0, [], none, 0, rfl, rfl, by omega, by omega, by omega, hid rfl, hid (by rw [HP.out]; rfl), hS⟩
   case round =>
    clear hS
    obtain ⟨at_, m, o, ad, c, rfl, rfl, hg, ha, hm, HO, HA, hS⟩ := hrel
    by_cases hr0 : at_ < n
    · obtain ⟨f, rfl⟩ : ∃ f, gk = f + 1 := ⟨gk - 1, by omega⟩
      have ha := HA.out
      rw [spnA, if_pos hr0] at ha
      obtain ⟨q, hq⟩ : ∃ q, min (at_ + every) n = q := ⟨_, rfl⟩
      rw [hq] at ha
      have HA2 := hid ha
      have HSF := hid (sfl_snoc o (at_, q))
      clear ha
      repeat' (first
       | (refine y9146 ?_) | (refine y990 ?_) | ((fail_if_success with_reducible refine ga9 ?_); go_step))
      all_goals (try (have hF : False := (by omega); cases hF))
      repeat' (first
       | ((with_reducible refine gs9 28 ?_); (refine wplV (.int _ (((q : Nat) : Int))) (V.as (V.min rfl rfl) (by omega)) rfl ?_; go_step)) | (refine y91 ?_) | (refine y985 ?_) | ((with_reducible refine gs9 29 ?_); (refine wvv9 (V.build (vs := [(0, _), (1, _)]) rfl (bl111_0_1 _ _)) ?_; go_step)) | ((with_reducible refine gs9 30 ?_); (refine wl9 ?_; apply wp_buildSlice1 (o := ⟨some 30, _, _, _, _, _⟩) hS 108 1 _ rfl 111 2 16 el108 _ _; (case hvs => (repeat (first | exact Parts.nil | (apply Parts.agg; (rfl); (rfl)) | (apply Parts.one; exact isv9; (rfl); (rfl))))); (case hn => rfl); (case hn0 => decide); (case hns => decide); clear hS; intro g30 w hS; simp only [List.cons_append, List.nil_append] at hS; refine put_move ?_; go_step)) | ((with_reducible refine gs9 31 ?_); (refine wl9 ?_; apply wp_append (o := ⟨some 31, _, _, _, _, _⟩) hS _ _ 108 rfl 111 2 16 el108 _ _ _ _ rfl; (case hp => exact pl9); (case hx => exact rfl); (case hm => (first | exact hS.slBlk pl9 (by rfl) (by decide) | exact hS.sl pl9 | with_reducible assumption | exact Sl.ext (by with_reducible assumption) hS.1 | exact Sl.nil _ _ | exact Sl.ext (by assumption) hS.1 | assumption)); (case h1 => (first | exact oneAll rfl | exact oneMap _ _ | (intro u hu; cases hu))); (case h63 => unfold maxLen; omega); (case hb => omega); clear hS; intro ad31 c31 w hS; (first | simp only [mapk1] at hS | simp only [mapk2] at hS | simp only [mapk3] at hS | simp only [mapk4] at hS | simp only [mapkl] at hS | skip); refine put_move ?_; go_step)) | ((fail_if_success with_reducible refine ga9 ?_); go_step))
      repeat' (first
       | ((fail_if_success with_reducible refine ga9 ?_); go_step))
      go_roundg f
      case measure => omega
      case rel => exact ⟨at_ + every, m + 1, o ++ [(at_, q)], _, _, by go_num, rfl, by omega, by omega, by omega, hid (by rw [List.length_append, HO.out]; rfl), hid (by rw [HA2.out]; simp), by rw [HSF.out]; exact hS.sub sb9⟩
    · have hp : spn n every = o := by
       rw [HA.out]
       have : spnA n every gk at_ = [] := by
        cases gk with
        | zero => rfl
        | succ f => rw [spnA, if_neg hr0]
       rw [this, List.append_nil]
      have HPO := hid hp
      clear hp
      repeat' (first
       | (refine y91 ?_) | (refine y990 ?_) | ((fail_if_success with_reducible refine ga9 ?_); go_step))
      all_goals (try (have hF : False := (by omega); cases hF))
      repeat' (first
       | ((fail_if_success with_reducible refine ga9 ?_); go_step))
      go_ret
      refine ⟨_, _, m, by rw [HPO.out]; exact HO.out, rfl, ?_⟩
      rw [HPO.out]
      exact hS.sub sb9
theorem mark_any (w0 : World) (k : Nat) (hk : k ≤ 1000000000) : Calls Tryd.prog 54 #[.int .i64 k] w0 fun e w => e = .returned (.int .i64 ((208 + k % 8 : Nat) : Int)) ∧ Ext w0 w := by
 have hS := St.start w0
 go_enter Tryd.func54, Tryd.ntmps54
 repeat' (first
  | ((with_reducible refine gs9 4 ?_); (refine wplV (.int _ (((k % 8 : Nat) : Int))) (V.as (V.rem rfl rfl (by omega) (by omega)) (by omega)) rfl ?_; go_step)) | ((with_reducible refine gs9 5 ?_); (refine wplV (.int _ (((208 + k % 8 : Nat) : Int))) (V.as (V.addI rfl rfl (by omega)) (by omega)) rfl ?_; go_step)) | (refine y91 ?_) | ((fail_if_success with_reducible refine ga9 ?_); go_step))
 go_ret
 exact ⟨rfl, hS.1⟩

set_option maxRecDepth 100000
set_option linter.unusedVariables false
def mkOk (ms : List Int) (n : Nat) : Bool := (List.range n).all fun k => decide (nth ms k = ((208 + k % 8 : Nat) : Int))
theorem mkOk_succ (ms : List Int) (n : Nat) : mkOk ms (n + 1) = (mkOk ms n && decide (nth ms n = ((208 + n % 8 : Nat) : Int))) := by
 unfold mkOk; rw [List.range_succ, List.all_append]; simp
theorem mkOk_not {ms : List Int} {n k : Nat} (hk : k < n) (h : nth ms k ≠ ((208 + k % 8 : Nat) : Int)) : mkOk ms n = false := by
 cases e : mkOk ms n
 · rfl
 · unfold mkOk at e
   rw [List.all_eq_true] at e
   have := e k (List.mem_range.2 hk)
   exact absurd (of_decide_eq_true this) h
def whE (C1 S1 C2 S2 b : List Int) (n every : Int) : Int := if pcE C1 S1 C2 S2 b n every = 0 then match spf b [] [] [] with
 | none => 4
 | some y => if y.1.length = (spn n.toNat every.toNat).length then if mkOk y.2 y.2.length then 0 else 6 else 4
 else pcE C1 S1 C2 S2 b n every
def WhGives (w0 : World) (E : Int) (b : List Int) (m : Nat) (e : Ending) (w : World) : Prop :=
 (E ≠ 0 → e = .returned (.tuple #[.slice none 0 0, .int .i64 E]) ∧ Ext w0 w) ∧
 (E = 0 → ∃ (pcs : List Pc) (ms : List Int) (ao : Option Addr) (co : Nat), spf b [] [] [] = some (pcs.map (·.xs), ms) ∧ pcs.length = m ∧ e = .returned (.tuple #[.slice ao m co, .int .i64 0]) ∧ St w0 w [own 34 1 ao m co (pcs.map Pc.val), star (pcs.map Pc.res)])
theorem wh_no {w0 w : World} {E : Int} {b : List Int} {m : Nat} (E' : Int) (h : E = E') (h0 : E' ≠ 0) (hE : Ext w0 w) : WhGives w0 E b m (.returned (.tuple #[.slice none 0 0, .int .i64 E'])) w := by
 subst h
 exact ⟨fun _ => ⟨rfl, hE⟩, fun h => absurd h h0⟩
theorem pcE_zero {C1 S1 C2 S2 b : List Int} {n every : Int} (h : pcE C1 S1 C2 S2 b n every = 0) : okNE n every ∧ tbE C1 S1 C2 S2 = 0 ∧ ∃ y, spf b [] [] [] = some y := by
 unfold pcE at h
 by_cases h1 : okNE n every
 case neg => rw [if_neg h1] at h; cases h
 rw [if_pos h1] at h
 by_cases h2 : tbE C1 S1 C2 S2 = 0
 case neg => rw [if_neg h2] at h; exact absurd h h2
 rw [if_pos h2] at h
 refine ⟨h1, h2, ?_⟩
 unfold spE at h
 cases hs : spf b [] [] [] with
 | none => rw [hs] at h; cases h
 | some y => exact ⟨y, rfl⟩
theorem spf_marks : ∀ (b : List Int) (o : List (List Int)) (m p : List Int) (ps : List (List Int)) (ms : List Int), spf b o m p = some (ps, ms) → ms.length ≤ m.length + b.length
 | [], o, m, p, ps, ms, h => by
  rw [spf] at h
  have := (Prod.mk.injEq _ _ _ _ ▸ Option.some.inj h : _ ∧ _).2
  rw [← this]; simp
 | [x], o, m, p, ps, ms, h => by
  rw [spf] at h
  split at h
  · cases h
  · have := spf_marks [] o m (p ++ [x]) ps ms h
    simp at this ⊢; omega
 | x :: y :: b, o, m, p, ps, ms, h => by
  rw [spf] at h
  split at h
  · split at h
    · cases h
    · split at h
      · have := spf_marks b o m _ ps ms h
        simp at this ⊢; omega
      · have := spf_marks b _ _ _ ps ms h
        simp at this ⊢; omega
  · have := spf_marks (y :: b) o m (p ++ [x]) ps ms h
    simp at this ⊢; omega
set_option maxHeartbeats 8000000 in
theorem whole_any (w0 : World) (C1 C2 S1 S2 : List Int) (a1 a2 : Option Addr) (n1 n2 k1 k2 : Nat) (hC1 : Len C1 16) (hC2 : Len C2 16) (hs1 : Sl w0 1 (.slice a1 n1 k1) n1 (S1.map (Value.int .i64))) (hs2 : Sl w0 1 (.slice a2 n2 k2) n2 (S2.map (Value.int .i64))) (hn1 : n1 ≤ 9223372036854775807) (hn2 : n2 ≤ 9223372036854775807) (ad : Option Addr) (nb c : Nat) (b : List Int) (n every : Int)
 (hb : nb ≤ 1000000000) (hv : Sl w0 1 (.slice ad nb c) nb (b.map (Value.int .u8))) (hx : ∀ x ∈ b, 0 ≤ x ∧ x < 256) :
 Calls Tryd.prog 55 #[.agg (pcells [.ints C1, .val (.slice a1 n1 k1), .ints C2, .val (.slice a2 n2 k2)]).toArray, .slice ad nb c, .int .i64 n, .int .i64 every] w0 (WhGives w0 (whE C1 S1 C2 S2 b n every) b (spn n.toNat every.toNat).length) := by
 have hS := St.start w0
 have HX := hid hx
 clear hx
 by_cases hP : pcE C1 S1 C2 S2 b n every = 0
 case neg =>
  obtain ⟨E, hE⟩ : ∃ E, pcE C1 S1 C2 S2 b n every = E := ⟨_, rfl⟩
  have h0 : E ≠ 0 := by rw [← hE]; exact hP
  have HE := hid hE
  have HW := hid (show whE C1 S1 C2 S2 b n every = E by unfold whE; rw [if_neg hP]; exact hE)
  clear hP hE
  go_enter Tryd.func55, Tryd.ntmps55
  repeat' (first
   | ((with_reducible refine gs9 20 ?_); refine wpl_call (f := 56) Tryd.call56 kr9 ?_; refine ⟨_, (pieces_any _ C1 C2 S1 S2 a1 a2 n1 n2 k1 k2 hC1 hC2 (hs1.ext hS.1) (hs2.ext hS.1) hn1 hn2 ad nb c b n every hb (hv.ext hS.1) HX.out), ?_⟩; rintro e w ⟨hq, _⟩; rw [HE.out] at hq; obtain ⟨rfl, hE2⟩ := hq h0; clear hq; replace hS := hS.ext hE2; clear hE2; refine ⟨_, rfl, ?_⟩; refine put_move ?_; go_step) | (refine y91 ?_) | (refine y9105 ?_) | (refine y991 ?_) | ((with_reducible refine gs9 4 ?_); (refine wl9 ?_; apply wp_boxP (o := ⟨some 4, _, _, _, _, _⟩) hS 33 _ rfl _ rfl; clear hS; intro g4 w hS; refine put_move ?_; go_step)) | (refine y9127 ?_) | ((fail_if_success with_reducible refine ga9 ?_); go_step))
  all_goals (try (have hF : False := (by omega); cases hF))
  refine ret_all (xs := [_, _]) rfl (.cons (OneRes.tmp rfl) (.cons (OneRes.tmp rfl) (.nil))) (by simp) rfl ?_
  exact wh_no E HW.out h0 hS.1
 obtain ⟨hok, htb, ⟨ps, ms⟩, hsp⟩ := pcE_zero hP
 unfold okNE at hok
 obtain ⟨N, rfl⟩ : ∃ N : Nat, n = (N : Int) := ⟨n.toNat, by omega⟩
 obtain ⟨Ev, rfl⟩ : ∃ N : Nat, every = (N : Int) := ⟨every.toNat, by omega⟩
 have HWE := hid (show whE C1 S1 C2 S2 b N Ev = if ps.length = (spn N Ev).length then if mkOk ms ms.length then 0 else 6 else 4 by unfold whE; rw [if_pos hP, hsp]; dsimp only; rw [Int.toNat_natCast, Int.toNat_natCast])
 rw [Int.toNat_natCast, Int.toNat_natCast]
 obtain ⟨M, hM⟩ : ∃ M, (spn N Ev).length = M := ⟨_, rfl⟩
 rw [hM] at HWE ⊢
 have HM := hid hM
 have HP := hid hP
 have HSP := hid hsp
 clear hP hsp hM htb
 obtain ⟨lp, hlp⟩ : ∃ x, ps.length = x := ⟨_, rfl⟩
 obtain ⟨lm0, hlm0⟩ : ∃ x, ms.length = x := ⟨_, rfl⟩
 rw [hlp, hlm0] at HWE
 have HLP := hid hlp
 have HLM := hid hlm0
 clear hlp hlm0
 go_enter Tryd.func55, Tryd.ntmps55
 repeat' (first
  | ((with_reducible refine gs9 20 ?_); refine wpl_call (f := 56) Tryd.call56 kr9 ?_; refine ⟨_, (pieces_any _ C1 C2 S1 S2 a1 a2 n1 n2 k1 k2 hC1 hC2 (hs1.ext hS.1) (hs2.ext hS.1) hn1 hn2 ad nb c b (N : Int) (Ev : Int) hb (hv.ext hS.1) HX.out), ?_⟩; rintro e w ⟨_, hq⟩; obtain ⟨pcs, ao, am, co, cm, lo, lm, hlo, hlm, hpc, rfl, hS2⟩ := hq HP.out _ _ HSP.out; clear hq; obtain rfl : lp = lo := (by rw [hlo]; exact HLP.out.symm); obtain rfl : lm0 = lm := (by rw [hlm]; exact HLM.out.symm); have HPC := hid hpc; clear hlo hlm hpc; replace hS := hS.call hS2; dsimp only [List.cons_append, List.nil_append] at hS; clear hS2; refine ⟨_, rfl, ?_⟩; refine put_move ?_; go_step) | (refine y91 ?_) | (refine y9105 ?_) | (refine y991 ?_) | ((with_reducible refine gs9 4 ?_); (refine wl9 ?_; apply wp_boxP (o := ⟨some 4, _, _, _, _, _⟩) hS 33 _ rfl _ rfl; clear hS; intro g4 w hS; refine put_move ?_; go_step)) | (refine y9127 ?_) | ((fail_if_success with_reducible refine ga9 ?_); go_step))
 all_goals (try (have hF : False := (by omega); cases hF))
 by_cases hlen : lp = M
 case neg =>
  have HW := hid (show whE C1 S1 C2 S2 b N Ev = 4 by rw [HWE.out, if_neg hlen])
  repeat' (first
   | ((with_reducible refine gs9 31 ?_); refine wpl_call (f := 53) Tryd.call53 kr9 ?_; refine ⟨_, (spans_any _ N Ev (by omega) (by omega)), ?_⟩; rintro e w ⟨a3, c3, m3, hm3, rfl, hS2⟩; obtain rfl : M = m3 := (by rw [← hm3]; exact HM.out.symm); clear hm3; replace hS := hS.ext hS2.1; clear hS2; refine ⟨_, rfl, ?_⟩; refine put_move ?_; go_step) | (refine y91 ?_) | (refine y9102 ?_) | (refine y998 ?_) | (refine y992 ?_) | ((fail_if_success with_reducible refine ga9 ?_); go_step))
  all_goals (try (have hF : False := (by omega); cases hF))
  refine ret_all (xs := [_, _]) rfl (.cons (OneRes.tmp rfl) (.cons (OneRes.tmp rfl) (.nil))) (by simp) rfl ?_
  exact wh_no 4 HW.out (by decide) hS.1
 subst hlen
 have HW2 := hid (show whE C1 S1 C2 S2 b N Ev = if mkOk ms lm0 then 0 else 6 by rw [HWE.out, if_pos rfl])
 repeat' (first
  | ((with_reducible refine gs9 31 ?_); refine wpl_call (f := 53) Tryd.call53 kr9 ?_; refine ⟨_, (spans_any _ N Ev (by omega) (by omega)), ?_⟩; rintro e w ⟨a3, c3, m3, hm3, rfl, hS2⟩; obtain rfl : lp = m3 := (by rw [← hm3]; exact HM.out.symm); clear hm3; replace hS := hS.ext hS2.1; clear hS2; refine ⟨_, rfl, ?_⟩; refine put_move ?_; go_step) | (refine y9146 ?_) | (refine y9102 ?_) | (refine y998 ?_) | (refine y992 ?_) | ((fail_if_success with_reducible refine ga9 ?_); go_step))
 all_goals (try (have hF : False := (by omega); cases hF))
 repeat' (first
  | (refine y9146 ?_) | (refine y9100 ?_) | ((fail_if_success with_reducible refine ga9 ?_); go_step))
 clear HWE
 have hlmb : lm0 ≤ 1000000000 := by
  have := spf_marks b [] [] [] ps ms HSP.out
  have hbl : b.length = nb := by have := hv.1; simpa using this
  rw [HLM.out, hbl] at this
  simp at this
  omega
 go_loopg [36] lm0 (fun gk kv w => ∃ k : Nat, gk + k = lm0 ∧ kv = .int .i64 k ∧ Hid (mkOk ms k = true) ∧ St w0 w [own 34 1 ao lp co (pcs.map Pc.val), own 3 1 am lm0 cm (ms.map (Value.int .i64)), star (pcs.map Pc.res)])
 case atStart => exact ⟨0, rfl, rfl, hid rfl, hS.sub sb9⟩
 case round =>
  clear hS
  obtain ⟨k, hk, rfl, HA, hS⟩ := hrel
  by_cases hlt : k < lm0
  · obtain ⟨g5, rfl⟩ := own_some (a := am) hS pl9 (by omega)
    by_cases hq : nth ms k = ((208 + k % 8 : Nat) : Int)
    · have HA2 := hid (show mkOk ms (k + 1) = true by rw [mkOk_succ, HA.out, decide_eq_true hq]; rfl)
      repeat' (first
       | ((with_reducible refine gs9 43 ?_); refine wpl_call (f := 54) Tryd.call54 kr9 ?_; refine ⟨_, (mark_any _ k (by omega)), ?_⟩; rintro e w ⟨rfl, hE2⟩; replace hS := hS.ext hE2; clear hE2; refine ⟨_, rfl, ?_⟩; refine put_move ?_; go_step) | (refine y91 ?_) | (refine y990 ?_) | (refine y960 ?_) | (refine y992 ?_) | (refine y9123 ?_) | ((fail_if_success with_reducible refine ga9 ?_); go_step))
      all_goals (try (have hF : False := (by omega); cases hF))
      repeat' (first
       | (refine y9146 ?_) | (refine y985 ?_) | ((fail_if_success with_reducible refine ga9 ?_); go_step))
      go_roundg (gk - 1)
      case measure => omega
      case rel => exact ⟨k + 1, by omega, by go_num, HA2, hS.sub sb9⟩
    · have HW := hid (show whE C1 S1 C2 S2 b N Ev = 6 by rw [HW2.out, mkOk_not hlt hq]; rfl)
      repeat' (first
       | ((with_reducible refine gs9 43 ?_); refine wpl_call (f := 54) Tryd.call54 kr9 ?_; refine ⟨_, (mark_any _ k (by omega)), ?_⟩; rintro e w ⟨rfl, hE2⟩; replace hS := hS.ext hE2; clear hE2; refine ⟨_, rfl, ?_⟩; refine put_move ?_; go_step) | (refine y91 ?_) | (refine y990 ?_) | (refine y960 ?_) | (refine y992 ?_) | (refine y9123 ?_) | ((fail_if_success with_reducible refine ga9 ?_); go_step))
      all_goals (try (have hF : False := (by omega); cases hF))
      refine ret_all (xs := [_, _]) rfl (.cons (OneRes.tmp rfl) (.cons (OneRes.tmp rfl) (.nil))) (by simp) rfl ?_
      exact wh_no 6 HW.out (by decide) hS.1
  · obtain rfl : k = lm0 := by omega
    have HW := hid (show whE C1 S1 C2 S2 b N Ev = 0 by rw [HW2.out, if_pos HA.out])
    repeat' (first
     | (refine y91 ?_) | (refine y990 ?_) | ((fail_if_success with_reducible refine ga9 ?_); go_step))
    repeat' (first
     | ((fail_if_success with_reducible refine ga9 ?_); go_step))
    refine ret_all (xs := [_, _]) rfl (.cons (OneRes.tmp rfl) (.cons (OneRes.tmp rfl) (.nil))) (by simp) rfl ?_
    exact ⟨fun h => absurd HW.out h, fun _ => ⟨pcs, ms, ao, co, by rw [HPC.out]; exact HSP.out, by have := congrArg List.length HPC.out; rw [List.length_map, HLP.out] at this; exact this, rfl, hS.sub sb9⟩⟩

set_option maxRecDepth 100000
set_option linter.unusedVariables false
theorem spnA_len (n every : Nat) (h : 0 < every) : ∀ f at_, (spnA n every f at_).length ≤ n - at_
 | 0, _ => by simp [spnA]
 | f + 1, at_ => by
  unfold spnA
  by_cases h0 : at_ < n
  · rw [if_pos h0, List.length_cons]
    have := spnA_len n every h f (at_ + every)
    omega
  · rw [if_neg h0]; simp
theorem spn_len (n every : Nat) : (spn n every).length ≤ n + 1 := by
 unfold spn
 by_cases h : every = 0 ∨ n = 0
 · rw [if_pos h]; simp
 · rw [if_neg h]
   have := spnA_len n every (by omega) n 0
   omega
theorem spnA_in (n every : Nat) : ∀ f at_, ∀ x ∈ spnA n every f at_, x.1 ≤ x.2 ∧ x.2 ≤ n
 | 0, _, x, hx => by simp [spnA] at hx
 | f + 1, at_, x, hx => by
  unfold spnA at hx
  by_cases h0 : at_ < n
  · rw [if_pos h0] at hx
    rcases List.mem_cons.1 hx with rfl | hx
    · dsimp only; omega
    · exact spnA_in n every f _ x hx
  · rw [if_neg h0] at hx; cases hx
theorem spn_in (n every : Nat) : ∀ x ∈ spn n every, x.1 ≤ x.2 ∧ x.2 ≤ n := by
 intro x hx
 unfold spn at hx
 by_cases h : every = 0 ∨ n = 0
 · rw [if_pos h] at hx; simp at hx; subst hx; dsimp only; omega
 · rw [if_neg h] at hx; exact spnA_in n every n 0 x hx
theorem spf_in : ∀ (k : Nat) (b : List Int) (o : List (List Int)) (m p : List Int) (ps : List (List Int)) (ms : List Int), b.length ≤ k → spf b o m p = some (ps, ms) → (∀ x ∈ b, 0 ≤ x ∧ x < 256) → (∀ q ∈ o, ∀ x ∈ q, 0 ≤ x ∧ x < 256) → (∀ x ∈ p, 0 ≤ x ∧ x < 256) → ∀ L : Nat, p.length + b.length ≤ L → (∀ q ∈ o, q.length ≤ L) → ∀ q ∈ ps, (∀ x ∈ q, 0 ≤ x ∧ x < 256) ∧ q.length ≤ L
 | _, [], o, m, p, ps, ms, _, h, hb, ho, hp, L, hl, hol, q, hq => by
  rw [spf] at h
  have e := congrArg Prod.fst (Option.some.inj h)
  dsimp only at e
  subst e
  rcases List.mem_append.1 hq with hq | hq
  · exact ⟨ho q hq, hol q hq⟩
  · rw [List.mem_singleton.1 hq]; exact ⟨hp, by simpa using hl⟩
 | 0, x :: b, o, m, p, ps, ms, hk, h, hb, ho, hp, L, hl, hol, q, hq => by simp at hk
 | k + 1, x :: b, o, m, p, ps, ms, hk, h, hb, ho, hp, L, hl, hol, q, hq => by
  have hx := hb x (by simp)
  simp only [List.length_cons] at hk hl
  rw [spf.eq_def] at h
  dsimp only at h
  by_cases h255 : x = 255
  · rw [if_pos h255] at h
    match b, h, hb, hk, hl with
    | [], h, _, _, _ => cases h
    | y :: b, h, hb, hk, hl =>
     dsimp only at h
     simp only [List.length_cons] at hk hl
     by_cases h1 : y = 255
     · rw [if_pos h1] at h; cases h
     rw [if_neg h1] at h
     by_cases h0 : y = 0
     · rw [if_pos h0] at h
       refine spf_in k b o m _ ps ms (by omega) h (fun z hz => hb z (by simp [hz])) ho (fun z hz => ?_) L (by simp; omega) hol q hq
       rcases List.mem_append.1 hz with hz | hz
       · exact hp z hz
       · simp at hz; rcases hz with rfl | rfl <;> omega
     · rw [if_neg h0] at h
       refine spf_in k b _ _ _ ps ms (by omega) h (fun z hz => hb z (by simp [hz])) (fun r hr => ?_) (fun z hz => by cases hz) L (by simp; omega) (fun r hr => ?_) q hq
       · rcases List.mem_append.1 hr with hr | hr
         · exact ho r hr
         · rw [List.mem_singleton.1 hr]; exact hp
       · rcases List.mem_append.1 hr with hr | hr
         · exact hol r hr
         · rw [List.mem_singleton.1 hr]; omega
  · rw [if_neg h255] at h
    refine spf_in k b o m _ ps ms (by omega) h (fun z hz => hb z (by simp [hz])) ho (fun z hz => ?_) L (by simp; omega) hol q hq
    rcases List.mem_append.1 hz with hz | hz
    · exact hp z hz
    · rw [List.mem_singleton.1 hz]; exact hx
theorem segD_len {C1 S1 C2 S2 b : List Int} {z : Int} (h : (segD C1 S1 C2 S2 b z).1 = 0) : ∃ n : Nat, z = (n : Int) ∧ n ≤ 400 ∧ (segD C1 S1 C2 S2 b z).2.length = n * 64 := by
 obtain ⟨n, h1, h2, h3, _⟩ := segD_again h
 exact ⟨n, h1, h2, h3⟩
noncomputable def sdl (C1 S1 C2 S2 : List Int) : List (Nat × Nat) → List (List Int) → Int × List Int
 | [], _ => (0, [])
 | x :: L, ps => if (segD C1 S1 C2 S2 (ps.headD []) ((x.2 - x.1 : Nat) : Int)).1 ≠ 0 then ((segD C1 S1 C2 S2 (ps.headD []) ((x.2 - x.1 : Nat) : Int)).1, []) else
  ((sdl C1 S1 C2 S2 L ps.tail).1, (segD C1 S1 C2 S2 (ps.headD []) ((x.2 - x.1 : Nat) : Int)).2 ++ (sdl C1 S1 C2 S2 L ps.tail).2)
noncomputable def scD (C1 S1 C2 S2 b : List Int) (n every : Int) : Int × List Int := if whE C1 S1 C2 S2 b n every = 0 then match spf b [] [] [] with
 | none => (4, [])
 | some y => if (sdl C1 S1 C2 S2 (spn n.toNat every.toNat) y.1).1 = 0 then sdl C1 S1 C2 S2 (spn n.toNat every.toNat) y.1 else ((sdl C1 S1 C2 S2 (spn n.toNat every.toNat) y.1).1, [])
 else (whE C1 S1 C2 S2 b n every, [])
theorem pcs_nil {W w : World} {pcs : List Pc} {rs rs' : List Res} (h : St W w rs) (p : Pull (star (pcs.map Pc.res)) rs rs') {x : Pc} (hx : x ∈ pcs) : x.ad = none → x.c = 0 := by
 obtain ⟨s, hs⟩ := h.starGet p (List.mem_map.2 ⟨x, hx, rfl⟩)
 exact own_nil hs (show Pull (own 5 1 x.ad x.xs.length x.c (x.xs.map (Value.int .u8))) (Pc.res x :: s) s from .head)
theorem whE_zero {C1 S1 C2 S2 b : List Int} {n every : Int} (h : whE C1 S1 C2 S2 b n every = 0) : okNE n every := by
 unfold whE at h
 by_cases h1 : pcE C1 S1 C2 S2 b n every = 0
 · exact (pcE_zero h1).1
 · rw [if_neg h1] at h; exact absurd h h1
set_option maxHeartbeats 8000000 in
theorem scanDecode_any (w0 : World) (C1 C2 S1 S2 : List Int) (a1 a2 : Option Addr) (n1 n2 k1 k2 : Nat) (hC1 : Len C1 16) (hC2 : Len C2 16) (hs1 : Sl w0 1 (.slice a1 n1 k1) n1 (S1.map (Value.int .i64))) (hs2 : Sl w0 1 (.slice a2 n2 k2) n2 (S2.map (Value.int .i64))) (hn1 : n1 ≤ 9223372036854775807) (hn2 : n2 ≤ 9223372036854775807) (ad : Option Addr) (nb c : Nat) (b : List Int) (n every : Int)
 (hb : nb ≤ 1000000000) (hv : Sl w0 1 (.slice ad nb c) nb (b.map (Value.int .u8))) (hx : ∀ x ∈ b, 0 ≤ x ∧ x < 256) (hml : ∃ m, w0.cell? ⟨0, 0, none⟩ = some (.int .i64 m)) :
 Calls Tryd.prog 30 #[.agg (pcells [.ints C1, .val (.slice a1 n1 k1), .ints C2, .val (.slice a2 n2 k2)]).toArray, .slice ad nb c, .int .i64 n, .int .i64 every] w0 (SegDec w0 (scD C1 S1 C2 S2 b n every).1 (scD C1 S1 C2 S2 b n every).2) := by
 have hS := St.start w0
 have HX := hid hx
 have HML := hid hml
 have hbl : b.length = nb := by have := hv.1; simpa using this
 clear hx hml
 by_cases hW : whE C1 S1 C2 S2 b n every = 0
 case neg =>
  obtain ⟨E, hE⟩ : ∃ E, whE C1 S1 C2 S2 b n every = E := ⟨_, rfl⟩
  have h0 : E ≠ 0 := by rw [← hE]; exact hW
  have HE := hid hE
  have HW := hid (show scD C1 S1 C2 S2 b n every = (E, []) by unfold scD; rw [if_neg hW, hE])
  clear hW hE
  go_enter Tryd.func30, Tryd.ntmps30
  repeat' (first
   | ((with_reducible refine gs9 22 ?_); refine wpl_call (f := 55) Tryd.call55 kr9 ?_; refine ⟨_, (whole_any _ C1 C2 S1 S2 a1 a2 n1 n2 k1 k2 hC1 hC2 (hs1.ext hS.1) (hs2.ext hS.1) hn1 hn2 ad nb c b n every hb (hv.ext hS.1) HX.out), ?_⟩; rintro e w ⟨hq, _⟩; rw [HE.out] at hq; obtain ⟨rfl, hE2⟩ := hq h0; clear hq; replace hS := hS.ext hE2; clear hE2; refine ⟨_, rfl, ?_⟩; refine put_move ?_; go_step) | (refine y91 ?_) | (refine y9105 ?_) | (refine y991 ?_) | ((with_reducible refine gs9 4 ?_); (refine wl9 ?_; apply wp_boxP (o := ⟨some 4, _, _, _, _, _⟩) hS 33 _ rfl _ rfl; clear hS; intro g4 w hS; refine put_move ?_; go_step)) | (refine y9127 ?_) | ((fail_if_success with_reducible refine ga9 ?_); go_step))
  all_goals (try (have hF : False := (by omega); cases hF))
  refine ret_all (xs := [_, _]) rfl (.cons (OneRes.tmp rfl) (.cons (OneRes.tmp rfl) (.nil))) (by simp) rfl ?_
  exact dec_err E (by rw [HW.out]) (by rw [HW.out]) hS.1
 have hok := whE_zero hW
 unfold okNE at hok
 obtain ⟨N, rfl⟩ : ∃ N : Nat, n = (N : Int) := ⟨n.toNat, by omega⟩
 obtain ⟨Ev, rfl⟩ : ∃ N : Nat, every = (N : Int) := ⟨every.toNat, by omega⟩
 have HW := hid hW
 obtain ⟨M, hM⟩ : ∃ M, (spn N Ev).length = M := ⟨_, rfl⟩
 have hM4 : M ≤ 401 := by rw [← hM]; have := spn_len N Ev; omega
 have HM := hid hM
 clear hW hM
 go_enter Tryd.func30, Tryd.ntmps30
 repeat' (first
  | ((with_reducible refine gs9 22 ?_); refine wpl_call (f := 55) Tryd.call55 kr9 ?_; refine ⟨_, (whole_any _ C1 C2 S1 S2 a1 a2 n1 n2 k1 k2 hC1 hC2 (hs1.ext hS.1) (hs2.ext hS.1) hn1 hn2 ad nb c b (N : Int) (Ev : Int) hb (hv.ext hS.1) HX.out), ?_⟩; rintro e w ⟨_, hq⟩; rw [Int.toNat_natCast, Int.toNat_natCast, HM.out] at hq; obtain ⟨pcs, ms, ao, co, hsp, hpl, rfl, hS2⟩ := hq HW.out; clear hq; have HSP := hid hsp; have HPL := hid hpl; clear hsp hpl; replace hS := hS.call hS2; dsimp only [List.cons_append, List.nil_append] at hS; clear hS2; refine ⟨_, rfl, ?_⟩; refine put_move ?_; go_step) | (refine y91 ?_) | (refine y9105 ?_) | (refine y991 ?_) | ((with_reducible refine gs9 4 ?_); (refine wl9 ?_; apply wp_boxP (o := ⟨some 4, _, _, _, _, _⟩) hS 33 _ rfl _ rfl; clear hS; intro g4 w hS; refine put_move ?_; go_step)) | (refine y9127 ?_) | ((fail_if_success with_reducible refine ga9 ?_); go_step))
 all_goals (try (have hF : False := (by omega); cases hF))
 have hin := spf_in b.length b [] [] [] _ ms (Nat.le_refl _) HSP.out HX.out (fun q hq => (by cases hq)) (fun x hx => (by cases hx)) nb (by simp; omega) (fun q hq => (by cases hq))
 have HIN := hid hin
 obtain ⟨D, hD⟩ : ∃ D, sdl C1 S1 C2 S2 (spn N Ev) (pcs.map (·.xs)) = D := ⟨_, rfl⟩
 have HSC := hid (show scD C1 S1 C2 S2 b N Ev = if D.1 = 0 then D else (D.1, []) by
  unfold scD; rw [if_pos HW.out, HSP.out]; dsimp only; rw [Int.toNat_natCast, Int.toNat_natCast, hD])
 have HD := hid hD
 clear hin hD hbl
 repeat' (first
  | ((with_reducible refine gs9 30 ?_); refine wpl_call (f := 53) Tryd.call53 kr9 ?_; refine ⟨_, (spans_any _ N Ev (by omega) (by omega)), ?_⟩; rintro e w ⟨a3, c3, m3, hm3, rfl, hS2⟩; obtain rfl : M = m3 := (by rw [← hm3]; exact HM.out.symm); clear hm3; replace hS := hS.call1 hS2; clear hS2; refine ⟨_, rfl, ?_⟩; refine put_move ?_; go_step) | (refine y9146 ?_) | (refine y998 ?_) | ((fail_if_success with_reducible refine ga9 ?_); go_step))
 replace hS := hS.nilk 52 64 .i64
 go_loopg [12, 32] M (fun gk ov kv w => ∃ (k q : Nat) (acc : List Int) (ao2 : Option Addr) (co2 : Nat), gk + k = M ∧ kv = .int .i64 k ∧ ov = .slice ao2 q co2 ∧ q ≤ 400 * k ∧ Hid (acc.length = q * 64) ∧ Veil5 (D = ((sdl C1 S1 C2 S2 ((spn N Ev).drop k) ((pcs.map (·.xs)).drop k)).1, acc ++ (sdl C1 S1 C2 S2 ((spn N Ev).drop k) ((pcs.map (·.xs)).drop k)).2)) ∧ St w0 w [own 52 64 ao2 q co2 (acc.map (Value.int .i64)), prt g4 [.ints C1, .val (.slice a1 n1 k1), .ints C2, .val (.slice a2 n2 k2)], own 34 1 ao M co (pcs.map Pc.val), star (pcs.map Pc.res), own 111 2 a3 M c3 ((sfl (spn N Ev)).map (Value.int .i64))])
 case atStart => exact ⟨0, 0, [], none, 0, by omega, rfl, rfl, by omega, hid rfl, ⟨by rw [← HD.out]; rfl⟩, hS.sub sb9⟩
 case round =>
  clear hS
  obtain ⟨k, q, acc, ao2, co2, hk, rfl, rfl, hq4, HQ, HV, hS⟩ := hrel
  by_cases hlt : k < M
  · obtain ⟨⟨f, t⟩, hx⟩ : ∃ x, (spn N Ev)[k]? = some x := ⟨_, List.getElem?_eq_getElem (by rw [HM.out]; exact hlt)⟩
    obtain ⟨⟨pa, pcc, px⟩, hpx⟩ : ∃ x, pcs[k]? = some x := ⟨_, List.getElem?_eq_getElem (by rw [HPL.out]; exact hlt)⟩
    have hft := spn_in N Ev _ (List.mem_of_getElem? hx)
    dsimp only at hft
    have hmem : (⟨pa, pcc, px⟩ : Pc) ∈ pcs := List.mem_of_getElem? hpx
    have hpin := HIN.out px (List.mem_map.2 ⟨_, hmem, rfl⟩)
    have hpl : px.length ≤ nb := hpin.2
    have HPR := hid hpin.1
    have hseg := sfl_get (spn N Ev) k _ hx
    dsimp only at hseg
    have hpv : (pcs.map Pc.val)[k]? = some (.slice pa px.length pcc) := by rw [List.getElem?_map, hpx]; rfl
    have hd1 : (spn N Ev).drop k = (f, t) :: (spn N Ev).drop (k + 1) := by
     rw [List.drop_eq_getElem_cons (by rw [HM.out]; exact hlt)]
     rw [List.getElem?_eq_getElem (by rw [HM.out]; exact hlt)] at hx
     rw [Option.some.inj hx]
    have hd2 : (pcs.map (·.xs)).drop k = px :: (pcs.map (·.xs)).drop (k + 1) := by
     rw [List.drop_eq_getElem_cons (by rw [List.length_map, HPL.out]; exact hlt)]
     rw [List.getElem?_eq_getElem (by rw [HPL.out]; exact hlt)] at hpx
     rw [List.getElem_map, Option.some.inj hpx]
    obtain ⟨⟨E, B⟩, hR⟩ : ∃ R, segD C1 S1 C2 S2 px ((t - f : Nat) : Int) = R := ⟨_, rfl⟩
    have hstep : Veil5 (sdl C1 S1 C2 S2 ((spn N Ev).drop k) ((pcs.map (·.xs)).drop k) = if E ≠ 0 then (E, []) else ((sdl C1 S1 C2 S2 ((spn N Ev).drop (k + 1)) ((pcs.map (·.xs)).drop (k + 1))).1, B ++ (sdl C1 S1 C2 S2 ((spn N Ev).drop (k + 1)) ((pcs.map (·.xs)).drop (k + 1))).2)) := ⟨by rw [hd1, hd2, sdl]; simp only [List.headD_cons, List.tail_cons, hR]⟩
    have HBL : Veil5 (E = 0 → B.length = (t - f) * 64) := ⟨fun h => by
     obtain ⟨n', e1, e2, e3⟩ := segD_len (C1 := C1) (S1 := S1) (C2 := C2) (S2 := S2) (b := px) (z := ((t - f : Nat) : Int)) (by rw [hR]; exact h)
     rw [hR] at e3
     have : n' = t - f := by omega
     rw [← this]; exact e3⟩
    have HR := hid hR
    have HMEM := hid hmem
    obtain ⟨g3, rfl⟩ := own_some (a := a3) hS pl9 (by omega)
    obtain ⟨g1, rfl⟩ := own_some (a := ao) hS pl9 (by omega)
    clear hx hpx hpin hd1 hd2 hR hmem
    repeat' (first
     | (refine y91 ?_) | (refine y990 ?_) | ((with_reducible refine gs9 35 ?_); (refine wvv9 (V.indexSl Tryd.underlying108 isz111 rfl rfl isn9 (by omega) rfl nq9) ?_; go_step)) | (refine y9114 ?_) | ((with_reducible refine gs9 14 ?_); (refine wl9 ?_; apply wp_alloc (o := ⟨some 14, _, _, _, _, _⟩) hS 111 rfl (.agg #[.int .i64 0, .int .i64 0]) [.int .i64 0, .int .i64 0] (fun w => Tryd.zeroValue111 w) rfl; clear hS; intro g14 w hS; refine put_move ?_; go_step)) | ((with_reducible refine gt9 _ (.store 111 _ _) ?_); (refine wl9 ?_; apply wp_storeG hS 111 _ _ rfl _ rfl 2 (row_of rfl) _ _; (case hp => exact pl9); (case hy => rfl); (case hn => rfl); (case hn' => rfl); (case hv => rfl); (case hd => exact rfl); clear hS; intro w hS)) | ((fail_if_success with_reducible refine ga9 ?_); go_step))
    all_goals (try (have hF : False := (by omega); cases hF))
    replace hS : St w0 w [blk g14 [.int .i64 (f : Nat), .int .i64 (t : Nat)], own 52 64 ao2 q co2 (acc.map (Value.int .i64)), prt g4 [.ints C1, .val (.slice a1 n1 k1), .ints C2, .val (.slice a2 n2 k2)], own 34 1 (some ⟨g1, 0, none⟩) M co (pcs.map Pc.val), star (pcs.map Pc.res), own 111 2 (some ⟨g3, 0, none⟩) M c3 ((sfl (spn N Ev)).map (Value.int .i64))] := hS
    refine drawn_lit [10] (fun w => St w0 w [prt g4 [.ints C1, .val (.slice a1 n1 k1), .ints C2, .val (.slice a2 n2 k2)], own 34 1 (some ⟨g1, 0, none⟩) M co (pcs.map Pc.val), blk g14 [.int .i64 (f : Nat), .int .i64 (t : Nat)]]) kr9 ?_
    replace hS := hS.drew
    focus
     apply takeS 0 al9 kr9 kr9 kr9 hq9 [10, 11, 12, 13, 14, 15] kr9 (hS.sub sb9)
     case hfr => intro w hS; ((refine wl9 ?_; apply wp_loadPP hS 33 _ rfl _ _ rfl 34 (row_of rfl) _; (case hp => exact pl9); (case hi => (repeat (first | (apply AtP.head; (repeat (first | exact Pre.nil | (apply Pre.ints; (case hn => (first | (with_reducible assumption) | exact Len.rep | exact Len.set (by with_reducible assumption) | exact Len.set Len.rep | exact Len.set (Len.set Len.rep))); (case h => omega); (case hm => rfl)) | apply Pre.val))) | (apply AtP.skipI; (case hn => (first | (with_reducible assumption) | exact Len.rep | exact Len.set (by with_reducible assumption) | exact Len.set Len.rep | exact Len.set (Len.set Len.rep))); (case h => omega); (case ho => rfl)) | apply AtP.skipV))); refine put_move ?_; go_step)); refine wpList_nil ?_; exact ⟨rfl, rfl⟩
     case hd => rfl
     refine takeM 1 _ al9 kr9 kr9 kr9 hq9 rfl ?_
     go_step
     refine takeM 2 _ al9 kr9 kr9 kr9 hq9 rfl ?_
     go_step
     (refine takeV 3 _ al9 kr9 kr9 kr9 hq9 (V.indexSl Tryd.underlying37 isz34 rfl rfl isn9 (by omega) (Nat.mul_one _) nq9) rfl ?_)
     go_step
     apply takeS 4 al9 kr9 kr9 kr9 hq9 [10, 11, 12, 13, 14, 15] kr9 (hS.sub sb9)
     case hfr => intro w hS; ((refine wl9 ?_; apply wp_load1O hS 34 _ rfl _ _ rfl (one_of rfl) _ _ _ _ _; (case hp => exact pl9); (case hv => with_reducible assumption); refine put_move ?_; go_step)); refine wpList_nil ?_; exact ⟨rfl, rfl⟩
     case hd => rfl
     (refine takeV 5 _ al9 kr9 kr9 kr9 hq9 (V.fieldAddr fo111_1 rfl nq9) rfl ?_)
     go_step
     apply takeS 6 al9 kr9 kr9 kr9 hq9 [9, 10, 11, 12, 13, 14, 15] kr9 (hS.sub sb9)
     case hfr => intro w hS; ((refine wl9 ?_; apply wp_load1 hS 3 _ rfl _ _ rfl (one_of rfl) _; (case hp => exact pl9); (case hc => rfl); refine put_move ?_; go_step)); refine wpList_nil ?_; exact ⟨rfl, rfl⟩
     case hd => rfl
     (refine takeV 7 _ al9 kr9 kr9 kr9 hq9 (V.fieldAddr fo111_0 rfl nq9) rfl ?_)
     go_step
     apply takeS 8 al9 kr9 kr9 kr9 hq9 [9, 10, 11, 12, 13, 14, 15] kr9 (hS.sub sb9)
     case hfr => intro w hS; ((refine wl9 ?_; apply wp_load1 hS 3 _ rfl _ _ rfl (one_of rfl) _; (case hp => exact pl9); (case hc => rfl); refine put_move ?_; go_step)); refine wpList_nil ?_; exact ⟨rfl, rfl⟩
     case hd => rfl
     (refine takeV 9 (.int _ (((t - f : Nat) : Int))) al9 kr9 kr9 kr9 hq9 (V.as (V.subI rfl rfl (by omega)) (by omega)) rfl ?_)
     go_step
     refine branch1 10 al9 rfl kr9 ?_
     refine wp_callF (f := 24) rfl Tryd.call24 (segDecode_any _ C1 C2 S1 S2 a1 a2 n1 n2 k1 k2 hC1 hC2 (hs1.ext hS.1) (hs2.ext hS.1) hn1 hn2 pa px.length pcc px _ (by omega) (pcs_get hS pl9 HMEM.out) (pcs_nil hS pl9 HMEM.out) HPR.out (HML.out.imp fun m h => hS.1.cell h) _ HR.out) ?_; rintro e w ⟨al, cl, ml, hml, rfl, hS2⟩; have HMM := hid hml; dsimp only at hS2 ⊢; replace hS := hS.call1 hS2; clear hS2 hml; refine ⟨_, rfl, ?_⟩
     refine ⟨fun h => absurd (by decide) h, ?_⟩
     refine drawn_move ?_
     go_step
     refine takeM 11 _ al9 kr9 kr9 kr9 hq9 rfl ?_
     go_step
     (refine takeV 12 _ al9 kr9 kr9 kr9 hq9 (V.extract rfl rfl) rfl ?_)
     go_step
     (refine takeV 13 _ al9 kr9 kr9 kr9 hq9 (V.extract rfl rfl) rfl ?_)
     go_step
     refine takeA 14 _ al9 kr9 kr9 kr9 hq9 rfl ?_
     go_step
     refine takeA 15 _ al9 kr9 kr9 kr9 hq9 rfl ?_
     go_step
     refine drawn_done kr9 ?_ _
    all_goals
     repeat' ((fail_if_success with_reducible refine ga9 ?_); go_step)
     by_cases hE0 : E = 0
     case neg =>
      have hD1 : Veil5 (D = (E, acc)) := ⟨by rw [HV.out, hstep.out, if_pos hE0]; simp⟩
      have HS1 := hid (show scD C1 S1 C2 S2 b N Ev = (E, []) by rw [HSC.out, hD1.out, if_neg hE0])
      clear HV hstep HBL hD1
      repeat' (first
       | (refine y91 ?_) | (refine y991 ?_) | ((fail_if_success with_reducible refine ga9 ?_); go_step))
      all_goals (try (have hF : False := (by omega); cases hF))
      refine ret_all (xs := [_, _]) rfl (.cons (OneRes.tmp rfl) (.cons (OneRes.tmp rfl) (.nil))) (by simp) rfl ?_
      exact dec_err E (by rw [HS1.out]) (by rw [HS1.out]) hS.1
     have hbl := HBL.out hE0
     have HV2 : Veil5 (D = ((sdl C1 S1 C2 S2 ((spn N Ev).drop (k + 1)) ((pcs.map (·.xs)).drop (k + 1))).1, (acc ++ B) ++ (sdl C1 S1 C2 S2 ((spn N Ev).drop (k + 1)) ((pcs.map (·.xs)).drop (k + 1))).2)) := ⟨by rw [HV.out, hstep.out, if_neg (by simpa using hE0), List.append_assoc]⟩
     have hml2 : ml = t - f := by have h9 : B.length = ml * 64 := HMM.out; omega
     clear HV hstep HBL
     subst hE0
     repeat' (first
      | (refine y9146 ?_) | (refine y991 ?_) | ((fail_if_success with_reducible refine ga9 ?_); go_step))
     all_goals (try (have hF : False := (by omega); cases hF))
     repeat' (first
      | (refine y91 ?_) | (refine y985 ?_) | ((with_reducible refine gs9 56 ?_); (refine wl9 ?_; apply wp_append (o := ⟨some 56, _, _, _, _, _⟩) hS _ _ 22 rfl 52 64 512 el22 _ _ _ _ rfl; (case hp => exact pl9); (case hx => exact rfl); (case hm => (first | exact hS.slBlk pl9 (by rfl) (by decide) | exact hS.sl pl9 | with_reducible assumption | exact Sl.ext (by with_reducible assumption) hS.1 | exact Sl.nil _ _ | exact Sl.ext (by assumption) hS.1 | assumption)); (case h1 => (first | exact oneAll rfl | exact oneMap _ _ | (intro u hu; cases hu))); (case h63 => unfold maxLen; omega); (case hb => omega); clear hS; intro ad56 c56 w hS; (first | simp only [mapk1] at hS | simp only [mapk2] at hS | simp only [mapk3] at hS | simp only [mapk4] at hS | simp only [mapkl] at hS | skip); refine put_move ?_; go_step)) | ((fail_if_success with_reducible refine ga9 ?_); go_step))
     go_roundg (gk - 1)
     case measure => omega
     case rel => exact ⟨k + 1, q + ml, acc ++ B, _, _, by omega, by go_num, rfl, by omega, hid (by rw [List.length_append, HQ.out, HMM.out]; omega), HV2, hS.sub sb9⟩
  · obtain rfl : k = M := by omega
    have hD0 : Veil5 (D = (0, acc)) := ⟨by rw [HV.out, List.drop_of_length_le (by rw [HM.out]; omega), sdl, List.append_nil]⟩
    have HS1 := hid (show scD C1 S1 C2 S2 b N Ev = (0, acc) by rw [HSC.out, hD0.out, if_pos rfl])
    clear HV
    repeat' (first
     | (refine y91 ?_) | (refine y990 ?_) | ((fail_if_success with_reducible refine ga9 ?_); go_step))
    all_goals (try (have hF : False := (by omega); cases hF))
    repeat' (first
     | ((fail_if_success with_reducible refine ga9 ?_); go_step))
    refine ret_all (xs := [_, _]) rfl (.cons (OneRes.tmp rfl) (.cons (OneRes.tmp rfl) (.nil))) (by simp) rfl ?_
    exact ⟨ao2, co2, q, by rw [HS1.out]; exact HQ.out, by rw [HS1.out]; rfl, by rw [HS1.out]; exact hS.sub sb9⟩

set_option maxRecDepth 100000
set_option linter.unusedVariables false
section
variable {P : Program} {Q : Exit → Act → World → Prop} {a : Act} {W w : World} {c : Code}
theorem wp_join4 {F : Nat → Nat → Nat → Nat → Act} (rs : Nat → Nat → Nat → Nat → List Res) (h : c.wp P (fun e a w => e = .normal ∧ ∃ g g' g2 g3, a = F g g' g2 g3 ∧ St W w (rs g g' g2 g3)) a w) (k : ∀ g g' g2 g3 w, St W w (rs g g' g2 g3) → Q .normal (F g g' g2 g3) w) : c.wp P Q a w :=
 Code.wp_mono (fun e a w ⟨he, g, g', g2, g3, ha, hS⟩ => by subst he; subst ha; exact k g g' g2 g3 w hS) h
end
def cntR (g5 g6 g8 g9 : Nat) (s : List Int × List Int) : Res := star [blk g5 [.slice (some ⟨g8, 0, none⟩) 256 256], blk g6 [.slice (some ⟨g9, 0, none⟩) 256 256], own 3 1 (some ⟨g8, 0, none⟩) 256 256 ((cnt s.1).map (Value.int .i64)), own 3 1 (some ⟨g9, 0, none⟩) 256 256 ((cnt s.2).map (Value.int .i64))]
set_option maxHeartbeats 4000000 in
theorem cntClo_any (W w0 : World) (rs rs' : List Res) (g5 g6 g8 g9 : Nat) (A B : List Int) (t0 t1 t2 : Int) (b : Bool) (hS : St W w0 rs) (hp : Pull (cntR g5 g6 g8 g9 (A, B)) rs rs') (hb : A.length + B.length ≤ 1000000) (ht : 0 ≤ t0 ∧ t0 < 256) :
 Calls Tryd.prog 35 #[.agg #[.int .i64 t0, .int .i64 t1, .int .i64 t2], .bool b, .pointer (some ⟨g5, 0, none⟩), .pointer (some ⟨g6, 0, none⟩)] w0 fun e w => e = .returned (.int .i64 0) ∧ St W w (cntR g5 g6 g8 g9 (cntStep (A, B) (t0, t1, t2) b).2 :: rs') := by
 obtain ⟨_, hS⟩ := (hS.pull hp).open
 dsimp only [List.cons_append, List.nil_append] at hS
 obtain ⟨q, rfl⟩ : ∃ q : Nat, t0 = (q : Int) := ⟨t0.toNat, by omega⟩
 have hq : q < 256 := by omega
 have hA := cnt_bd A hq
 have hB := cnt_bd B hq
 have HCA := hid (cnt_snoc A hq)
 have HCB := hid (cnt_snoc B hq)
 clear hp
 cases b
 · have HR := hid (show (cntStep (A, B) ((q : Int), t1, t2) false).2 = (A, B ++ [(q : Int)]) from rfl)
   go_enter Tryd.func35, Tryd.ntmps35
   repeat' (first
    | (refine y91 ?_) | ((with_reducible refine gs9 4 ?_); (refine wl9 ?_; apply wp_boxG (o := ⟨some 4, _, _, _, _, _⟩) hS 69 _ rfl _ rfl; clear hS; intro g4 w hS; refine put_move ?_; go_step)) | ((fail_if_success with_reducible refine ga9 ?_); go_step))
   repeat' (first
    | (refine y92 ?_) | (refine y9110 ?_) | ((with_reducible refine gs9 18 ?_); (refine wvv9 (V.indexSl Tryd.underlying24 isz3 rfl rfl isn9 (by omega) (Nat.mul_one _) nq9) ?_; go_step)) | (refine y985 ?_) | (refine y944 ?_) | (refine y9117 ?_) | (refine y9125 ?_) | ((with_reducible refine gt9 _ (.store 3 _ _) ?_); (refine wl9 ?_; apply wp_store1OI hS 3 _ _ rfl _ _ rfl (one_of rfl) _ _ _ _ _; (case hp => exact pl9); (case hy => rfl); (case hi => omega); (case hd => exact rfl); clear hS; intro w hS)) | ((fail_if_success with_reducible refine ga9 ?_); go_step))
   go_ret
   rw [HR.out]
   refine ⟨rfl, St.close () ?_⟩
   dsimp only [List.cons_append, List.nil_append]
   rw [← HCB.out]
   exact hS.sub sb9
 · have HR := hid (show (cntStep (A, B) ((q : Int), t1, t2) true).2 = (A ++ [(q : Int)], B) from rfl)
   go_enter Tryd.func35, Tryd.ntmps35
   repeat' (first
    | (refine y91 ?_) | (refine y9110 ?_) | (refine y95 ?_) | (refine y985 ?_) | ((with_reducible refine gs9 14 ?_); (refine wvv9 (V.indexSl Tryd.underlying24 isz3 rfl rfl isn9 (by omega) (Nat.mul_one _) nq9) ?_; go_step)) | ((with_reducible refine gs9 4 ?_); (refine wl9 ?_; apply wp_boxG (o := ⟨some 4, _, _, _, _, _⟩) hS 69 _ rfl _ rfl; clear hS; intro g4 w hS; refine put_move ?_; go_step)) | (refine y9117 ?_) | (refine y9125 ?_) | ((with_reducible refine gt9 _ (.store 3 _ _) ?_); (refine wl9 ?_; apply wp_store1OI hS 3 _ _ rfl _ _ rfl (one_of rfl) _ _ _ _ _; (case hp => exact pl9); (case hy => rfl); (case hi => omega); (case hd => exact rfl); clear hS; intro w hS)) | ((fail_if_success with_reducible refine ga9 ?_); go_step))
   repeat' (first
    | ((fail_if_success with_reducible refine ga9 ?_); go_step))
   go_ret
   rw [HR.out]
   refine ⟨rfl, St.close () ?_⟩
   dsimp only [List.cons_append, List.nil_append]
   rw [← HCA.out]
   exact hS.sub sb9
def cntClo (W : World) (g5 g6 g8 g9 : Nat) : Clo W (List Int × List Int) where
 step := cntStep
 res := cntR g5 g6 g8 g9
 ok s m := s.1.length + s.2.length + m ≤ 1000000
 K := 35
 caps := #[.pointer (some ⟨g5, 0, none⟩), .pointer (some ⟨g6, 0, none⟩)]
 inv := Tryd.call35
 okS s m t b h _ _ := by
  cases b <;> simp [cntStep] <;> omega
 okM s m k h hk := by omega
 call w rs rs' s m t0 t1 t2 b er s' hS hp h ht hst := by
  obtain ⟨A, B⟩ := s
  have e1 : er = 0 := by have := congrArg Prod.fst hst; exact this.symm
  have e2 : s' = (cntStep (A, B) (t0, t1, t2) b).2 := by rw [hst]
  subst e1; subst e2
  exact cntClo_any W w rs rs' g5 g6 g8 g9 A B t0 t1 t2 b hS hp (by dsimp only at h; omega) ht.1
theorem cntEach (W w0 : World) (rs rs' : List Res) (g5 g6 g8 g9 : Nat) (ad : Option Addr) (n c : Nat) (l : List Int) (E : Int) (hE : blkE l n = E) (hn : n ≤ 9223372036854775807) (hv : Sl W 64 (.slice ad n c) n (l.map (Value.int .i64))) (hS : St W w0 rs) (hp : Pull (cntR g5 g6 g8 g9 ([], [])) rs rs') :
 Calls Tryd.prog 34 #[.slice ad n c, .func (.func 35) #[] #[.pointer (some ⟨g5, 0, none⟩), .pointer (some ⟨g6, 0, none⟩)]] w0 fun e w => e = .returned (.int .i64 E) ∧ ∃ s', (E = 0 → s' = (syF l n, syR l n)) ∧ St W w (cntR g5 g6 g8 g9 s' :: rs') := by
 refine (each_any (cntClo W g5 g6 g8 g9) w0 rs rs' ([], []) ad n c l hn hv hS hp (by show (0 + 0 + 25600 ≤ 1000000); omega)).mono ?_
 rintro e w ⟨s', hs', rfl, hS⟩
 have h2 : ech (cntClo W g5 g6 g8 g9).step (tfl l 0 n) ([], []) = (0, syF l n, syR l n) := cnt_tfl l n
 rw [h2] at hs' ⊢
 rw [hE] at hs' ⊢
 refine ⟨?_, s', hs', hS⟩
 by_cases h0 : E = 0
 · rw [if_pos h0, h0]
 · rw [if_neg h0]
def SegCounts (w0 : World) (l : List Int) (n : Nat) (e : Ending) (w : World) : Prop :=
 (blkE l n = 0 → ∃ g1 g2, e = .returned (.tuple #[.slice (some ⟨g1, 0, none⟩) 256 256, .slice (some ⟨g2, 0, none⟩) 256 256, .int .i64 0]) ∧ St w0 w [own 3 1 (some ⟨g1, 0, none⟩) 256 256 ((cnt (syF l n)).map (Value.int .i64)), own 3 1 (some ⟨g2, 0, none⟩) 256 256 ((cnt (syR l n)).map (Value.int .i64))]) ∧
 (blkE l n ≠ 0 → e = .returned (.tuple #[.slice none 0 0, .slice none 0 0, .int .i64 (blkE l n)]) ∧ Ext w0 w)
set_option maxHeartbeats 8000000 in
theorem segCounts_any (w0 : World) (ad : Option Addr) (n c : Nat) (l : List Int) (hn : n ≤ 9223372036854775807) (hv : Sl w0 64 (.slice ad n c) n (l.map (Value.int .i64))) :
 Calls Tryd.prog 16 #[.slice ad n c] w0 (SegCounts w0 l n) := by
 have hS := St.start w0
 obtain ⟨E, hE⟩ : ∃ E, blkE l n = E := ⟨_, rfl⟩
 have HE := hid hE
 clear hE
 go_enter Tryd.func16, Tryd.ntmps16
 repeat' (first
  | (refine y92 ?_) | ((fail_if_success with_reducible refine ga9 ?_); go_step))
 apply wp_join4 (rs := fun g5 g6 g8 g9 => [cntR g5 g6 g8 g9 ([], [])])
 · skip
   refine drawn_lit [] (fun _ => True) kr9 ?_
   replace hS := hS.drew
   focus
    refine branch [0, 1, 2, 3] kr9 (by simp) (.cons al9 rfl ?_ (.cons al9 rfl ?_ (.cons al9 rfl ?_ (.cons al9 rfl ?_ (.nil)))))
    rotate_left 3
    focus
     (refine wp_alloc (o := ⟨some 6, _, _, _, _, _⟩) hS 24 rfl (.slice none 0 0) [.slice none 0 0] (fun w => Tryd.zeroValue24 w) rfl ?_; clear hS; intro g6 w hS)
     refine ⟨fun _ h => h, ?_⟩
     refine drawn_move ?_
     go_step
     refine branch [0, 1, 2] kr9 (by simp) (.cons al9 rfl ?_ (.cons al9 rfl ?_ (.cons al9 rfl ?_ (.nil))))
     rotate_left 2
     focus
      (refine wp_alloc (o := ⟨some 5, _, _, _, _, _⟩) hS 24 rfl (.slice none 0 0) [.slice none 0 0] (fun w => Tryd.zeroValue24 w) rfl ?_; clear hS; intro g5 w hS)
      refine ⟨fun _ h => h, ?_⟩
      refine drawn_move ?_
      go_step
      refine branch [0, 1] kr9 (by simp) (.cons al9 rfl ?_ (.cons al9 rfl ?_ (.nil)))
      rotate_left 1
      focus
       (refine wp_make (o := ⟨some 9, _, _, _, _, _⟩) hS 24 _ _ rfl _ _ _ _ elz24 _ _ _ _ _ _ rfl rfl isn9 isn9 (by omega) (by omega) (by unfold maxLen; omega) ?_; clear hS; intro g9 w hS)
       refine ⟨fun _ h => h, ?_⟩
       refine drawn_move ?_
       go_step
       refine branch1 0 al9 rfl kr9 ?_
       (refine wp_make (o := ⟨some 8, _, _, _, _, _⟩) hS 24 _ _ rfl _ _ _ _ elz24 _ _ _ _ _ _ rfl rfl isn9 isn9 (by omega) (by omega) (by unfold maxLen; omega) ?_; clear hS; intro g8 w hS)
       refine ⟨fun _ h => h, ?_⟩
       refine drawn_move ?_
       go_step
       refine branch1 4 al9 rfl kr9 ?_
       (refine wp_store1 hS 24 _ _ rfl _ _ rfl (one_of rfl) _ _ pl9 _ isv9 (by rfl) (by (repeat (first | with_reducible exact SetAt.head | apply SetAt.tail))) rfl ?_; clear hS; intro w hS)
       refine ⟨fun _ h => h, ?_⟩
       refine branch1 5 al9 rfl kr9 ?_
       (refine wp_store1 hS 24 _ _ rfl _ _ rfl (one_of rfl) _ _ pl9 _ isv9 (by rfl) (by (repeat (first | with_reducible exact SetAt.head | apply SetAt.tail))) rfl ?_; clear hS; intro w hS)
       refine ⟨fun _ h => h, ?_⟩
       refine drawn_done kr9 ?_ _
       exact ⟨rfl, g5, g6, g8, g9, rfl, St.close () (by dsimp only [List.cons_append, List.nil_append]; rw [cnt_nil]; exact hS.sub sb9)⟩
      rotate_right 1
      focus
       (refine wp_make (o := ⟨some 8, _, _, _, _, _⟩) hS 24 _ _ rfl _ _ _ _ elz24 _ _ _ _ _ _ rfl rfl isn9 isn9 (by omega) (by omega) (by unfold maxLen; omega) ?_; clear hS; intro g8 w hS)
       refine ⟨fun _ h => h, ?_⟩
       refine drawn_move ?_
       go_step
       refine branch [1, 4] kr9 (by simp) (.cons al9 rfl ?_ (.cons al9 rfl ?_ (.nil)))
       rotate_left 1
       focus
        (refine wp_store1 hS 24 _ _ rfl _ _ rfl (one_of rfl) _ _ pl9 _ isv9 (by rfl) (by (repeat (first | with_reducible exact SetAt.head | apply SetAt.tail))) rfl ?_; clear hS; intro w hS)
        refine ⟨fun _ h => h, ?_⟩
        refine branch1 1 al9 rfl kr9 ?_
        (refine wp_make (o := ⟨some 9, _, _, _, _, _⟩) hS 24 _ _ rfl _ _ _ _ elz24 _ _ _ _ _ _ rfl rfl isn9 isn9 (by omega) (by omega) (by unfold maxLen; omega) ?_; clear hS; intro g9 w hS)
        refine ⟨fun _ h => h, ?_⟩
        refine drawn_move ?_
        go_step
        refine branch1 5 al9 rfl kr9 ?_
        (refine wp_store1 hS 24 _ _ rfl _ _ rfl (one_of rfl) _ _ pl9 _ isv9 (by rfl) (by (repeat (first | with_reducible exact SetAt.head | apply SetAt.tail))) rfl ?_; clear hS; intro w hS)
        refine ⟨fun _ h => h, ?_⟩
        refine drawn_done kr9 ?_ _
        exact ⟨rfl, g5, g6, g8, g9, rfl, St.close () (by dsimp only [List.cons_append, List.nil_append]; rw [cnt_nil]; exact hS.sub sb9)⟩
       rotate_right 1
       focus
        (refine wp_make (o := ⟨some 9, _, _, _, _, _⟩) hS 24 _ _ rfl _ _ _ _ elz24 _ _ _ _ _ _ rfl rfl isn9 isn9 (by omega) (by omega) (by unfold maxLen; omega) ?_; clear hS; intro g9 w hS)
        refine ⟨fun _ h => h, ?_⟩
        refine drawn_move ?_
        go_step
        refine branch1 4 al9 rfl kr9 ?_
        (refine wp_store1 hS 24 _ _ rfl _ _ rfl (one_of rfl) _ _ pl9 _ isv9 (by rfl) (by (repeat (first | with_reducible exact SetAt.head | apply SetAt.tail))) rfl ?_; clear hS; intro w hS)
        refine ⟨fun _ h => h, ?_⟩
        refine branch1 5 al9 rfl kr9 ?_
        (refine wp_store1 hS 24 _ _ rfl _ _ rfl (one_of rfl) _ _ pl9 _ isv9 (by rfl) (by (repeat (first | with_reducible exact SetAt.head | apply SetAt.tail))) rfl ?_; clear hS; intro w hS)
        refine ⟨fun _ h => h, ?_⟩
        refine drawn_done kr9 ?_ _
        exact ⟨rfl, g5, g6, g8, g9, rfl, St.close () (by dsimp only [List.cons_append, List.nil_append]; rw [cnt_nil]; exact hS.sub sb9)⟩
     rotate_right 1
     focus
      (refine wp_make (o := ⟨some 9, _, _, _, _, _⟩) hS 24 _ _ rfl _ _ _ _ elz24 _ _ _ _ _ _ rfl rfl isn9 isn9 (by omega) (by omega) (by unfold maxLen; omega) ?_; clear hS; intro g9 w hS)
      refine ⟨fun _ h => h, ?_⟩
      refine drawn_move ?_
      go_step
      refine branch [0, 2] kr9 (by simp) (.cons al9 rfl ?_ (.cons al9 rfl ?_ (.nil)))
      rotate_left 1
      focus
       (refine wp_alloc (o := ⟨some 5, _, _, _, _, _⟩) hS 24 rfl (.slice none 0 0) [.slice none 0 0] (fun w => Tryd.zeroValue24 w) rfl ?_; clear hS; intro g5 w hS)
       refine ⟨fun _ h => h, ?_⟩
       refine drawn_move ?_
       go_step
       refine branch1 0 al9 rfl kr9 ?_
       (refine wp_make (o := ⟨some 8, _, _, _, _, _⟩) hS 24 _ _ rfl _ _ _ _ elz24 _ _ _ _ _ _ rfl rfl isn9 isn9 (by omega) (by omega) (by unfold maxLen; omega) ?_; clear hS; intro g8 w hS)
       refine ⟨fun _ h => h, ?_⟩
       refine drawn_move ?_
       go_step
       refine branch1 4 al9 rfl kr9 ?_
       (refine wp_store1 hS 24 _ _ rfl _ _ rfl (one_of rfl) _ _ pl9 _ isv9 (by rfl) (by (repeat (first | with_reducible exact SetAt.head | apply SetAt.tail))) rfl ?_; clear hS; intro w hS)
       refine ⟨fun _ h => h, ?_⟩
       refine branch1 5 al9 rfl kr9 ?_
       (refine wp_store1 hS 24 _ _ rfl _ _ rfl (one_of rfl) _ _ pl9 _ isv9 (by rfl) (by (repeat (first | with_reducible exact SetAt.head | apply SetAt.tail))) rfl ?_; clear hS; intro w hS)
       refine ⟨fun _ h => h, ?_⟩
       refine drawn_done kr9 ?_ _
       exact ⟨rfl, g5, g6, g8, g9, rfl, St.close () (by dsimp only [List.cons_append, List.nil_append]; rw [cnt_nil]; exact hS.sub sb9)⟩
      rotate_right 1
      focus
       (refine wp_make (o := ⟨some 8, _, _, _, _, _⟩) hS 24 _ _ rfl _ _ _ _ elz24 _ _ _ _ _ _ rfl rfl isn9 isn9 (by omega) (by omega) (by unfold maxLen; omega) ?_; clear hS; intro g8 w hS)
       refine ⟨fun _ h => h, ?_⟩
       refine drawn_move ?_
       go_step
       refine branch1 2 al9 rfl kr9 ?_
       (refine wp_alloc (o := ⟨some 5, _, _, _, _, _⟩) hS 24 rfl (.slice none 0 0) [.slice none 0 0] (fun w => Tryd.zeroValue24 w) rfl ?_; clear hS; intro g5 w hS)
       refine ⟨fun _ h => h, ?_⟩
       refine drawn_move ?_
       go_step
       refine branch1 4 al9 rfl kr9 ?_
       (refine wp_store1 hS 24 _ _ rfl _ _ rfl (one_of rfl) _ _ pl9 _ isv9 (by rfl) (by (repeat (first | with_reducible exact SetAt.head | apply SetAt.tail))) rfl ?_; clear hS; intro w hS)
       refine ⟨fun _ h => h, ?_⟩
       refine branch1 5 al9 rfl kr9 ?_
       (refine wp_store1 hS 24 _ _ rfl _ _ rfl (one_of rfl) _ _ pl9 _ isv9 (by rfl) (by (repeat (first | with_reducible exact SetAt.head | apply SetAt.tail))) rfl ?_; clear hS; intro w hS)
       refine ⟨fun _ h => h, ?_⟩
       refine drawn_done kr9 ?_ _
       exact ⟨rfl, g5, g6, g8, g9, rfl, St.close () (by dsimp only [List.cons_append, List.nil_append]; rw [cnt_nil]; exact hS.sub sb9)⟩
     rotate_right 1
     focus
      (refine wp_make (o := ⟨some 8, _, _, _, _, _⟩) hS 24 _ _ rfl _ _ _ _ elz24 _ _ _ _ _ _ rfl rfl isn9 isn9 (by omega) (by omega) (by unfold maxLen; omega) ?_; clear hS; intro g8 w hS)
      refine ⟨fun _ h => h, ?_⟩
      refine drawn_move ?_
      go_step
      refine branch [1, 2] kr9 (by simp) (.cons al9 rfl ?_ (.cons al9 rfl ?_ (.nil)))
      rotate_left 1
      focus
       (refine wp_alloc (o := ⟨some 5, _, _, _, _, _⟩) hS 24 rfl (.slice none 0 0) [.slice none 0 0] (fun w => Tryd.zeroValue24 w) rfl ?_; clear hS; intro g5 w hS)
       refine ⟨fun _ h => h, ?_⟩
       refine drawn_move ?_
       go_step
       refine branch [1, 4] kr9 (by simp) (.cons al9 rfl ?_ (.cons al9 rfl ?_ (.nil)))
       rotate_left 1
       focus
        (refine wp_store1 hS 24 _ _ rfl _ _ rfl (one_of rfl) _ _ pl9 _ isv9 (by rfl) (by (repeat (first | with_reducible exact SetAt.head | apply SetAt.tail))) rfl ?_; clear hS; intro w hS)
        refine ⟨fun _ h => h, ?_⟩
        refine branch1 1 al9 rfl kr9 ?_
        (refine wp_make (o := ⟨some 9, _, _, _, _, _⟩) hS 24 _ _ rfl _ _ _ _ elz24 _ _ _ _ _ _ rfl rfl isn9 isn9 (by omega) (by omega) (by unfold maxLen; omega) ?_; clear hS; intro g9 w hS)
        refine ⟨fun _ h => h, ?_⟩
        refine drawn_move ?_
        go_step
        refine branch1 5 al9 rfl kr9 ?_
        (refine wp_store1 hS 24 _ _ rfl _ _ rfl (one_of rfl) _ _ pl9 _ isv9 (by rfl) (by (repeat (first | with_reducible exact SetAt.head | apply SetAt.tail))) rfl ?_; clear hS; intro w hS)
        refine ⟨fun _ h => h, ?_⟩
        refine drawn_done kr9 ?_ _
        exact ⟨rfl, g5, g6, g8, g9, rfl, St.close () (by dsimp only [List.cons_append, List.nil_append]; rw [cnt_nil]; exact hS.sub sb9)⟩
       rotate_right 1
       focus
        (refine wp_make (o := ⟨some 9, _, _, _, _, _⟩) hS 24 _ _ rfl _ _ _ _ elz24 _ _ _ _ _ _ rfl rfl isn9 isn9 (by omega) (by omega) (by unfold maxLen; omega) ?_; clear hS; intro g9 w hS)
        refine ⟨fun _ h => h, ?_⟩
        refine drawn_move ?_
        go_step
        refine branch1 4 al9 rfl kr9 ?_
        (refine wp_store1 hS 24 _ _ rfl _ _ rfl (one_of rfl) _ _ pl9 _ isv9 (by rfl) (by (repeat (first | with_reducible exact SetAt.head | apply SetAt.tail))) rfl ?_; clear hS; intro w hS)
        refine ⟨fun _ h => h, ?_⟩
        refine branch1 5 al9 rfl kr9 ?_
        (refine wp_store1 hS 24 _ _ rfl _ _ rfl (one_of rfl) _ _ pl9 _ isv9 (by rfl) (by (repeat (first | with_reducible exact SetAt.head | apply SetAt.tail))) rfl ?_; clear hS; intro w hS)
        refine ⟨fun _ h => h, ?_⟩
        refine drawn_done kr9 ?_ _
        exact ⟨rfl, g5, g6, g8, g9, rfl, St.close () (by dsimp only [List.cons_append, List.nil_append]; rw [cnt_nil]; exact hS.sub sb9)⟩
      rotate_right 1
      focus
       (refine wp_make (o := ⟨some 9, _, _, _, _, _⟩) hS 24 _ _ rfl _ _ _ _ elz24 _ _ _ _ _ _ rfl rfl isn9 isn9 (by omega) (by omega) (by unfold maxLen; omega) ?_; clear hS; intro g9 w hS)
       refine ⟨fun _ h => h, ?_⟩
       refine drawn_move ?_
       go_step
       refine branch1 2 al9 rfl kr9 ?_
       (refine wp_alloc (o := ⟨some 5, _, _, _, _, _⟩) hS 24 rfl (.slice none 0 0) [.slice none 0 0] (fun w => Tryd.zeroValue24 w) rfl ?_; clear hS; intro g5 w hS)
       refine ⟨fun _ h => h, ?_⟩
       refine drawn_move ?_
       go_step
       refine branch1 4 al9 rfl kr9 ?_
       (refine wp_store1 hS 24 _ _ rfl _ _ rfl (one_of rfl) _ _ pl9 _ isv9 (by rfl) (by (repeat (first | with_reducible exact SetAt.head | apply SetAt.tail))) rfl ?_; clear hS; intro w hS)
       refine ⟨fun _ h => h, ?_⟩
       refine branch1 5 al9 rfl kr9 ?_
       (refine wp_store1 hS 24 _ _ rfl _ _ rfl (one_of rfl) _ _ pl9 _ isv9 (by rfl) (by (repeat (first | with_reducible exact SetAt.head | apply SetAt.tail))) rfl ?_; clear hS; intro w hS)
       refine ⟨fun _ h => h, ?_⟩
       refine drawn_done kr9 ?_ _
       exact ⟨rfl, g5, g6, g8, g9, rfl, St.close () (by dsimp only [List.cons_append, List.nil_append]; rw [cnt_nil]; exact hS.sub sb9)⟩
    rotate_right 1
    focus
     (refine wp_alloc (o := ⟨some 5, _, _, _, _, _⟩) hS 24 rfl (.slice none 0 0) [.slice none 0 0] (fun w => Tryd.zeroValue24 w) rfl ?_; clear hS; intro g5 w hS)
     refine ⟨fun _ h => h, ?_⟩
     refine drawn_move ?_
     go_step
     refine branch [0, 1, 3] kr9 (by simp) (.cons al9 rfl ?_ (.cons al9 rfl ?_ (.cons al9 rfl ?_ (.nil))))
     rotate_left 2
     focus
      (refine wp_alloc (o := ⟨some 6, _, _, _, _, _⟩) hS 24 rfl (.slice none 0 0) [.slice none 0 0] (fun w => Tryd.zeroValue24 w) rfl ?_; clear hS; intro g6 w hS)
      refine ⟨fun _ h => h, ?_⟩
      refine drawn_move ?_
      go_step
      refine branch [0, 1] kr9 (by simp) (.cons al9 rfl ?_ (.cons al9 rfl ?_ (.nil)))
      rotate_left 1
      focus
       (refine wp_make (o := ⟨some 9, _, _, _, _, _⟩) hS 24 _ _ rfl _ _ _ _ elz24 _ _ _ _ _ _ rfl rfl isn9 isn9 (by omega) (by omega) (by unfold maxLen; omega) ?_; clear hS; intro g9 w hS)
       refine ⟨fun _ h => h, ?_⟩
       refine drawn_move ?_
       go_step
       refine branch1 0 al9 rfl kr9 ?_
       (refine wp_make (o := ⟨some 8, _, _, _, _, _⟩) hS 24 _ _ rfl _ _ _ _ elz24 _ _ _ _ _ _ rfl rfl isn9 isn9 (by omega) (by omega) (by unfold maxLen; omega) ?_; clear hS; intro g8 w hS)
       refine ⟨fun _ h => h, ?_⟩
       refine drawn_move ?_
       go_step
       refine branch1 4 al9 rfl kr9 ?_
       (refine wp_store1 hS 24 _ _ rfl _ _ rfl (one_of rfl) _ _ pl9 _ isv9 (by rfl) (by (repeat (first | with_reducible exact SetAt.head | apply SetAt.tail))) rfl ?_; clear hS; intro w hS)
       refine ⟨fun _ h => h, ?_⟩
       refine branch1 5 al9 rfl kr9 ?_
       (refine wp_store1 hS 24 _ _ rfl _ _ rfl (one_of rfl) _ _ pl9 _ isv9 (by rfl) (by (repeat (first | with_reducible exact SetAt.head | apply SetAt.tail))) rfl ?_; clear hS; intro w hS)
       refine ⟨fun _ h => h, ?_⟩
       refine drawn_done kr9 ?_ _
       exact ⟨rfl, g5, g6, g8, g9, rfl, St.close () (by dsimp only [List.cons_append, List.nil_append]; rw [cnt_nil]; exact hS.sub sb9)⟩
      rotate_right 1
      focus
       (refine wp_make (o := ⟨some 8, _, _, _, _, _⟩) hS 24 _ _ rfl _ _ _ _ elz24 _ _ _ _ _ _ rfl rfl isn9 isn9 (by omega) (by omega) (by unfold maxLen; omega) ?_; clear hS; intro g8 w hS)
       refine ⟨fun _ h => h, ?_⟩
       refine drawn_move ?_
       go_step
       refine branch [1, 4] kr9 (by simp) (.cons al9 rfl ?_ (.cons al9 rfl ?_ (.nil)))
       rotate_left 1
       focus
        (refine wp_store1 hS 24 _ _ rfl _ _ rfl (one_of rfl) _ _ pl9 _ isv9 (by rfl) (by (repeat (first | with_reducible exact SetAt.head | apply SetAt.tail))) rfl ?_; clear hS; intro w hS)
        refine ⟨fun _ h => h, ?_⟩
        refine branch1 1 al9 rfl kr9 ?_
        (refine wp_make (o := ⟨some 9, _, _, _, _, _⟩) hS 24 _ _ rfl _ _ _ _ elz24 _ _ _ _ _ _ rfl rfl isn9 isn9 (by omega) (by omega) (by unfold maxLen; omega) ?_; clear hS; intro g9 w hS)
        refine ⟨fun _ h => h, ?_⟩
        refine drawn_move ?_
        go_step
        refine branch1 5 al9 rfl kr9 ?_
        (refine wp_store1 hS 24 _ _ rfl _ _ rfl (one_of rfl) _ _ pl9 _ isv9 (by rfl) (by (repeat (first | with_reducible exact SetAt.head | apply SetAt.tail))) rfl ?_; clear hS; intro w hS)
        refine ⟨fun _ h => h, ?_⟩
        refine drawn_done kr9 ?_ _
        exact ⟨rfl, g5, g6, g8, g9, rfl, St.close () (by dsimp only [List.cons_append, List.nil_append]; rw [cnt_nil]; exact hS.sub sb9)⟩
       rotate_right 1
       focus
        (refine wp_make (o := ⟨some 9, _, _, _, _, _⟩) hS 24 _ _ rfl _ _ _ _ elz24 _ _ _ _ _ _ rfl rfl isn9 isn9 (by omega) (by omega) (by unfold maxLen; omega) ?_; clear hS; intro g9 w hS)
        refine ⟨fun _ h => h, ?_⟩
        refine drawn_move ?_
        go_step
        refine branch1 4 al9 rfl kr9 ?_
        (refine wp_store1 hS 24 _ _ rfl _ _ rfl (one_of rfl) _ _ pl9 _ isv9 (by rfl) (by (repeat (first | with_reducible exact SetAt.head | apply SetAt.tail))) rfl ?_; clear hS; intro w hS)
        refine ⟨fun _ h => h, ?_⟩
        refine branch1 5 al9 rfl kr9 ?_
        (refine wp_store1 hS 24 _ _ rfl _ _ rfl (one_of rfl) _ _ pl9 _ isv9 (by rfl) (by (repeat (first | with_reducible exact SetAt.head | apply SetAt.tail))) rfl ?_; clear hS; intro w hS)
        refine ⟨fun _ h => h, ?_⟩
        refine drawn_done kr9 ?_ _
        exact ⟨rfl, g5, g6, g8, g9, rfl, St.close () (by dsimp only [List.cons_append, List.nil_append]; rw [cnt_nil]; exact hS.sub sb9)⟩
     rotate_right 1
     focus
      (refine wp_make (o := ⟨some 9, _, _, _, _, _⟩) hS 24 _ _ rfl _ _ _ _ elz24 _ _ _ _ _ _ rfl rfl isn9 isn9 (by omega) (by omega) (by unfold maxLen; omega) ?_; clear hS; intro g9 w hS)
      refine ⟨fun _ h => h, ?_⟩
      refine drawn_move ?_
      go_step
      refine branch [0, 3] kr9 (by simp) (.cons al9 rfl ?_ (.cons al9 rfl ?_ (.nil)))
      rotate_left 1
      focus
       (refine wp_alloc (o := ⟨some 6, _, _, _, _, _⟩) hS 24 rfl (.slice none 0 0) [.slice none 0 0] (fun w => Tryd.zeroValue24 w) rfl ?_; clear hS; intro g6 w hS)
       refine ⟨fun _ h => h, ?_⟩
       refine drawn_move ?_
       go_step
       refine branch1 0 al9 rfl kr9 ?_
       (refine wp_make (o := ⟨some 8, _, _, _, _, _⟩) hS 24 _ _ rfl _ _ _ _ elz24 _ _ _ _ _ _ rfl rfl isn9 isn9 (by omega) (by omega) (by unfold maxLen; omega) ?_; clear hS; intro g8 w hS)
       refine ⟨fun _ h => h, ?_⟩
       refine drawn_move ?_
       go_step
       refine branch1 4 al9 rfl kr9 ?_
       (refine wp_store1 hS 24 _ _ rfl _ _ rfl (one_of rfl) _ _ pl9 _ isv9 (by rfl) (by (repeat (first | with_reducible exact SetAt.head | apply SetAt.tail))) rfl ?_; clear hS; intro w hS)
       refine ⟨fun _ h => h, ?_⟩
       refine branch1 5 al9 rfl kr9 ?_
       (refine wp_store1 hS 24 _ _ rfl _ _ rfl (one_of rfl) _ _ pl9 _ isv9 (by rfl) (by (repeat (first | with_reducible exact SetAt.head | apply SetAt.tail))) rfl ?_; clear hS; intro w hS)
       refine ⟨fun _ h => h, ?_⟩
       refine drawn_done kr9 ?_ _
       exact ⟨rfl, g5, g6, g8, g9, rfl, St.close () (by dsimp only [List.cons_append, List.nil_append]; rw [cnt_nil]; exact hS.sub sb9)⟩
      rotate_right 1
      focus
       (refine wp_make (o := ⟨some 8, _, _, _, _, _⟩) hS 24 _ _ rfl _ _ _ _ elz24 _ _ _ _ _ _ rfl rfl isn9 isn9 (by omega) (by omega) (by unfold maxLen; omega) ?_; clear hS; intro g8 w hS)
       refine ⟨fun _ h => h, ?_⟩
       refine drawn_move ?_
       go_step
       refine branch1 3 al9 rfl kr9 ?_
       (refine wp_alloc (o := ⟨some 6, _, _, _, _, _⟩) hS 24 rfl (.slice none 0 0) [.slice none 0 0] (fun w => Tryd.zeroValue24 w) rfl ?_; clear hS; intro g6 w hS)
       refine ⟨fun _ h => h, ?_⟩
       refine drawn_move ?_
       go_step
       refine branch1 4 al9 rfl kr9 ?_
       (refine wp_store1 hS 24 _ _ rfl _ _ rfl (one_of rfl) _ _ pl9 _ isv9 (by rfl) (by (repeat (first | with_reducible exact SetAt.head | apply SetAt.tail))) rfl ?_; clear hS; intro w hS)
       refine ⟨fun _ h => h, ?_⟩
       refine branch1 5 al9 rfl kr9 ?_
       (refine wp_store1 hS 24 _ _ rfl _ _ rfl (one_of rfl) _ _ pl9 _ isv9 (by rfl) (by (repeat (first | with_reducible exact SetAt.head | apply SetAt.tail))) rfl ?_; clear hS; intro w hS)
       refine ⟨fun _ h => h, ?_⟩
       refine drawn_done kr9 ?_ _
       exact ⟨rfl, g5, g6, g8, g9, rfl, St.close () (by dsimp only [List.cons_append, List.nil_append]; rw [cnt_nil]; exact hS.sub sb9)⟩
     rotate_right 1
     focus
      (refine wp_make (o := ⟨some 8, _, _, _, _, _⟩) hS 24 _ _ rfl _ _ _ _ elz24 _ _ _ _ _ _ rfl rfl isn9 isn9 (by omega) (by omega) (by unfold maxLen; omega) ?_; clear hS; intro g8 w hS)
      refine ⟨fun _ h => h, ?_⟩
      refine drawn_move ?_
      go_step
      refine branch [1, 3] kr9 (by simp) (.cons al9 rfl ?_ (.cons al9 rfl ?_ (.nil)))
      rotate_left 1
      focus
       (refine wp_alloc (o := ⟨some 6, _, _, _, _, _⟩) hS 24 rfl (.slice none 0 0) [.slice none 0 0] (fun w => Tryd.zeroValue24 w) rfl ?_; clear hS; intro g6 w hS)
       refine ⟨fun _ h => h, ?_⟩
       refine drawn_move ?_
       go_step
       refine branch [1, 4] kr9 (by simp) (.cons al9 rfl ?_ (.cons al9 rfl ?_ (.nil)))
       rotate_left 1
       focus
        (refine wp_store1 hS 24 _ _ rfl _ _ rfl (one_of rfl) _ _ pl9 _ isv9 (by rfl) (by (repeat (first | with_reducible exact SetAt.head | apply SetAt.tail))) rfl ?_; clear hS; intro w hS)
        refine ⟨fun _ h => h, ?_⟩
        refine branch1 1 al9 rfl kr9 ?_
        (refine wp_make (o := ⟨some 9, _, _, _, _, _⟩) hS 24 _ _ rfl _ _ _ _ elz24 _ _ _ _ _ _ rfl rfl isn9 isn9 (by omega) (by omega) (by unfold maxLen; omega) ?_; clear hS; intro g9 w hS)
        refine ⟨fun _ h => h, ?_⟩
        refine drawn_move ?_
        go_step
        refine branch1 5 al9 rfl kr9 ?_
        (refine wp_store1 hS 24 _ _ rfl _ _ rfl (one_of rfl) _ _ pl9 _ isv9 (by rfl) (by (repeat (first | with_reducible exact SetAt.head | apply SetAt.tail))) rfl ?_; clear hS; intro w hS)
        refine ⟨fun _ h => h, ?_⟩
        refine drawn_done kr9 ?_ _
        exact ⟨rfl, g5, g6, g8, g9, rfl, St.close () (by dsimp only [List.cons_append, List.nil_append]; rw [cnt_nil]; exact hS.sub sb9)⟩
       rotate_right 1
       focus
        (refine wp_make (o := ⟨some 9, _, _, _, _, _⟩) hS 24 _ _ rfl _ _ _ _ elz24 _ _ _ _ _ _ rfl rfl isn9 isn9 (by omega) (by omega) (by unfold maxLen; omega) ?_; clear hS; intro g9 w hS)
        refine ⟨fun _ h => h, ?_⟩
        refine drawn_move ?_
        go_step
        refine branch1 4 al9 rfl kr9 ?_
        (refine wp_store1 hS 24 _ _ rfl _ _ rfl (one_of rfl) _ _ pl9 _ isv9 (by rfl) (by (repeat (first | with_reducible exact SetAt.head | apply SetAt.tail))) rfl ?_; clear hS; intro w hS)
        refine ⟨fun _ h => h, ?_⟩
        refine branch1 5 al9 rfl kr9 ?_
        (refine wp_store1 hS 24 _ _ rfl _ _ rfl (one_of rfl) _ _ pl9 _ isv9 (by rfl) (by (repeat (first | with_reducible exact SetAt.head | apply SetAt.tail))) rfl ?_; clear hS; intro w hS)
        refine ⟨fun _ h => h, ?_⟩
        refine drawn_done kr9 ?_ _
        exact ⟨rfl, g5, g6, g8, g9, rfl, St.close () (by dsimp only [List.cons_append, List.nil_append]; rw [cnt_nil]; exact hS.sub sb9)⟩
      rotate_right 1
      focus
       (refine wp_make (o := ⟨some 9, _, _, _, _, _⟩) hS 24 _ _ rfl _ _ _ _ elz24 _ _ _ _ _ _ rfl rfl isn9 isn9 (by omega) (by omega) (by unfold maxLen; omega) ?_; clear hS; intro g9 w hS)
       refine ⟨fun _ h => h, ?_⟩
       refine drawn_move ?_
       go_step
       refine branch1 3 al9 rfl kr9 ?_
       (refine wp_alloc (o := ⟨some 6, _, _, _, _, _⟩) hS 24 rfl (.slice none 0 0) [.slice none 0 0] (fun w => Tryd.zeroValue24 w) rfl ?_; clear hS; intro g6 w hS)
       refine ⟨fun _ h => h, ?_⟩
       refine drawn_move ?_
       go_step
       refine branch1 4 al9 rfl kr9 ?_
       (refine wp_store1 hS 24 _ _ rfl _ _ rfl (one_of rfl) _ _ pl9 _ isv9 (by rfl) (by (repeat (first | with_reducible exact SetAt.head | apply SetAt.tail))) rfl ?_; clear hS; intro w hS)
       refine ⟨fun _ h => h, ?_⟩
       refine branch1 5 al9 rfl kr9 ?_
       (refine wp_store1 hS 24 _ _ rfl _ _ rfl (one_of rfl) _ _ pl9 _ isv9 (by rfl) (by (repeat (first | with_reducible exact SetAt.head | apply SetAt.tail))) rfl ?_; clear hS; intro w hS)
       refine ⟨fun _ h => h, ?_⟩
       refine drawn_done kr9 ?_ _
       exact ⟨rfl, g5, g6, g8, g9, rfl, St.close () (by dsimp only [List.cons_append, List.nil_append]; rw [cnt_nil]; exact hS.sub sb9)⟩
    rotate_right 1
    focus
     (refine wp_make (o := ⟨some 9, _, _, _, _, _⟩) hS 24 _ _ rfl _ _ _ _ elz24 _ _ _ _ _ _ rfl rfl isn9 isn9 (by omega) (by omega) (by unfold maxLen; omega) ?_; clear hS; intro g9 w hS)
     refine ⟨fun _ h => h, ?_⟩
     refine drawn_move ?_
     go_step
     refine branch [0, 2, 3] kr9 (by simp) (.cons al9 rfl ?_ (.cons al9 rfl ?_ (.cons al9 rfl ?_ (.nil))))
     rotate_left 2
     focus
      (refine wp_alloc (o := ⟨some 6, _, _, _, _, _⟩) hS 24 rfl (.slice none 0 0) [.slice none 0 0] (fun w => Tryd.zeroValue24 w) rfl ?_; clear hS; intro g6 w hS)
      refine ⟨fun _ h => h, ?_⟩
      refine drawn_move ?_
      go_step
      refine branch [0, 2] kr9 (by simp) (.cons al9 rfl ?_ (.cons al9 rfl ?_ (.nil)))
      rotate_left 1
      focus
       (refine wp_alloc (o := ⟨some 5, _, _, _, _, _⟩) hS 24 rfl (.slice none 0 0) [.slice none 0 0] (fun w => Tryd.zeroValue24 w) rfl ?_; clear hS; intro g5 w hS)
       refine ⟨fun _ h => h, ?_⟩
       refine drawn_move ?_
       go_step
       refine branch1 0 al9 rfl kr9 ?_
       (refine wp_make (o := ⟨some 8, _, _, _, _, _⟩) hS 24 _ _ rfl _ _ _ _ elz24 _ _ _ _ _ _ rfl rfl isn9 isn9 (by omega) (by omega) (by unfold maxLen; omega) ?_; clear hS; intro g8 w hS)
       refine ⟨fun _ h => h, ?_⟩
       refine drawn_move ?_
       go_step
       refine branch1 4 al9 rfl kr9 ?_
       (refine wp_store1 hS 24 _ _ rfl _ _ rfl (one_of rfl) _ _ pl9 _ isv9 (by rfl) (by (repeat (first | with_reducible exact SetAt.head | apply SetAt.tail))) rfl ?_; clear hS; intro w hS)
       refine ⟨fun _ h => h, ?_⟩
       refine branch1 5 al9 rfl kr9 ?_
       (refine wp_store1 hS 24 _ _ rfl _ _ rfl (one_of rfl) _ _ pl9 _ isv9 (by rfl) (by (repeat (first | with_reducible exact SetAt.head | apply SetAt.tail))) rfl ?_; clear hS; intro w hS)
       refine ⟨fun _ h => h, ?_⟩
       refine drawn_done kr9 ?_ _
       exact ⟨rfl, g5, g6, g8, g9, rfl, St.close () (by dsimp only [List.cons_append, List.nil_append]; rw [cnt_nil]; exact hS.sub sb9)⟩
      rotate_right 1
      focus
       (refine wp_make (o := ⟨some 8, _, _, _, _, _⟩) hS 24 _ _ rfl _ _ _ _ elz24 _ _ _ _ _ _ rfl rfl isn9 isn9 (by omega) (by omega) (by unfold maxLen; omega) ?_; clear hS; intro g8 w hS)
       refine ⟨fun _ h => h, ?_⟩
       refine drawn_move ?_
       go_step
       refine branch1 2 al9 rfl kr9 ?_
       (refine wp_alloc (o := ⟨some 5, _, _, _, _, _⟩) hS 24 rfl (.slice none 0 0) [.slice none 0 0] (fun w => Tryd.zeroValue24 w) rfl ?_; clear hS; intro g5 w hS)
       refine ⟨fun _ h => h, ?_⟩
       refine drawn_move ?_
       go_step
       refine branch1 4 al9 rfl kr9 ?_
       (refine wp_store1 hS 24 _ _ rfl _ _ rfl (one_of rfl) _ _ pl9 _ isv9 (by rfl) (by (repeat (first | with_reducible exact SetAt.head | apply SetAt.tail))) rfl ?_; clear hS; intro w hS)
       refine ⟨fun _ h => h, ?_⟩
       refine branch1 5 al9 rfl kr9 ?_
       (refine wp_store1 hS 24 _ _ rfl _ _ rfl (one_of rfl) _ _ pl9 _ isv9 (by rfl) (by (repeat (first | with_reducible exact SetAt.head | apply SetAt.tail))) rfl ?_; clear hS; intro w hS)
       refine ⟨fun _ h => h, ?_⟩
       refine drawn_done kr9 ?_ _
       exact ⟨rfl, g5, g6, g8, g9, rfl, St.close () (by dsimp only [List.cons_append, List.nil_append]; rw [cnt_nil]; exact hS.sub sb9)⟩
     rotate_right 1
     focus
      (refine wp_alloc (o := ⟨some 5, _, _, _, _, _⟩) hS 24 rfl (.slice none 0 0) [.slice none 0 0] (fun w => Tryd.zeroValue24 w) rfl ?_; clear hS; intro g5 w hS)
      refine ⟨fun _ h => h, ?_⟩
      refine drawn_move ?_
      go_step
      refine branch [0, 3] kr9 (by simp) (.cons al9 rfl ?_ (.cons al9 rfl ?_ (.nil)))
      rotate_left 1
      focus
       (refine wp_alloc (o := ⟨some 6, _, _, _, _, _⟩) hS 24 rfl (.slice none 0 0) [.slice none 0 0] (fun w => Tryd.zeroValue24 w) rfl ?_; clear hS; intro g6 w hS)
       refine ⟨fun _ h => h, ?_⟩
       refine drawn_move ?_
       go_step
       refine branch1 0 al9 rfl kr9 ?_
       (refine wp_make (o := ⟨some 8, _, _, _, _, _⟩) hS 24 _ _ rfl _ _ _ _ elz24 _ _ _ _ _ _ rfl rfl isn9 isn9 (by omega) (by omega) (by unfold maxLen; omega) ?_; clear hS; intro g8 w hS)
       refine ⟨fun _ h => h, ?_⟩
       refine drawn_move ?_
       go_step
       refine branch1 4 al9 rfl kr9 ?_
       (refine wp_store1 hS 24 _ _ rfl _ _ rfl (one_of rfl) _ _ pl9 _ isv9 (by rfl) (by (repeat (first | with_reducible exact SetAt.head | apply SetAt.tail))) rfl ?_; clear hS; intro w hS)
       refine ⟨fun _ h => h, ?_⟩
       refine branch1 5 al9 rfl kr9 ?_
       (refine wp_store1 hS 24 _ _ rfl _ _ rfl (one_of rfl) _ _ pl9 _ isv9 (by rfl) (by (repeat (first | with_reducible exact SetAt.head | apply SetAt.tail))) rfl ?_; clear hS; intro w hS)
       refine ⟨fun _ h => h, ?_⟩
       refine drawn_done kr9 ?_ _
       exact ⟨rfl, g5, g6, g8, g9, rfl, St.close () (by dsimp only [List.cons_append, List.nil_append]; rw [cnt_nil]; exact hS.sub sb9)⟩
      rotate_right 1
      focus
       (refine wp_make (o := ⟨some 8, _, _, _, _, _⟩) hS 24 _ _ rfl _ _ _ _ elz24 _ _ _ _ _ _ rfl rfl isn9 isn9 (by omega) (by omega) (by unfold maxLen; omega) ?_; clear hS; intro g8 w hS)
       refine ⟨fun _ h => h, ?_⟩
       refine drawn_move ?_
       go_step
       refine branch1 3 al9 rfl kr9 ?_
       (refine wp_alloc (o := ⟨some 6, _, _, _, _, _⟩) hS 24 rfl (.slice none 0 0) [.slice none 0 0] (fun w => Tryd.zeroValue24 w) rfl ?_; clear hS; intro g6 w hS)
       refine ⟨fun _ h => h, ?_⟩
       refine drawn_move ?_
       go_step
       refine branch1 4 al9 rfl kr9 ?_
       (refine wp_store1 hS 24 _ _ rfl _ _ rfl (one_of rfl) _ _ pl9 _ isv9 (by rfl) (by (repeat (first | with_reducible exact SetAt.head | apply SetAt.tail))) rfl ?_; clear hS; intro w hS)
       refine ⟨fun _ h => h, ?_⟩
       refine branch1 5 al9 rfl kr9 ?_
       (refine wp_store1 hS 24 _ _ rfl _ _ rfl (one_of rfl) _ _ pl9 _ isv9 (by rfl) (by (repeat (first | with_reducible exact SetAt.head | apply SetAt.tail))) rfl ?_; clear hS; intro w hS)
       refine ⟨fun _ h => h, ?_⟩
       refine drawn_done kr9 ?_ _
       exact ⟨rfl, g5, g6, g8, g9, rfl, St.close () (by dsimp only [List.cons_append, List.nil_append]; rw [cnt_nil]; exact hS.sub sb9)⟩
     rotate_right 1
     focus
      (refine wp_make (o := ⟨some 8, _, _, _, _, _⟩) hS 24 _ _ rfl _ _ _ _ elz24 _ _ _ _ _ _ rfl rfl isn9 isn9 (by omega) (by omega) (by unfold maxLen; omega) ?_; clear hS; intro g8 w hS)
      refine ⟨fun _ h => h, ?_⟩
      refine drawn_move ?_
      go_step
      refine branch [2, 3] kr9 (by simp) (.cons al9 rfl ?_ (.cons al9 rfl ?_ (.nil)))
      rotate_left 1
      focus
       (refine wp_alloc (o := ⟨some 6, _, _, _, _, _⟩) hS 24 rfl (.slice none 0 0) [.slice none 0 0] (fun w => Tryd.zeroValue24 w) rfl ?_; clear hS; intro g6 w hS)
       refine ⟨fun _ h => h, ?_⟩
       refine drawn_move ?_
       go_step
       refine branch1 2 al9 rfl kr9 ?_
       (refine wp_alloc (o := ⟨some 5, _, _, _, _, _⟩) hS 24 rfl (.slice none 0 0) [.slice none 0 0] (fun w => Tryd.zeroValue24 w) rfl ?_; clear hS; intro g5 w hS)
       refine ⟨fun _ h => h, ?_⟩
       refine drawn_move ?_
       go_step
       refine branch1 4 al9 rfl kr9 ?_
       (refine wp_store1 hS 24 _ _ rfl _ _ rfl (one_of rfl) _ _ pl9 _ isv9 (by rfl) (by (repeat (first | with_reducible exact SetAt.head | apply SetAt.tail))) rfl ?_; clear hS; intro w hS)
       refine ⟨fun _ h => h, ?_⟩
       refine branch1 5 al9 rfl kr9 ?_
       (refine wp_store1 hS 24 _ _ rfl _ _ rfl (one_of rfl) _ _ pl9 _ isv9 (by rfl) (by (repeat (first | with_reducible exact SetAt.head | apply SetAt.tail))) rfl ?_; clear hS; intro w hS)
       refine ⟨fun _ h => h, ?_⟩
       refine drawn_done kr9 ?_ _
       exact ⟨rfl, g5, g6, g8, g9, rfl, St.close () (by dsimp only [List.cons_append, List.nil_append]; rw [cnt_nil]; exact hS.sub sb9)⟩
      rotate_right 1
      focus
       (refine wp_alloc (o := ⟨some 5, _, _, _, _, _⟩) hS 24 rfl (.slice none 0 0) [.slice none 0 0] (fun w => Tryd.zeroValue24 w) rfl ?_; clear hS; intro g5 w hS)
       refine ⟨fun _ h => h, ?_⟩
       refine drawn_move ?_
       go_step
       refine branch1 3 al9 rfl kr9 ?_
       (refine wp_alloc (o := ⟨some 6, _, _, _, _, _⟩) hS 24 rfl (.slice none 0 0) [.slice none 0 0] (fun w => Tryd.zeroValue24 w) rfl ?_; clear hS; intro g6 w hS)
       refine ⟨fun _ h => h, ?_⟩
       refine drawn_move ?_
       go_step
       refine branch1 4 al9 rfl kr9 ?_
       (refine wp_store1 hS 24 _ _ rfl _ _ rfl (one_of rfl) _ _ pl9 _ isv9 (by rfl) (by (repeat (first | with_reducible exact SetAt.head | apply SetAt.tail))) rfl ?_; clear hS; intro w hS)
       refine ⟨fun _ h => h, ?_⟩
       refine branch1 5 al9 rfl kr9 ?_
       (refine wp_store1 hS 24 _ _ rfl _ _ rfl (one_of rfl) _ _ pl9 _ isv9 (by rfl) (by (repeat (first | with_reducible exact SetAt.head | apply SetAt.tail))) rfl ?_; clear hS; intro w hS)
       refine ⟨fun _ h => h, ?_⟩
       refine drawn_done kr9 ?_ _
       exact ⟨rfl, g5, g6, g8, g9, rfl, St.close () (by dsimp only [List.cons_append, List.nil_append]; rw [cnt_nil]; exact hS.sub sb9)⟩
    rotate_right 1
    focus
     (refine wp_make (o := ⟨some 8, _, _, _, _, _⟩) hS 24 _ _ rfl _ _ _ _ elz24 _ _ _ _ _ _ rfl rfl isn9 isn9 (by omega) (by omega) (by unfold maxLen; omega) ?_; clear hS; intro g8 w hS)
     refine ⟨fun _ h => h, ?_⟩
     refine drawn_move ?_
     go_step
     refine branch [1, 2, 3] kr9 (by simp) (.cons al9 rfl ?_ (.cons al9 rfl ?_ (.cons al9 rfl ?_ (.nil))))
     rotate_left 2
     focus
      (refine wp_alloc (o := ⟨some 6, _, _, _, _, _⟩) hS 24 rfl (.slice none 0 0) [.slice none 0 0] (fun w => Tryd.zeroValue24 w) rfl ?_; clear hS; intro g6 w hS)
      refine ⟨fun _ h => h, ?_⟩
      refine drawn_move ?_
      go_step
      refine branch [1, 2] kr9 (by simp) (.cons al9 rfl ?_ (.cons al9 rfl ?_ (.nil)))
      rotate_left 1
      focus
       (refine wp_alloc (o := ⟨some 5, _, _, _, _, _⟩) hS 24 rfl (.slice none 0 0) [.slice none 0 0] (fun w => Tryd.zeroValue24 w) rfl ?_; clear hS; intro g5 w hS)
       refine ⟨fun _ h => h, ?_⟩
       refine drawn_move ?_
       go_step
       refine branch [1, 4] kr9 (by simp) (.cons al9 rfl ?_ (.cons al9 rfl ?_ (.nil)))
       rotate_left 1
       focus
        (refine wp_store1 hS 24 _ _ rfl _ _ rfl (one_of rfl) _ _ pl9 _ isv9 (by rfl) (by (repeat (first | with_reducible exact SetAt.head | apply SetAt.tail))) rfl ?_; clear hS; intro w hS)
        refine ⟨fun _ h => h, ?_⟩
        refine branch1 1 al9 rfl kr9 ?_
        (refine wp_make (o := ⟨some 9, _, _, _, _, _⟩) hS 24 _ _ rfl _ _ _ _ elz24 _ _ _ _ _ _ rfl rfl isn9 isn9 (by omega) (by omega) (by unfold maxLen; omega) ?_; clear hS; intro g9 w hS)
        refine ⟨fun _ h => h, ?_⟩
        refine drawn_move ?_
        go_step
        refine branch1 5 al9 rfl kr9 ?_
        (refine wp_store1 hS 24 _ _ rfl _ _ rfl (one_of rfl) _ _ pl9 _ isv9 (by rfl) (by (repeat (first | with_reducible exact SetAt.head | apply SetAt.tail))) rfl ?_; clear hS; intro w hS)
        refine ⟨fun _ h => h, ?_⟩
        refine drawn_done kr9 ?_ _
        exact ⟨rfl, g5, g6, g8, g9, rfl, St.close () (by dsimp only [List.cons_append, List.nil_append]; rw [cnt_nil]; exact hS.sub sb9)⟩
       rotate_right 1
       focus
        (refine wp_make (o := ⟨some 9, _, _, _, _, _⟩) hS 24 _ _ rfl _ _ _ _ elz24 _ _ _ _ _ _ rfl rfl isn9 isn9 (by omega) (by omega) (by unfold maxLen; omega) ?_; clear hS; intro g9 w hS)
        refine ⟨fun _ h => h, ?_⟩
        refine drawn_move ?_
        go_step
        refine branch1 4 al9 rfl kr9 ?_
        (refine wp_store1 hS 24 _ _ rfl _ _ rfl (one_of rfl) _ _ pl9 _ isv9 (by rfl) (by (repeat (first | with_reducible exact SetAt.head | apply SetAt.tail))) rfl ?_; clear hS; intro w hS)
        refine ⟨fun _ h => h, ?_⟩
        refine branch1 5 al9 rfl kr9 ?_
        (refine wp_store1 hS 24 _ _ rfl _ _ rfl (one_of rfl) _ _ pl9 _ isv9 (by rfl) (by (repeat (first | with_reducible exact SetAt.head | apply SetAt.tail))) rfl ?_; clear hS; intro w hS)
        refine ⟨fun _ h => h, ?_⟩
        refine drawn_done kr9 ?_ _
        exact ⟨rfl, g5, g6, g8, g9, rfl, St.close () (by dsimp only [List.cons_append, List.nil_append]; rw [cnt_nil]; exact hS.sub sb9)⟩
      rotate_right 1
      focus
       (refine wp_make (o := ⟨some 9, _, _, _, _, _⟩) hS 24 _ _ rfl _ _ _ _ elz24 _ _ _ _ _ _ rfl rfl isn9 isn9 (by omega) (by omega) (by unfold maxLen; omega) ?_; clear hS; intro g9 w hS)
       refine ⟨fun _ h => h, ?_⟩
       refine drawn_move ?_
       go_step
       refine branch1 2 al9 rfl kr9 ?_
       (refine wp_alloc (o := ⟨some 5, _, _, _, _, _⟩) hS 24 rfl (.slice none 0 0) [.slice none 0 0] (fun w => Tryd.zeroValue24 w) rfl ?_; clear hS; intro g5 w hS)
       refine ⟨fun _ h => h, ?_⟩
       refine drawn_move ?_
       go_step
       refine branch1 4 al9 rfl kr9 ?_
       (refine wp_store1 hS 24 _ _ rfl _ _ rfl (one_of rfl) _ _ pl9 _ isv9 (by rfl) (by (repeat (first | with_reducible exact SetAt.head | apply SetAt.tail))) rfl ?_; clear hS; intro w hS)
       refine ⟨fun _ h => h, ?_⟩
       refine branch1 5 al9 rfl kr9 ?_
       (refine wp_store1 hS 24 _ _ rfl _ _ rfl (one_of rfl) _ _ pl9 _ isv9 (by rfl) (by (repeat (first | with_reducible exact SetAt.head | apply SetAt.tail))) rfl ?_; clear hS; intro w hS)
       refine ⟨fun _ h => h, ?_⟩
       refine drawn_done kr9 ?_ _
       exact ⟨rfl, g5, g6, g8, g9, rfl, St.close () (by dsimp only [List.cons_append, List.nil_append]; rw [cnt_nil]; exact hS.sub sb9)⟩
     rotate_right 1
     focus
      (refine wp_alloc (o := ⟨some 5, _, _, _, _, _⟩) hS 24 rfl (.slice none 0 0) [.slice none 0 0] (fun w => Tryd.zeroValue24 w) rfl ?_; clear hS; intro g5 w hS)
      refine ⟨fun _ h => h, ?_⟩
      refine drawn_move ?_
      go_step
      refine branch [1, 3] kr9 (by simp) (.cons al9 rfl ?_ (.cons al9 rfl ?_ (.nil)))
      rotate_left 1
      focus
       (refine wp_alloc (o := ⟨some 6, _, _, _, _, _⟩) hS 24 rfl (.slice none 0 0) [.slice none 0 0] (fun w => Tryd.zeroValue24 w) rfl ?_; clear hS; intro g6 w hS)
       refine ⟨fun _ h => h, ?_⟩
       refine drawn_move ?_
       go_step
       refine branch [1, 4] kr9 (by simp) (.cons al9 rfl ?_ (.cons al9 rfl ?_ (.nil)))
       rotate_left 1
       focus
        (refine wp_store1 hS 24 _ _ rfl _ _ rfl (one_of rfl) _ _ pl9 _ isv9 (by rfl) (by (repeat (first | with_reducible exact SetAt.head | apply SetAt.tail))) rfl ?_; clear hS; intro w hS)
        refine ⟨fun _ h => h, ?_⟩
        refine branch1 1 al9 rfl kr9 ?_
        (refine wp_make (o := ⟨some 9, _, _, _, _, _⟩) hS 24 _ _ rfl _ _ _ _ elz24 _ _ _ _ _ _ rfl rfl isn9 isn9 (by omega) (by omega) (by unfold maxLen; omega) ?_; clear hS; intro g9 w hS)
        refine ⟨fun _ h => h, ?_⟩
        refine drawn_move ?_
        go_step
        refine branch1 5 al9 rfl kr9 ?_
        (refine wp_store1 hS 24 _ _ rfl _ _ rfl (one_of rfl) _ _ pl9 _ isv9 (by rfl) (by (repeat (first | with_reducible exact SetAt.head | apply SetAt.tail))) rfl ?_; clear hS; intro w hS)
        refine ⟨fun _ h => h, ?_⟩
        refine drawn_done kr9 ?_ _
        exact ⟨rfl, g5, g6, g8, g9, rfl, St.close () (by dsimp only [List.cons_append, List.nil_append]; rw [cnt_nil]; exact hS.sub sb9)⟩
       rotate_right 1
       focus
        (refine wp_make (o := ⟨some 9, _, _, _, _, _⟩) hS 24 _ _ rfl _ _ _ _ elz24 _ _ _ _ _ _ rfl rfl isn9 isn9 (by omega) (by omega) (by unfold maxLen; omega) ?_; clear hS; intro g9 w hS)
        refine ⟨fun _ h => h, ?_⟩
        refine drawn_move ?_
        go_step
        refine branch1 4 al9 rfl kr9 ?_
        (refine wp_store1 hS 24 _ _ rfl _ _ rfl (one_of rfl) _ _ pl9 _ isv9 (by rfl) (by (repeat (first | with_reducible exact SetAt.head | apply SetAt.tail))) rfl ?_; clear hS; intro w hS)
        refine ⟨fun _ h => h, ?_⟩
        refine branch1 5 al9 rfl kr9 ?_
        (refine wp_store1 hS 24 _ _ rfl _ _ rfl (one_of rfl) _ _ pl9 _ isv9 (by rfl) (by (repeat (first | with_reducible exact SetAt.head | apply SetAt.tail))) rfl ?_; clear hS; intro w hS)
        refine ⟨fun _ h => h, ?_⟩
        refine drawn_done kr9 ?_ _
        exact ⟨rfl, g5, g6, g8, g9, rfl, St.close () (by dsimp only [List.cons_append, List.nil_append]; rw [cnt_nil]; exact hS.sub sb9)⟩
      rotate_right 1
      focus
       (refine wp_make (o := ⟨some 9, _, _, _, _, _⟩) hS 24 _ _ rfl _ _ _ _ elz24 _ _ _ _ _ _ rfl rfl isn9 isn9 (by omega) (by omega) (by unfold maxLen; omega) ?_; clear hS; intro g9 w hS)
       refine ⟨fun _ h => h, ?_⟩
       refine drawn_move ?_
       go_step
       refine branch1 3 al9 rfl kr9 ?_
       (refine wp_alloc (o := ⟨some 6, _, _, _, _, _⟩) hS 24 rfl (.slice none 0 0) [.slice none 0 0] (fun w => Tryd.zeroValue24 w) rfl ?_; clear hS; intro g6 w hS)
       refine ⟨fun _ h => h, ?_⟩
       refine drawn_move ?_
       go_step
       refine branch1 4 al9 rfl kr9 ?_
       (refine wp_store1 hS 24 _ _ rfl _ _ rfl (one_of rfl) _ _ pl9 _ isv9 (by rfl) (by (repeat (first | with_reducible exact SetAt.head | apply SetAt.tail))) rfl ?_; clear hS; intro w hS)
       refine ⟨fun _ h => h, ?_⟩
       refine branch1 5 al9 rfl kr9 ?_
       (refine wp_store1 hS 24 _ _ rfl _ _ rfl (one_of rfl) _ _ pl9 _ isv9 (by rfl) (by (repeat (first | with_reducible exact SetAt.head | apply SetAt.tail))) rfl ?_; clear hS; intro w hS)
       refine ⟨fun _ h => h, ?_⟩
       refine drawn_done kr9 ?_ _
       exact ⟨rfl, g5, g6, g8, g9, rfl, St.close () (by dsimp only [List.cons_append, List.nil_append]; rw [cnt_nil]; exact hS.sub sb9)⟩
     rotate_right 1
     focus
      (refine wp_make (o := ⟨some 9, _, _, _, _, _⟩) hS 24 _ _ rfl _ _ _ _ elz24 _ _ _ _ _ _ rfl rfl isn9 isn9 (by omega) (by omega) (by unfold maxLen; omega) ?_; clear hS; intro g9 w hS)
      refine ⟨fun _ h => h, ?_⟩
      refine drawn_move ?_
      go_step
      refine branch [2, 3] kr9 (by simp) (.cons al9 rfl ?_ (.cons al9 rfl ?_ (.nil)))
      rotate_left 1
      focus
       (refine wp_alloc (o := ⟨some 6, _, _, _, _, _⟩) hS 24 rfl (.slice none 0 0) [.slice none 0 0] (fun w => Tryd.zeroValue24 w) rfl ?_; clear hS; intro g6 w hS)
       refine ⟨fun _ h => h, ?_⟩
       refine drawn_move ?_
       go_step
       refine branch1 2 al9 rfl kr9 ?_
       (refine wp_alloc (o := ⟨some 5, _, _, _, _, _⟩) hS 24 rfl (.slice none 0 0) [.slice none 0 0] (fun w => Tryd.zeroValue24 w) rfl ?_; clear hS; intro g5 w hS)
       refine ⟨fun _ h => h, ?_⟩
       refine drawn_move ?_
       go_step
       refine branch1 4 al9 rfl kr9 ?_
       (refine wp_store1 hS 24 _ _ rfl _ _ rfl (one_of rfl) _ _ pl9 _ isv9 (by rfl) (by (repeat (first | with_reducible exact SetAt.head | apply SetAt.tail))) rfl ?_; clear hS; intro w hS)
       refine ⟨fun _ h => h, ?_⟩
       refine branch1 5 al9 rfl kr9 ?_
       (refine wp_store1 hS 24 _ _ rfl _ _ rfl (one_of rfl) _ _ pl9 _ isv9 (by rfl) (by (repeat (first | with_reducible exact SetAt.head | apply SetAt.tail))) rfl ?_; clear hS; intro w hS)
       refine ⟨fun _ h => h, ?_⟩
       refine drawn_done kr9 ?_ _
       exact ⟨rfl, g5, g6, g8, g9, rfl, St.close () (by dsimp only [List.cons_append, List.nil_append]; rw [cnt_nil]; exact hS.sub sb9)⟩
      rotate_right 1
      focus
       (refine wp_alloc (o := ⟨some 5, _, _, _, _, _⟩) hS 24 rfl (.slice none 0 0) [.slice none 0 0] (fun w => Tryd.zeroValue24 w) rfl ?_; clear hS; intro g5 w hS)
       refine ⟨fun _ h => h, ?_⟩
       refine drawn_move ?_
       go_step
       refine branch1 3 al9 rfl kr9 ?_
       (refine wp_alloc (o := ⟨some 6, _, _, _, _, _⟩) hS 24 rfl (.slice none 0 0) [.slice none 0 0] (fun w => Tryd.zeroValue24 w) rfl ?_; clear hS; intro g6 w hS)
       refine ⟨fun _ h => h, ?_⟩
       refine drawn_move ?_
       go_step
       refine branch1 4 al9 rfl kr9 ?_
       (refine wp_store1 hS 24 _ _ rfl _ _ rfl (one_of rfl) _ _ pl9 _ isv9 (by rfl) (by (repeat (first | with_reducible exact SetAt.head | apply SetAt.tail))) rfl ?_; clear hS; intro w hS)
       refine ⟨fun _ h => h, ?_⟩
       refine branch1 5 al9 rfl kr9 ?_
       (refine wp_store1 hS 24 _ _ rfl _ _ rfl (one_of rfl) _ _ pl9 _ isv9 (by rfl) (by (repeat (first | with_reducible exact SetAt.head | apply SetAt.tail))) rfl ?_; clear hS; intro w hS)
       refine ⟨fun _ h => h, ?_⟩
       refine drawn_done kr9 ?_ _
       exact ⟨rfl, g5, g6, g8, g9, rfl, St.close () (by dsimp only [List.cons_append, List.nil_append]; rw [cnt_nil]; exact hS.sub sb9)⟩
 clear hS
 intro g5 g6 g8 g9 w hS
 by_cases hE0 : E = 0
 · subst hE0
   repeat' (first
    | (refine y97 ?_) | ((with_reducible refine gs9 12 ?_); refine wpl_call (f := 34) Tryd.call34 kr9 ?_; refine ⟨_, (cntEach w0 w _ _ g5 g6 g8 g9 ad n c l 0 HE.out hn hv hS Pull.head), ?_⟩; clear hS; rintro e w ⟨rfl, s', hs', hS⟩; obtain rfl := hs' rfl; clear hs'; refine ⟨_, rfl, ?_⟩; refine put_move ?_; go_step) | (refine y91 ?_) | (refine y991 ?_) | ((fail_if_success with_reducible refine ga9 ?_); go_step))
   all_goals (try (have hF : False := (by omega); cases hF))
   obtain ⟨_, hS⟩ := (hS.pull Pull.head).open
   dsimp only [List.cons_append, List.nil_append] at hS
   refine drawn_lit [] (fun w => St w0 w [blk g5 [.slice (some ⟨g8, 0, none⟩) 256 256], blk g6 [.slice (some ⟨g9, 0, none⟩) 256 256]]) kr9 ?_
   replace hS := hS.drew
   focus
    apply takeS 0 al9 kr9 kr9 kr9 hq9 [2, 3, 4] kr9 (hS.sub sb9)
    case hfr => intro w hS; ((refine wl9 ?_; apply wp_load1 hS 24 _ rfl _ _ rfl (one_of rfl) _; (case hp => exact pl9); (case hc => rfl); refine put_move ?_; go_step)); refine wpList_nil ?_; exact ⟨rfl, rfl⟩
    case hd => rfl
    apply takeS 1 al9 kr9 kr9 kr9 hq9 [3, 4] kr9 (hS.sub sb9)
    case hfr => intro w hS; ((refine wl9 ?_; apply wp_load1 hS 24 _ rfl _ _ rfl (one_of rfl) _; (case hp => exact pl9); (case hc => rfl); refine put_move ?_; go_step)); refine wpList_nil ?_; exact ⟨rfl, rfl⟩
    case hd => rfl
    refine takeA 2 _ al9 kr9 kr9 kr9 hq9 rfl ?_
    go_step
    refine takeA 3 _ al9 kr9 kr9 kr9 hq9 rfl ?_
    go_step
    refine takeA 4 _ al9 kr9 kr9 kr9 hq9 rfl ?_
    go_step
    refine drawn_done kr9 ?_ _
   all_goals
    repeat' ((fail_if_success with_reducible refine ga9 ?_); go_step)
    refine ret_all (xs := [_, _, _]) rfl (.cons (OneRes.tmp rfl) (.cons (OneRes.tmp rfl) (.cons (OneRes.tmp rfl) (.nil)))) (by simp) rfl ?_
    exact ⟨fun _ => ⟨g8, g9, rfl, hS.sub sb9⟩, fun h => absurd HE.out h⟩
 · skip
   repeat' (first
    | (refine y97 ?_) | ((with_reducible refine gs9 12 ?_); refine wpl_call (f := 34) Tryd.call34 kr9 ?_; refine ⟨_, (cntEach w0 w _ _ g5 g6 g8 g9 ad n c l E HE.out hn hv hS Pull.head), ?_⟩; clear hS; rintro e w ⟨rfl, s', hs', hS⟩; clear hs'; refine ⟨_, rfl, ?_⟩; refine put_move ?_; go_step) | (refine y91 ?_) | (refine y991 ?_) | ((fail_if_success with_reducible refine ga9 ?_); go_step))
   all_goals (try (have hF : False := (by omega); cases hF))
   refine ret_all (xs := [_, _, _]) rfl (.cons (OneRes.tmp rfl) (.cons (OneRes.tmp rfl) (.cons (OneRes.tmp rfl) (.nil)))) (by simp) rfl ?_
   exact ⟨fun h => absurd (HE.out.symm.trans h) hE0, fun _ => ⟨by rw [HE.out]; rfl, hS.1⟩⟩

set_option maxRecDepth 100000
set_option linter.unusedVariables false
theorem segB_st2 {C1 S1 C2 S2 l : List Int} {n : Nat} (hl : l.length = n * 64) (h : segE C1 S1 C2 S2 l n = 0) :
 ∃ cc : List Nat, (∀ x ∈ cc, x < 256) ∧ segB C1 S1 C2 S2 l n = stf (byI cc) ∧ (segB C1 S1 C2 S2 l n).length ≤ 300000 := by
 have ht : tbE C1 S1 C2 S2 = 0 := by
  unfold segE at h
  by_cases h1 : tbE C1 S1 C2 S2 = 0
  · exact h1
  · rw [if_neg h1] at h; exact absurd h h1
 have hb : blkE l n = 0 := by
  unfold segE at h
  rw [if_pos ht] at h
  by_cases h1 : blkE l n = 0
  · exact h1
  · rw [if_neg h1] at h; exact absurd h h1
 have ht1 : tabE C1 S1 = 0 := by
  unfold tbE at ht
  by_cases h1 : tabE C1 S1 = 0
  · exact h1
  · rw [if_neg h1] at ht; exact absurd ht h1
 have ht2 : tabE C2 S2 = 0 := by unfold tbE at ht; rw [if_pos ht1] at ht; exact ht
 have hlen := segBits_len ht1 ht2 hl (blkE_400 hb)
 have e : segB C1 S1 C2 S2 l n = stf (byI (bytesOf (segBits C1 S1 C2 S2 l n))) := by unfold segB; rw [if_pos h]
 refine ⟨_, bytesOf_lt _, e, ?_⟩
 rw [e, stf_len]
 have h1 := List.count_le_length (a := (255 : Int)) (l := byI (bytesOf (segBits C1 S1 C2 S2 l n)))
 have h2 : (byI (bytesOf (segBits C1 S1 C2 S2 l n))).length = ((segBits C1 S1 C2 S2 l n).length + 7) / 8 := by unfold byI; rw [List.length_map, bytesOf_len]
 omega
theorem segB_nl2 {C1 S1 C2 S2 l : List Int} {n : Nat} (h : segE C1 S1 C2 S2 l n ≠ 0) : segB C1 S1 C2 S2 l n = [] := by unfold segB; rw [if_neg h]
theorem stf_rn2 {l : List Nat} (h : ∀ x ∈ l, x < 256) : ∀ x ∈ stf (byI l), 0 ≤ x ∧ x < 256 := by
 intro x hx
 unfold stf rep1 at hx
 obtain ⟨y, hy, hx⟩ := List.mem_flatMap.1 hx
 split at hx
 · simp at hx
   rcases hx with rfl | rfl <;> omega
 · simp at hx
   subst hx
   obtain ⟨z, hz, rfl⟩ := List.mem_map.1 hy
   have := h z hz
   omega
theorem spnA_in2 (n every : Nat) : ∀ f at_, ∀ x ∈ spnA n every f at_, x.1 ≤ x.2 ∧ x.2 ≤ n
 | 0, _, x, hx => by simp [spnA] at hx
 | f + 1, at_, x, hx => by
  unfold spnA at hx
  by_cases h0 : at_ < n
  · rw [if_pos h0] at hx
    rcases List.mem_cons.1 hx with rfl | hx
    · dsimp only; omega
    · exact spnA_in2 n every f _ x hx
  · rw [if_neg h0] at hx; cases hx
theorem spn_in2 (n every : Nat) : ∀ x ∈ spn n every, x.1 ≤ x.2 ∧ x.2 ≤ n := by
 intro x hx
 unfold spn at hx
 by_cases h : every = 0 ∨ n = 0
 · rw [if_pos h] at hx; simp at hx; subst hx; dsimp only; omega
 · rw [if_neg h] at hx; exact spnA_in2 n every n 0 x hx
theorem spnA_len2 (n every : Nat) (h : 0 < every) : ∀ f at_, (spnA n every f at_).length ≤ n - at_
 | 0, _ => by simp [spnA]
 | f + 1, at_ => by
  unfold spnA
  by_cases h0 : at_ < n
  · rw [if_pos h0, List.length_cons]
    have := spnA_len2 n every h f (at_ + every)
    omega
  · rw [if_neg h0]; simp
theorem spn_len2 (n every : Nat) : (spn n every).length ≤ n + 1 := by
 unfold spn
 by_cases h : every = 0 ∨ n = 0
 · rw [if_pos h]; simp
 · rw [if_neg h]
   have := spnA_len2 n every (by omega) n 0
   omega
def sub64 (l : List Int) (f t : Nat) : List Int := (l.drop (f * 64)).take ((t - f) * 64)
def enl (C1 S1 C2 S2 l : List Int) : List (Nat × Nat) → Nat → Int × List Int
 | [], _ => (0, [])
 | x :: L, k => if segE C1 S1 C2 S2 (sub64 l x.1 x.2) (x.2 - x.1) ≠ 0 then (segE C1 S1 C2 S2 (sub64 l x.1 x.2) (x.2 - x.1), []) else
  ((enl C1 S1 C2 S2 l L (k + 1)).1, (if k = 0 then [] else [255, ((208 + (k - 1) % 8 : Nat) : Int)]) ++ (segB C1 S1 C2 S2 (sub64 l x.1 x.2) (x.2 - x.1) ++ (enl C1 S1 C2 S2 l L (k + 1)).2))
def scEn (C1 S1 C2 S2 l : List Int) (n : Nat) (every : Int) : Int × List Int :=
 if 0 ≤ every ∧ every ≤ 100 then if tbE C1 S1 C2 S2 = 0 then if blkE l n = 0 then
  if (enl C1 S1 C2 S2 l (spn n every.toNat) 0).1 = 0 then enl C1 S1 C2 S2 l (spn n every.toNat) 0 else ((enl C1 S1 C2 S2 l (spn n every.toNat) 0).1, [])
 else (blkE l n, []) else (tbE C1 S1 C2 S2, []) else (1, [])
structure Veil6 (p : Prop) : Prop where
 out : p
set_option maxHeartbeats 8000000 in
theorem scanEncode_any (w0 : World) (C1 C2 S1 S2 : List Int) (a1 a2 : Option Addr) (n1 n2 k1 k2 : Nat) (hC1 : Len C1 16) (hC2 : Len C2 16) (hs1 : Sl w0 1 (.slice a1 n1 k1) n1 (S1.map (Value.int .i64))) (hs2 : Sl w0 1 (.slice a2 n2 k2) n2 (S2.map (Value.int .i64))) (hn1 : n1 ≤ 9223372036854775807) (hn2 : n2 ≤ 9223372036854775807) (ad : Option Addr) (n c : Nat) (l : List Int) (hn : n ≤ 9223372036854775807) (hv : Sl w0 64 (.slice ad n c) n (l.map (Value.int .i64))) (every : Int) :
 Calls Tryd.prog 28 #[.agg (pcells [.ints C1, .val (.slice a1 n1 k1), .ints C2, .val (.slice a2 n2 k2)]).toArray, .slice ad n c, .int .i64 every] w0 (SegEnc w0 (scEn C1 S1 C2 S2 l n every).1 (scEn C1 S1 C2 S2 l n every).2) := by
 have hl : l.length = n * 64 := by have := hv.1; simpa using this
 have hnc : n ≤ c := by
  obtain ⟨_, a', c', e, h1, _⟩ := hv
  cases e; exact h1
 have HLl := hid hl
 have hS := St.start w0
 have hL1 := hid (tabLen2 C1 (.slice a1 n1 k1) hC1)
 have hL2 := hid (tabLen2 C2 (.slice a2 n2 k2) hC2)
 obtain ⟨E1, hE1⟩ : ∃ x, tabE C1 S1 = x := ⟨_, rfl⟩
 obtain ⟨E2, hE2⟩ : ∃ x, tabE C2 S2 = x := ⟨_, rfl⟩
 have HE1 := hid hE1
 have HE2 := hid hE2
 have HT := hid (show tbE C1 S1 C2 S2 = if E1 = 0 then E2 else E1 by unfold tbE; rw [hE1, hE2])
 clear hE1 hE2 hl
 by_cases hev : 0 ≤ every ∧ every ≤ 100
 case neg =>
  have HP := hid (show scEn C1 S1 C2 S2 l n every = (1, []) by unfold scEn; rw [if_neg hev])
  have hbad : every < 0 ∨ 100 < every := by omega
  clear hev
  rcases hbad with h | h
  all_goals
   go_enter Tryd.func28, Tryd.ntmps28
   repeat' (first
    | go_skip | ((first | (with_reducible refine mv9 ?_) | (with_reducible refine as9 ?_)); (first | go_big_want | go_step); go_step) | ((with_reducible refine gt9 _ (.pick _ _ _) ?_); first | (refine wplPickT rfl kr9 ?_; go_step) | (refine wplPickF rfl kr9 ?_; go_step)) | ((with_reducible refine gs9 20 ?_); (refine wplD _ (V.lss rfl rfl) kr9 (fun hB => ?_) (fun hB => ?_) <;> (try (have hF : False := (by omega); cases hF)) <;> go_step)) | ((with_reducible refine gt9 _ (.binOp .gtr _ _ _ _) ?_); (refine wvv9 (V.gtr rfl rfl) ?_; go_step)) | ((with_reducible refine gs9 3 ?_); (refine wl9 ?_; apply wp_boxP (o := ⟨some 3, _, _, _, _, _⟩) hS 33 _ rfl _ rfl; clear hS; intro g3 w hS; refine put_move ?_; go_step)) | ((fail_if_success with_reducible refine ga9 ?_); go_step))
   all_goals (try (have hF : False := (by omega); cases hF))
   all_goals
    refine ret_all (xs := [_, _]) rfl (.cons (OneRes.tmp rfl) (.cons (OneRes.tmp rfl) (.nil))) (by simp) rfl ?_
    exact enc_err 1 (by rw [HP.out]) (by rw [HP.out]) hS.1
 obtain ⟨Ev, rfl⟩ : ∃ N : Nat, every = (N : Int) := ⟨every.toNat, by omega⟩
 have HP := hid (show scEn C1 S1 C2 S2 l n Ev = if tbE C1 S1 C2 S2 = 0 then if blkE l n = 0 then if (enl C1 S1 C2 S2 l (spn n Ev) 0).1 = 0 then enl C1 S1 C2 S2 l (spn n Ev) 0 else ((enl C1 S1 C2 S2 l (spn n Ev) 0).1, []) else (blkE l n, []) else (tbE C1 S1 C2 S2, []) by unfold scEn; rw [if_pos hev, Int.toNat_natCast])
 go_enter Tryd.func28, Tryd.ntmps28
 repeat' (first
  | (refine y91 ?_) | (refine y9139 ?_) | ((with_reducible refine gs9 20 ?_); (refine wplD _ (V.lss rfl rfl) kr9 (fun hB => ?_) (fun hB => ?_) <;> (try (have hF : False := (by omega); cases hF)) <;> go_step)) | (refine y988 ?_) | ((with_reducible refine gs9 3 ?_); (refine wl9 ?_; apply wp_boxP (o := ⟨some 3, _, _, _, _, _⟩) hS 33 _ rfl _ rfl; clear hS; intro g3 w hS; refine put_move ?_; go_step)) | ((fail_if_success with_reducible refine ga9 ?_); go_step))
 all_goals (try (have hF : False := (by omega); cases hF))
 repeat' (first
  | ((with_reducible refine gs9 29 ?_); refine wl9 ?_; refine wp_buildSlice1 (o := ⟨some 29, _, _, _, _, _⟩) hS 106 2 _ rfl 31 17 152 el106 _ _ (Parts.agg rfl hL1.out (Parts.agg rfl hL2.out Parts.nil)) rfl (by decide) (by decide) ?_; clear hS; intro g29 w hS; replace hS := st_tabs3 hS; refine put_move ?_; go_step) | (refine y9146 ?_) | (refine y9108 ?_) | (refine y9109 ?_) | (refine y997 ?_) | (refine y9126 ?_) | ((fail_if_success with_reducible refine ga9 ?_); go_step))
 clear hL1 hL2
 go_loopg [31] 2 (fun gk kv w => ∃ k : Nat, gk + k = 2 ∧ kv = .int .i64 k ∧ (1 ≤ k → E1 = 0) ∧ (2 ≤ k → E2 = 0) ∧ St w0 w [prt g3 [.ints C1, .val (.slice a1 n1 k1), .ints C2, .val (.slice a2 n2 k2)], prt g29 [.ints C1, .val (.slice a1 n1 k1), .ints C2, .val (.slice a2 n2 k2)]])
 case atStart => exact ⟨0, rfl, rfl, fun h => absurd h (by omega), fun h => absurd h (by omega), hS.sub sb9⟩
 case round =>
  clear hS
  obtain ⟨k, hk, rfl, HA, HB, hS⟩ := hrel
  by_cases hlt : k < 2
  · obtain rfl | rfl : k = 0 ∨ k = 1 := by omega
    · clear HA HB
      repeat' (first
       | ((with_reducible refine gt9 _ (.call ⟨.value (.func 52), _, _⟩) ?_); refine wpl_call (f := 52) Tryd.call52 kr9 ?_; refine ⟨_, (check_any _ C1 S1 a1 n1 k1 hC1 (hs1.ext hS.1) hn1), ?_⟩; rintro e w ⟨rfl, hE2⟩; rw [HE1.out]; replace hS := hS.ext hE2; clear hE2; refine ⟨_, rfl, ?_⟩; refine put_move ?_; go_step) | (refine y91 ?_) | (refine y990 ?_) | (refine y957 ?_) | (refine y991 ?_) | (refine y985 ?_) | (refine y9126 ?_) | ((with_reducible refine gs9 9 ?_); (refine wl9 ?_; apply wp_allocP (o := ⟨some 9, _, _, _, _, _⟩) hS 31 rfl _ zp31; clear hS; intro g9 w hS; refine put_move ?_; go_step)) | ((with_reducible refine gt9 _ (.store 31 _ _) ?_); (refine wl9 ?_; apply wp_storePP hS 31 _ _ rfl _ rfl 17 (row_of rfl) _ _; (case hp => exact pl9); (case hy => rfl); (case hn => (repeat (first | exact Pre.nil | (apply Pre.ints; (case hn => (first | (with_reducible assumption) | exact Len.rep | exact Len.set (by with_reducible assumption) | exact Len.set Len.rep | exact Len.set (Len.set Len.rep))); (case h => omega); (case hm => rfl)) | apply Pre.val))); (case hn' => (repeat (first | exact Pre.nil | (apply Pre.ints; (case hn => (first | (with_reducible assumption) | exact Len.rep | exact Len.set (by with_reducible assumption) | exact Len.set Len.rep | exact Len.set (Len.set Len.rep))); (case h => omega); (case hm => rfl)) | apply Pre.val))); (case hv => rfl); (case hd => exact rfl); clear hS; intro w hS)) | ((fail_if_success with_reducible refine ga9 ?_); go_step))
      · skip
        have h9 : scEn C1 S1 C2 S2 l n Ev = (E1, []) := by rw [HP.out, HT.out, if_neg (show ¬ E1 = 0 by omega), if_neg (by omega)]
        refine ret_all (xs := [_, _]) rfl (.cons (OneRes.tmp rfl) (.cons (OneRes.tmp rfl) (.nil))) (by simp) rfl ?_
        exact enc_err E1 (by rw [h9]) (by rw [h9]) hS.1
      · go_roundg (gk - 1)
        case measure => omega
        case rel => exact ⟨1, by omega, rfl, fun _ => by omega, fun h => absurd h (by omega), hS.sub sb9⟩
    · have h1 := HA (by omega)
      subst h1
      clear HA HB
      repeat' (first
       | ((with_reducible refine gt9 _ (.call ⟨.value (.func 52), _, _⟩) ?_); refine wpl_call (f := 52) Tryd.call52 kr9 ?_; refine ⟨_, (check_any _ C2 S2 a2 n2 k2 hC2 (hs2.ext hS.1) hn2), ?_⟩; rintro e w ⟨rfl, hE2⟩; rw [HE2.out]; replace hS := hS.ext hE2; clear hE2; refine ⟨_, rfl, ?_⟩; refine put_move ?_; go_step) | (refine y91 ?_) | (refine y990 ?_) | (refine y957 ?_) | (refine y991 ?_) | (refine y985 ?_) | (refine y9126 ?_) | ((with_reducible refine gs9 9 ?_); (refine wl9 ?_; apply wp_allocP (o := ⟨some 9, _, _, _, _, _⟩) hS 31 rfl _ zp31; clear hS; intro g9 w hS; refine put_move ?_; go_step)) | ((with_reducible refine gt9 _ (.store 31 _ _) ?_); (refine wl9 ?_; apply wp_storePP hS 31 _ _ rfl _ rfl 17 (row_of rfl) _ _; (case hp => exact pl9); (case hy => rfl); (case hn => (repeat (first | exact Pre.nil | (apply Pre.ints; (case hn => (first | (with_reducible assumption) | exact Len.rep | exact Len.set (by with_reducible assumption) | exact Len.set Len.rep | exact Len.set (Len.set Len.rep))); (case h => omega); (case hm => rfl)) | apply Pre.val))); (case hn' => (repeat (first | exact Pre.nil | (apply Pre.ints; (case hn => (first | (with_reducible assumption) | exact Len.rep | exact Len.set (by with_reducible assumption) | exact Len.set Len.rep | exact Len.set (Len.set Len.rep))); (case h => omega); (case hm => rfl)) | apply Pre.val))); (case hv => rfl); (case hd => exact rfl); clear hS; intro w hS)) | ((fail_if_success with_reducible refine ga9 ?_); go_step))
      · skip
        have h9 : scEn C1 S1 C2 S2 l n Ev = (E2, []) := by rw [HP.out, HT.out, if_pos rfl, if_neg (by omega)]
        refine ret_all (xs := [_, _]) rfl (.cons (OneRes.tmp rfl) (.cons (OneRes.tmp rfl) (.nil))) (by simp) rfl ?_
        exact enc_err E2 (by rw [h9]) (by rw [h9]) hS.1
      · go_roundg (gk - 1)
        case measure => omega
        case rel => exact ⟨2, by omega, rfl, fun _ => rfl, fun _ => by omega, hS.sub sb9⟩
  · obtain rfl : k = 2 := by omega
    have h1 := HA (by omega)
    have h2 := HB (by omega)
    subst h1; subst h2
    clear HA HB
    have HP2 := hid (show scEn C1 S1 C2 S2 l n Ev = if blkE l n = 0 then if (enl C1 S1 C2 S2 l (spn n Ev) 0).1 = 0 then enl C1 S1 C2 S2 l (spn n Ev) 0 else ((enl C1 S1 C2 S2 l (spn n Ev) 0).1, []) else (blkE l n, []) by rw [HP.out, HT.out, if_pos rfl, if_pos rfl])
    clear HP
    by_cases hbk : blkE l n = 0
    case neg =>
     obtain ⟨E, hE⟩ : ∃ E, blkE l n = E := ⟨_, rfl⟩
     have h0 : E ≠ 0 := by rw [← hE]; exact hbk
     have HE := hid hE
     have HP3 := hid (show scEn C1 S1 C2 S2 l n Ev = (E, []) by rw [HP2.out, if_neg hbk, hE])
     clear hbk hE
     repeat' (first
      | (refine y9146 ?_) | (refine y990 ?_) | ((fail_if_success with_reducible refine ga9 ?_); go_step))
     repeat' (first
      | ((with_reducible refine gs9 43 ?_); refine wpl_call (f := 16) Tryd.call16 kr9 ?_; refine ⟨_, (segCounts_any _ ad n c l hn (hv.ext hS.1)), ?_⟩; rintro e w ⟨_, hq⟩; rw [HE.out] at hq; obtain ⟨rfl, hE2⟩ := hq h0; clear hq; replace hS := hS.ext hE2; clear hE2; refine ⟨_, rfl, ?_⟩; refine put_move ?_; go_step) | (refine y91 ?_) | (refine y9105 ?_) | (refine y991 ?_) | ((fail_if_success with_reducible refine ga9 ?_); go_step))
     all_goals (try (have hF : False := (by omega); cases hF))
     refine ret_all (xs := [_, _]) rfl (.cons (OneRes.tmp rfl) (.cons (OneRes.tmp rfl) (.nil))) (by simp) rfl ?_
     exact enc_err E (by rw [HP3.out]) (by rw [HP3.out]) hS.1
    have HBK := hid hbk
    have hn4 := blkE_400 hbk
    obtain ⟨M, hM⟩ : ∃ M, (spn n Ev).length = M := ⟨_, rfl⟩
    have hM4 : M ≤ 401 := by rw [← hM]; have := spn_len2 n Ev; omega
    have HM := hid hM
    obtain ⟨D, hD⟩ : ∃ D, enl C1 S1 C2 S2 l (spn n Ev) 0 = D := ⟨_, rfl⟩
    have HP3 := hid (show scEn C1 S1 C2 S2 l n Ev = if D.1 = 0 then D else (D.1, []) by rw [HP2.out, if_pos hbk, hD])
    have HD := hid hD
    clear hbk hD hM HP2
    repeat' (first
     | (refine y9146 ?_) | (refine y990 ?_) | ((fail_if_success with_reducible refine ga9 ?_); go_step))
    repeat' (first
     | ((with_reducible refine gs9 43 ?_); refine wpl_call (f := 16) Tryd.call16 kr9 ?_; refine ⟨_, (segCounts_any _ ad n c l hn (hv.ext hS.1)), ?_⟩; rintro e w ⟨hq, _⟩; obtain ⟨g1, g2, rfl, hS2⟩ := hq HBK.out; clear hq; replace hS := hS.ext hS2.1; clear hS2; refine ⟨_, rfl, ?_⟩; refine put_move ?_; go_step) | (refine y91 ?_) | (refine y9105 ?_) | (refine y991 ?_) | ((fail_if_success with_reducible refine ga9 ?_); go_step))
    all_goals (try (have hF : False := (by omega); cases hF))
    repeat' (first
     | ((with_reducible refine gs9 53 ?_); refine wpl_call (f := 53) Tryd.call53 kr9 ?_; refine ⟨_, (spans_any _ n Ev (by omega) (by omega)), ?_⟩; rintro e w ⟨a3, c3, m3, hm3, rfl, hS2⟩; obtain rfl : M = m3 := (by rw [← hm3]; exact HM.out.symm); clear hm3; replace hS := hS.call1 hS2; clear hS2; refine ⟨_, rfl, ?_⟩; refine put_move ?_; go_step) | (refine y9146 ?_) | (refine y999 ?_) | (refine y998 ?_) | ((fail_if_success with_reducible refine ga9 ?_); go_step))
    replace hS := hS.nilk 5 1 .u8
    clear hk
    go_loopg [14, 55] M (fun gk ov kv w => ∃ (k m : Nat) (acc : List Int) (ao : Option Addr) (co : Nat), gk + k = M ∧ kv = .int .i64 k ∧ ov = .slice ao m co ∧ m ≤ 300002 * k ∧ Hid (acc.length = m) ∧ Veil6 (D = ((enl C1 S1 C2 S2 l ((spn n Ev).drop k) k).1, acc ++ (enl C1 S1 C2 S2 l ((spn n Ev).drop k) k).2)) ∧ St w0 w [own 5 1 ao m co (acc.map (Value.int .u8)), prt g3 [.ints C1, .val (.slice a1 n1 k1), .ints C2, .val (.slice a2 n2 k2)], own 111 2 a3 M c3 ((sfl (spn n Ev)).map (Value.int .i64))])
    case atStart => exact ⟨0, 0, [], none, 0, by omega, rfl, rfl, by omega, hid rfl, ⟨by rw [← HD.out]; rfl⟩, hS.sub sb9⟩
    case round =>
     clear hS
     obtain ⟨k, m, acc, ao, co, hk, rfl, rfl, hm4, HQ, HV, hS⟩ := hrel
     by_cases hlt : k < M
     · obtain ⟨⟨f, t⟩, hx⟩ : ∃ x, (spn n Ev)[k]? = some x := ⟨_, List.getElem?_eq_getElem (by rw [HM.out]; exact hlt)⟩
       have hft := spn_in2 n Ev _ (List.mem_of_getElem? hx)
       dsimp only at hft
       have hseg := sfl_get (spn n Ev) k _ hx
       dsimp only at hseg
       have hd1 : (spn n Ev).drop k = (f, t) :: (spn n Ev).drop (k + 1) := by
        rw [List.drop_eq_getElem_cons (by rw [HM.out]; exact hlt)]
        rw [List.getElem?_eq_getElem (by rw [HM.out]; exact hlt)] at hx
        rw [Option.some.inj hx]
       obtain ⟨E, hE⟩ : ∃ E, segE C1 S1 C2 S2 (sub64 l f t) (t - f) = E := ⟨_, rfl⟩
       obtain ⟨B, hB⟩ : ∃ B, segB C1 S1 C2 S2 (sub64 l f t) (t - f) = B := ⟨_, rfl⟩
       have hsl : (sub64 l f t).length = (t - f) * 64 := by
        unfold sub64
        rw [List.length_take, List.length_drop, HLl.out]
        have h1 : (t - f) * 64 ≤ n * 64 - f * 64 := by rw [← Nat.sub_mul]; exact Nat.mul_le_mul_right 64 (by omega)
        omega
       have hBl : B.length ≤ 300000 := by
        by_cases h : segE C1 S1 C2 S2 (sub64 l f t) (t - f) = 0
        · obtain ⟨_, _, _, h3⟩ := segB_st2 hsl h; rw [← hB]; exact h3
        · rw [← hB, segB_nl2 h]; simp
       have hcc := hv.cutAt f t hft.1 hft.2
       rw [show ((l.map (Value.int .i64)).drop (f * 64)).take ((t - f) * 64) = (sub64 l f t).map (Value.int .i64) by unfold sub64; simp] at hcc
       have hstep : Veil6 (enl C1 S1 C2 S2 l ((spn n Ev).drop k) k = if E ≠ 0 then (E, []) else ((enl C1 S1 C2 S2 l ((spn n Ev).drop (k + 1)) (k + 1)).1, (if k = 0 then [] else [255, ((208 + (k - 1) % 8 : Nat) : Int)]) ++ (B ++ (enl C1 S1 C2 S2 l ((spn n Ev).drop (k + 1)) (k + 1)).2))) := ⟨by rw [hd1, enl]; simp only [hE, hB]⟩
       have HE := hid hE
       have HB := hid hB
       obtain ⟨mB, hmB⟩ : ∃ x, B.length = x := ⟨_, rfl⟩
       rw [hmB] at hBl
       have HMB := hid hmB
       obtain ⟨g5, rfl⟩ := own_some (a := a3) hS pl9 (by omega)
       clear hx hd1 hE hB hsl hmB
       by_cases hk0 : k = 0
       · obtain ⟨acc1, hA1⟩ : ∃ a, acc ++ (if k = 0 then [] else [255, ((208 + (k - 1) % 8 : Nat) : Int)]) = a := ⟨_, rfl⟩
         have hA2 : acc = acc1 := by rw [← hA1, if_pos hk0, List.append_nil]
         have HA1 := hid hA1
         have HL1 := hid (show acc1.length = m by rw [← hA2]; exact HQ.out)
         repeat' (first
          | (refine y91 ?_) | (refine y990 ?_) | (refine y978 ?_) | (refine y988 ?_) | (refine y9114 ?_) | ((with_reducible refine gs9 16 ?_); (refine wl9 ?_; apply wp_alloc (o := ⟨some 16, _, _, _, _, _⟩) hS 111 rfl (.agg #[.int .i64 0, .int .i64 0]) [.int .i64 0, .int .i64 0] (fun w => Tryd.zeroValue111 w) rfl; clear hS; intro g16 w hS; refine put_move ?_; go_step)) | ((with_reducible refine gt9 _ (.store 111 _ _) ?_); (refine wl9 ?_; apply wp_storeG hS 111 _ _ rfl _ rfl 2 (row_of rfl) _ _; (case hp => exact pl9); (case hy => rfl); (case hn => rfl); (case hn' => rfl); (case hv => rfl); (case hd => exact rfl); clear hS; intro w hS)) | ((fail_if_success with_reducible refine ga9 ?_); go_step))
         all_goals (try (have hF : False := (by omega); cases hF))
         replace hS : St w0 w [blk g16 [.int .i64 (f : Nat), .int .i64 (t : Nat)], own 5 1 ao m co (acc.map (Value.int .u8)), prt g3 [.ints C1, .val (.slice a1 n1 k1), .ints C2, .val (.slice a2 n2 k2)], own 111 2 (some ⟨g5, 0, none⟩) M c3 ((sfl (spn n Ev)).map (Value.int .i64))] := hS
         rw [hA2] at hS
         clear hA1 hA2
         refine drawn_lit [7] (fun w => St w0 w [prt g3 [.ints C1, .val (.slice a1 n1 k1), .ints C2, .val (.slice a2 n2 k2)], blk g16 [.int .i64 (f : Nat), .int .i64 (t : Nat)]]) kr9 ?_
         replace hS := hS.drew
         focus
          apply takeS 0 al9 kr9 kr9 kr9 hq9 [7, 8, 9, 10, 11, 12] kr9 (hS.sub sb9)
          case hfr => intro w hS; ((refine wl9 ?_; apply wp_loadPP hS 33 _ rfl _ _ rfl 34 (row_of rfl) _; (case hp => exact pl9); (case hi => (repeat (first | (apply AtP.head; (repeat (first | exact Pre.nil | (apply Pre.ints; (case hn => (first | (with_reducible assumption) | exact Len.rep | exact Len.set (by with_reducible assumption) | exact Len.set Len.rep | exact Len.set (Len.set Len.rep))); (case h => omega); (case hm => rfl)) | apply Pre.val))) | (apply AtP.skipI; (case hn => (first | (with_reducible assumption) | exact Len.rep | exact Len.set (by with_reducible assumption) | exact Len.set Len.rep | exact Len.set (Len.set Len.rep))); (case h => omega); (case ho => rfl)) | apply AtP.skipV))); refine put_move ?_; go_step)); refine wpList_nil ?_; exact ⟨rfl, rfl⟩
          case hd => rfl
          refine takeM 1 _ al9 kr9 kr9 kr9 hq9 rfl ?_
          go_step
          (refine takeV 2 _ al9 kr9 kr9 kr9 hq9 (V.fieldAddr fo111_0 rfl nq9) rfl ?_)
          go_step
          apply takeS 3 al9 kr9 kr9 kr9 hq9 [6, 7, 8, 9, 10, 11, 12] kr9 (hS.sub sb9)
          case hfr => intro w hS; ((refine wl9 ?_; apply wp_load1 hS 3 _ rfl _ _ rfl (one_of rfl) _; (case hp => exact pl9); (case hc => rfl); refine put_move ?_; go_step)); refine wpList_nil ?_; exact ⟨rfl, rfl⟩
          case hd => rfl
          (refine takeV 4 _ al9 kr9 kr9 kr9 hq9 (V.fieldAddr fo111_1 rfl nq9) rfl ?_)
          go_step
          apply takeS 5 al9 kr9 kr9 kr9 hq9 [6, 7, 8, 9, 10, 11, 12] kr9 (hS.sub sb9)
          case hfr => intro w hS; ((refine wl9 ?_; apply wp_load1 hS 3 _ rfl _ _ rfl (one_of rfl) _; (case hp => exact pl9); (case hc => rfl); refine put_move ?_; go_step)); refine wpList_nil ?_; exact ⟨rfl, rfl⟩
          case hd => rfl
          (refine takeV 6 _ al9 kr9 kr9 kr9 hq9 (V.slice Tryd.underlying22 isz52 rfl (by (first | exact Lo.none | exact Lo.some rfl isn9)) (by (first | exact Up.none | exact Up.some rfl isn9)) (by omega) (by omega)) rfl ?_)
          go_step
          refine branch1 7 al9 rfl kr9 ?_
          refine wp_callF (f := 18) rfl Tryd.call18 (segEncode_any _ C1 C2 S1 S2 a1 a2 n1 n2 k1 k2 hC1 hC2 (hs1.ext hS.1) (hs2.ext hS.1) hn1 hn2 (cutAt ad c f 64) (t - f) (c - f) (sub64 l f t) (by omega) (hcc.ext hS.1)) ?_; rintro e w ⟨ap, cp, mp, hmp, rfl, hS2⟩; rw [HB.out] at hS2; rw [HB.out, HMB.out] at hmp; subst hmp; rw [HE.out]; replace hS := hS.call1 hS2; clear hS2; refine ⟨_, rfl, ?_⟩
          refine ⟨fun h => absurd (by decide) h, ?_⟩
          refine drawn_move ?_
          go_step
          refine takeM 8 _ al9 kr9 kr9 kr9 hq9 rfl ?_
          go_step
          (refine takeV 9 _ al9 kr9 kr9 kr9 hq9 (V.extract rfl rfl) rfl ?_)
          go_step
          (refine takeV 10 _ al9 kr9 kr9 kr9 hq9 (V.extract rfl rfl) rfl ?_)
          go_step
          refine takeA 11 _ al9 kr9 kr9 kr9 hq9 rfl ?_
          go_step
          refine takeA 12 _ al9 kr9 kr9 kr9 hq9 rfl ?_
          go_step
          refine drawn_done kr9 ?_ _
         all_goals
          repeat' ((fail_if_success with_reducible refine ga9 ?_); go_step)
          by_cases hE0 : E = 0
          case neg =>
           have hD1 : Veil6 (D = (E, acc)) := ⟨by rw [HV.out, hstep.out, if_pos hE0]; simp⟩
           have HS1 := hid (show scEn C1 S1 C2 S2 l n Ev = (E, []) by rw [HP3.out, hD1.out, if_neg hE0])
           clear HV hstep hD1
           repeat' (first
            | (refine y91 ?_) | (refine y991 ?_) | ((fail_if_success with_reducible refine ga9 ?_); go_step))
           all_goals (try (have hF : False := (by omega); cases hF))
           refine ret_all (xs := [_, _]) rfl (.cons (OneRes.tmp rfl) (.cons (OneRes.tmp rfl) (.nil))) (by simp) rfl ?_
           exact enc_err E (by rw [HS1.out]) (by rw [HS1.out]) hS.1
          have hD2 : enl C1 S1 C2 S2 l ((spn n Ev).drop k) k = ((enl C1 S1 C2 S2 l ((spn n Ev).drop (k + 1)) (k + 1)).1, (if k = 0 then [] else [255, ((208 + (k - 1) % 8 : Nat) : Int)]) ++ (B ++ (enl C1 S1 C2 S2 l ((spn n Ev).drop (k + 1)) (k + 1)).2)) := by rw [hstep.out, if_neg (by simpa using hE0)]
          have HV2 : Veil6 (D = ((enl C1 S1 C2 S2 l ((spn n Ev).drop (k + 1)) (k + 1)).1, (acc1 ++ B) ++ (enl C1 S1 C2 S2 l ((spn n Ev).drop (k + 1)) (k + 1)).2)) := ⟨by rw [HV.out, hD2, ← HA1.out, List.append_assoc, List.append_assoc]⟩
          clear HV hstep hD2
          subst hE0
          repeat' (first
           | (refine y9146 ?_) | (refine y991 ?_) | ((fail_if_success with_reducible refine ga9 ?_); go_step))
          all_goals (try (have hF : False := (by omega); cases hF))
          repeat' (first
           | (refine y91 ?_) | (refine y985 ?_) | ((with_reducible refine gs9 85 ?_); (refine wl9 ?_; apply wp_append (o := ⟨some 85, _, _, _, _, _⟩) hS _ _ 34 rfl 5 1 1 el34 _ _ _ _ rfl; (case hp => exact pl9); (case hx => exact rfl); (case hm => (first | exact hS.slBlk pl9 (by rfl) (by decide) | exact hS.sl pl9 | with_reducible assumption | exact Sl.ext (by with_reducible assumption) hS.1 | exact Sl.nil _ _ | exact Sl.ext (by assumption) hS.1 | assumption)); (case h1 => (first | exact oneAll rfl | exact oneMap _ _ | (intro u hu; cases hu))); (case h63 => unfold maxLen; omega); (case hb => omega); clear hS; intro ad85 c85 w hS; (first | simp only [mapk1] at hS | simp only [mapk2] at hS | simp only [mapk3] at hS | simp only [mapk4] at hS | simp only [mapkl] at hS | skip); refine put_move ?_; go_step)) | ((fail_if_success with_reducible refine ga9 ?_); go_step))
          go_roundg (gk - 1)
          case measure => omega
          case rel => exact ⟨k + 1, _, acc1 ++ B, _, _, by omega, by go_num, rfl, by omega, hid (by rw [List.length_append, HL1.out, HMB.out]), HV2, hS.sub sb9⟩
       · obtain ⟨r, hr⟩ : ∃ r, 208 + (k - 1) % 8 = r := ⟨_, rfl⟩
         have HR := hid hr
         obtain ⟨acc1, hA1⟩ : ∃ a, acc ++ (if k = 0 then [] else [255, ((208 + (k - 1) % 8 : Nat) : Int)]) = a := ⟨_, rfl⟩
         have hA2 : acc ++ [255, (r : Int)] = acc1 := by rw [← hA1, if_neg hk0, hr]
         have HA1 := hid hA1
         have HL1 := hid (show acc1.length = m + 2 by rw [← hA2, List.length_append, HQ.out]; rfl)
         clear hA1
         repeat' (first
          | ((with_reducible refine gs9 64 ?_); (refine wplV (.int _ (((k - 1 : Nat) : Int))) (V.as (V.subI rfl rfl (by omega)) (by omega)) rfl ?_; go_step)) | ((with_reducible refine gs9 65 ?_); refine wpl_call (f := 54) Tryd.call54 kr9 ?_; refine ⟨_, (mark_any _ (k - 1) (by omega)), ?_⟩; rintro e w ⟨rfl, hE2⟩; rw [HR.out]; replace hS := hS.ext hE2; clear hE2; refine ⟨_, rfl, ?_⟩; refine put_move ?_; go_step) | (refine y91 ?_) | (refine y990 ?_) | (refine y978 ?_) | (refine y988 ?_) | ((with_reducible refine gt9 _ (.convert 3 5 _) ?_); (refine wvv9 (V.convI (by rw [Tryd.underlying3]; rfl) Tryd.underlying5 rfl (IntWalk.u8_in _ (by omega))) ?_; go_step)) | (refine y9114 ?_) | ((with_reducible refine gs9 16 ?_); (refine wl9 ?_; apply wp_alloc (o := ⟨some 16, _, _, _, _, _⟩) hS 111 rfl (.agg #[.int .i64 0, .int .i64 0]) [.int .i64 0, .int .i64 0] (fun w => Tryd.zeroValue111 w) rfl; clear hS; intro g16 w hS; refine put_move ?_; go_step)) | ((with_reducible refine gt9 _ (.store 111 _ _) ?_); (refine wl9 ?_; apply wp_storeG hS 111 _ _ rfl _ rfl 2 (row_of rfl) _ _; (case hp => exact pl9); (case hy => rfl); (case hn => rfl); (case hn' => rfl); (case hv => rfl); (case hd => exact rfl); clear hS; intro w hS)) | ((with_reducible refine gs9 67 ?_); (refine wl9 ?_; apply wp_buildSlice1 (o := ⟨some 67, _, _, _, _, _⟩) hS 34 2 _ rfl 5 1 1 el34 _ _; (case hvs => (repeat (first | exact Parts.nil | (apply Parts.agg; (rfl); (rfl)) | (apply Parts.one; exact isv9; (rfl); (rfl))))); (case hn => rfl); (case hn0 => decide); (case hns => decide); clear hS; intro g67 w hS; refine put_move ?_; go_step)) | ((with_reducible refine gs9 68 ?_); (refine wl9 ?_; apply wp_append (o := ⟨some 68, _, _, _, _, _⟩) hS _ _ 34 rfl 5 1 1 el34 _ _ _ _ rfl; (case hp => exact pl9); (case hx => exact rfl); (case hm => (first | exact hS.slBlk pl9 (by rfl) (by decide) | exact hS.sl pl9 | with_reducible assumption | exact Sl.ext (by with_reducible assumption) hS.1 | exact Sl.nil _ _ | exact Sl.ext (by assumption) hS.1 | assumption)); (case h1 => (first | exact oneAll rfl | exact oneMap _ _ | (intro u hu; cases hu))); (case h63 => unfold maxLen; omega); (case hb => omega); clear hS; intro ad68 c68 w hS; (first | simp only [mapk1] at hS | simp only [mapk2] at hS | simp only [mapk3] at hS | simp only [mapk4] at hS | simp only [mapkl] at hS | skip); refine put_move ?_; go_step)) | ((fail_if_success with_reducible refine ga9 ?_); go_step))
         all_goals (try (have hF : False := (by omega); cases hF))
         replace hS : St w0 w [own 5 1 ad68 (m + 2) c68 ((acc ++ [255, (r : Int)]).map (Value.int .u8)), blk g16 [.int .i64 (f : Nat), .int .i64 (t : Nat)], prt g3 [.ints C1, .val (.slice a1 n1 k1), .ints C2, .val (.slice a2 n2 k2)], own 111 2 (some ⟨g5, 0, none⟩) M c3 ((sfl (spn n Ev)).map (Value.int .i64))] := by
          have h9 : St w0 w (_ :: _ :: blk g16 [.int .i64 (f : Nat), .int .i64 (t : Nat)] :: _) := hS
          exact h9.sub sb9
         rw [hA2] at hS
         clear hA2
         refine drawn_lit [7] (fun w => St w0 w [prt g3 [.ints C1, .val (.slice a1 n1 k1), .ints C2, .val (.slice a2 n2 k2)], blk g16 [.int .i64 (f : Nat), .int .i64 (t : Nat)]]) kr9 ?_
         replace hS := hS.drew
         focus
          apply takeS 0 al9 kr9 kr9 kr9 hq9 [7, 8, 9, 10, 11, 12] kr9 (hS.sub sb9)
          case hfr => intro w hS; ((refine wl9 ?_; apply wp_loadPP hS 33 _ rfl _ _ rfl 34 (row_of rfl) _; (case hp => exact pl9); (case hi => (repeat (first | (apply AtP.head; (repeat (first | exact Pre.nil | (apply Pre.ints; (case hn => (first | (with_reducible assumption) | exact Len.rep | exact Len.set (by with_reducible assumption) | exact Len.set Len.rep | exact Len.set (Len.set Len.rep))); (case h => omega); (case hm => rfl)) | apply Pre.val))) | (apply AtP.skipI; (case hn => (first | (with_reducible assumption) | exact Len.rep | exact Len.set (by with_reducible assumption) | exact Len.set Len.rep | exact Len.set (Len.set Len.rep))); (case h => omega); (case ho => rfl)) | apply AtP.skipV))); refine put_move ?_; go_step)); refine wpList_nil ?_; exact ⟨rfl, rfl⟩
          case hd => rfl
          refine takeM 1 _ al9 kr9 kr9 kr9 hq9 rfl ?_
          go_step
          (refine takeV 2 _ al9 kr9 kr9 kr9 hq9 (V.fieldAddr fo111_0 rfl nq9) rfl ?_)
          go_step
          apply takeS 3 al9 kr9 kr9 kr9 hq9 [6, 7, 8, 9, 10, 11, 12] kr9 (hS.sub sb9)
          case hfr => intro w hS; ((refine wl9 ?_; apply wp_load1 hS 3 _ rfl _ _ rfl (one_of rfl) _; (case hp => exact pl9); (case hc => rfl); refine put_move ?_; go_step)); refine wpList_nil ?_; exact ⟨rfl, rfl⟩
          case hd => rfl
          (refine takeV 4 _ al9 kr9 kr9 kr9 hq9 (V.fieldAddr fo111_1 rfl nq9) rfl ?_)
          go_step
          apply takeS 5 al9 kr9 kr9 kr9 hq9 [6, 7, 8, 9, 10, 11, 12] kr9 (hS.sub sb9)
          case hfr => intro w hS; ((refine wl9 ?_; apply wp_load1 hS 3 _ rfl _ _ rfl (one_of rfl) _; (case hp => exact pl9); (case hc => rfl); refine put_move ?_; go_step)); refine wpList_nil ?_; exact ⟨rfl, rfl⟩
          case hd => rfl
          (refine takeV 6 _ al9 kr9 kr9 kr9 hq9 (V.slice Tryd.underlying22 isz52 rfl (by (first | exact Lo.none | exact Lo.some rfl isn9)) (by (first | exact Up.none | exact Up.some rfl isn9)) (by omega) (by omega)) rfl ?_)
          go_step
          refine branch1 7 al9 rfl kr9 ?_
          refine wp_callF (f := 18) rfl Tryd.call18 (segEncode_any _ C1 C2 S1 S2 a1 a2 n1 n2 k1 k2 hC1 hC2 (hs1.ext hS.1) (hs2.ext hS.1) hn1 hn2 (cutAt ad c f 64) (t - f) (c - f) (sub64 l f t) (by omega) (hcc.ext hS.1)) ?_; rintro e w ⟨ap, cp, mp, hmp, rfl, hS2⟩; rw [HB.out] at hS2; rw [HB.out, HMB.out] at hmp; subst hmp; rw [HE.out]; replace hS := hS.call1 hS2; clear hS2; refine ⟨_, rfl, ?_⟩
          refine ⟨fun h => absurd (by decide) h, ?_⟩
          refine drawn_move ?_
          go_step
          refine takeM 8 _ al9 kr9 kr9 kr9 hq9 rfl ?_
          go_step
          (refine takeV 9 _ al9 kr9 kr9 kr9 hq9 (V.extract rfl rfl) rfl ?_)
          go_step
          (refine takeV 10 _ al9 kr9 kr9 kr9 hq9 (V.extract rfl rfl) rfl ?_)
          go_step
          refine takeA 11 _ al9 kr9 kr9 kr9 hq9 rfl ?_
          go_step
          refine takeA 12 _ al9 kr9 kr9 kr9 hq9 rfl ?_
          go_step
          refine drawn_done kr9 ?_ _
         all_goals
          repeat' ((fail_if_success with_reducible refine ga9 ?_); go_step)
          by_cases hE0 : E = 0
          case neg =>
           have hD1 : Veil6 (D = (E, acc)) := ⟨by rw [HV.out, hstep.out, if_pos hE0]; simp⟩
           have HS1 := hid (show scEn C1 S1 C2 S2 l n Ev = (E, []) by rw [HP3.out, hD1.out, if_neg hE0])
           clear HV hstep hD1
           repeat' (first
            | (refine y91 ?_) | (refine y991 ?_) | ((fail_if_success with_reducible refine ga9 ?_); go_step))
           all_goals (try (have hF : False := (by omega); cases hF))
           refine ret_all (xs := [_, _]) rfl (.cons (OneRes.tmp rfl) (.cons (OneRes.tmp rfl) (.nil))) (by simp) rfl ?_
           exact enc_err E (by rw [HS1.out]) (by rw [HS1.out]) hS.1
          have hD2 : enl C1 S1 C2 S2 l ((spn n Ev).drop k) k = ((enl C1 S1 C2 S2 l ((spn n Ev).drop (k + 1)) (k + 1)).1, (if k = 0 then [] else [255, ((208 + (k - 1) % 8 : Nat) : Int)]) ++ (B ++ (enl C1 S1 C2 S2 l ((spn n Ev).drop (k + 1)) (k + 1)).2)) := by rw [hstep.out, if_neg (by simpa using hE0)]
          have HV2 : Veil6 (D = ((enl C1 S1 C2 S2 l ((spn n Ev).drop (k + 1)) (k + 1)).1, (acc1 ++ B) ++ (enl C1 S1 C2 S2 l ((spn n Ev).drop (k + 1)) (k + 1)).2)) := ⟨by rw [HV.out, hD2, ← HA1.out, List.append_assoc, List.append_assoc]⟩
          clear HV hstep hD2
          subst hE0
          repeat' (first
           | (refine y9146 ?_) | (refine y991 ?_) | ((fail_if_success with_reducible refine ga9 ?_); go_step))
          all_goals (try (have hF : False := (by omega); cases hF))
          repeat' (first
           | (refine y91 ?_) | (refine y985 ?_) | ((with_reducible refine gs9 85 ?_); (refine wl9 ?_; apply wp_append (o := ⟨some 85, _, _, _, _, _⟩) hS _ _ 34 rfl 5 1 1 el34 _ _ _ _ rfl; (case hp => exact pl9); (case hx => exact rfl); (case hm => (first | exact hS.slBlk pl9 (by rfl) (by decide) | exact hS.sl pl9 | with_reducible assumption | exact Sl.ext (by with_reducible assumption) hS.1 | exact Sl.nil _ _ | exact Sl.ext (by assumption) hS.1 | assumption)); (case h1 => (first | exact oneAll rfl | exact oneMap _ _ | (intro u hu; cases hu))); (case h63 => unfold maxLen; omega); (case hb => omega); clear hS; intro ad85 c85 w hS; (first | simp only [mapk1] at hS | simp only [mapk2] at hS | simp only [mapk3] at hS | simp only [mapk4] at hS | simp only [mapkl] at hS | skip); refine put_move ?_; go_step)) | ((fail_if_success with_reducible refine ga9 ?_); go_step))
          go_roundg (gk - 1)
          case measure => omega
          case rel => exact ⟨k + 1, _, acc1 ++ B, _, _, by omega, by go_num, rfl, by omega, hid (by rw [List.length_append, HL1.out, HMB.out]), HV2, hS.sub sb9⟩
     · obtain rfl : k = M := by omega
       have hD0 : Veil6 (D = (0, acc)) := ⟨by rw [HV.out, List.drop_of_length_le (by rw [HM.out]; omega), enl, List.append_nil]⟩
       have HS1 := hid (show scEn C1 S1 C2 S2 l n Ev = (0, acc) by rw [HP3.out, hD0.out, if_pos rfl])
       clear HV
       repeat' (first
        | (refine y91 ?_) | (refine y990 ?_) | ((fail_if_success with_reducible refine ga9 ?_); go_step))
       all_goals (try (have hF : False := (by omega); cases hF))
       repeat' (first
        | ((fail_if_success with_reducible refine ga9 ?_); go_step))
       refine ret_all (xs := [_, _]) rfl (.cons (OneRes.tmp rfl) (.cons (OneRes.tmp rfl) (.nil))) (by simp) rfl ?_
       exact ⟨ao, co, m, by rw [HS1.out]; exact HQ.out, by rw [HS1.out]; rfl, by rw [HS1.out]; exact hS.sub sb9⟩

end Go.Proofs.YtehbjhocgnfpmaaDoor
/- The walks of the reference's parts, and of evenly and pieces. -/
namespace Go.Proofs.YtehbjhocgnfpmaaDoor
open Go.RowKit
set_option linter.unusedVariables false
def ptsA (every : Nat) : Nat → Nat → List Int
 | 0, _ => []
 | f + 1, n => if 0 < n then ((min n every : Nat) : Int) :: ptsA every f (n - min n every) else []
def pts (n every : Nat) : List Int := if every = 0 ∨ n = 0 then [(n : Int)] else ptsA every n n
theorem ptsA_len (every : Nat) (h : 0 < every) : ∀ f n, (ptsA every f n).length ≤ n
 | 0, n => by simp [ptsA]
 | f + 1, n => by
  unfold ptsA
  by_cases h0 : 0 < n
  · rw [if_pos h0, List.length_cons]
    have := ptsA_len every h f (n - min n every)
    omega
  · rw [if_neg h0]; simp
set_option maxRecDepth 100000 in
set_option maxHeartbeats 4000000 in
theorem parts_any (w0 : World) (n every : Nat) (hn : n ≤ 1048576) (he : every ≤ 1048576) :
 Calls Tryd.prog 64 #[.int .i64 n, .int .i64 every] w0 fun e w => ∃ ad c m, (pts n every).length = m ∧ e = .returned (.slice ad m c) ∧ St w0 w [own 3 1 ad m c ((pts n every).map (Value.int .i64))] := by
 have hS := St.start w0
 by_cases h0 : every = 0 ∨ n = 0
 · have HP := hid (show pts n every = [(n : Int)] by unfold pts; rw [if_pos h0])
   go_enter Tryd.func64, Tryd.ntmps64
   repeat' (first
    | ((with_reducible refine gs9 13 ?_); (refine wl9 ?_; apply wp_buildSliceO (o := ⟨some 13, _, _, _, _, _⟩) hS 24 1 _ rfl 3 1 8 el24 _ _; (case hvs => (repeat (first | exact Parts.nil | (apply Parts.agg; (rfl); (rfl)) | (apply Parts.one; exact isv9; (rfl); (rfl))))); (case hn => rfl); (case hn0 => decide); (case hns => decide); clear hS; intro g13 w hS; refine put_move ?_; go_step)) | go_skip | (refine y91 ?_) | (refine y9141 ?_) | ((with_reducible refine gs9 7 ?_); (refine wplD _ (V.eql rfl rfl) kr9 (fun hB => ?_) (fun hB => ?_) <;> (try (have hF : False := (by omega); cases hF)) <;> go_step)) | (refine y986 ?_) | ((fail_if_success with_reducible refine ga9 ?_); go_step))
   all_goals
    go_ret
    refine ⟨_, _, 1, by rw [HP.out]; rfl, rfl, ?_⟩
    rw [HP.out]
    exact hS.sub (xs := [own 3 1 (some ⟨g13, 0, none⟩) 1 1 [.int .i64 (n : Nat)]]) sb9
 · have HP := hid (show pts n every = ptsA every n n by unfold pts; rw [if_neg h0])
   go_enter Tryd.func64, Tryd.ntmps64
   repeat' (first
    | (refine y91 ?_) | (refine y9139 ?_) | ((with_reducible refine gs9 7 ?_); (refine wplD _ (V.eql rfl rfl) kr9 (fun hB => ?_) (fun hB => ?_) <;> (try (have hF : False := (by omega); cases hF)) <;> go_step)) | (refine y986 ?_) | ((fail_if_success with_reducible refine ga9 ?_); go_step))
   repeat' (first
    | ((fail_if_success with_reducible refine ga9 ?_); go_step))
   replace hS := hS.nilk 3 1 .i64
   have he1 : 0 < every := by omega
   go_loopg [0, 5] n (fun gk nv ov w => ∃ (r m : Nat) (o : List Int) (ad : Option Addr) (c : Nat), nv = .int .i64 r ∧ ov = .slice ad m c ∧ r ≤ gk ∧ gk ≤ n ∧ m + r ≤ n ∧ Hid (o.length = m) ∧ Hid (pts n every = o ++ ptsA every gk r) ∧ St w0 w [own 3 1 ad m c (o.map (Value.int .i64))])
   case atStart => exact ⟨n, 0, [], none, 0, rfl, rfl, Nat.le_refl _, Nat.le_refl _, by omega, hid rfl, hid (by rw [HP.out]; rfl), hS⟩
   case round =>
    clear hS
    obtain ⟨r, m, o, ad, c, rfl, rfl, hr, hg, hm, HO, HA, hS⟩ := hrel
    by_cases hr0 : 0 < r
    · obtain ⟨f, rfl⟩ : ∃ f, gk = f + 1 := ⟨gk - 1, by omega⟩
      have ha := HA.out
      rw [ptsA, if_pos hr0] at ha
      obtain ⟨q, hq⟩ : ∃ q, min r every = q := ⟨_, rfl⟩
      have hq1 : 1 ≤ q ∧ q ≤ r := by omega
      rw [hq] at ha
      have HA2 := hid ha
      have HQ := hid hq
      clear ha
      repeat' (first
       | ((with_reducible refine gs9 19 ?_); (refine wplV (.int _ (((q : Nat) : Int))) (V.as (V.min rfl rfl) (by omega)) rfl ?_; go_step)) | ((with_reducible refine gs9 25 ?_); (refine wplV (.int _ (((q : Nat) : Int))) (V.as (V.min rfl rfl) (by omega)) rfl ?_; go_step)) | ((with_reducible refine gs9 26 ?_); (refine wplV (.int _ (((r - q : Nat) : Int))) (V.as (V.subI rfl rfl (by omega)) (by omega)) rfl ?_; go_step)) | (refine y91 ?_) | (refine y988 ?_) | ((with_reducible refine gs9 20 ?_); (refine wl9 ?_; apply wp_buildSlice1 (o := ⟨some 20, _, _, _, _, _⟩) hS 24 1 _ rfl 3 1 8 el24 _ _; (case hvs => (repeat (first | exact Parts.nil | (apply Parts.agg; (rfl); (rfl)) | (apply Parts.one; exact isv9; (rfl); (rfl))))); (case hn => rfl); (case hn0 => decide); (case hns => decide); clear hS; intro g20 w hS; refine put_move ?_; go_step)) | ((with_reducible refine gs9 21 ?_); (refine wl9 ?_; apply wp_append (o := ⟨some 21, _, _, _, _, _⟩) hS _ _ 24 rfl 3 1 8 el24 _ _ _ _ rfl; (case hp => exact pl9); (case hx => exact rfl); (case hm => (first | exact hS.slBlk pl9 (by rfl) (by decide) | exact hS.sl pl9 | with_reducible assumption | exact Sl.ext (by with_reducible assumption) hS.1 | exact Sl.nil _ _ | exact Sl.ext (by assumption) hS.1 | assumption)); (case h1 => (first | exact oneAll rfl | exact oneMap _ _ | (intro u hu; cases hu))); (case h63 => unfold maxLen; omega); (case hb => omega); clear hS; intro ad21 c21 w hS; (first | simp only [mapk1] at hS | simp only [mapk2] at hS | simp only [mapk3] at hS | simp only [mapk4] at hS | simp only [mapkl] at hS | skip); refine put_move ?_; go_step)) | ((fail_if_success with_reducible refine ga9 ?_); go_step))
      go_roundg f
      case measure => omega
      case rel => exact ⟨r - q, m + 1, o ++ [(q : Int)], ad21, c21, rfl, rfl, by omega, by omega, by omega, hid (by rw [List.length_append, HO.out]; rfl), hid (by rw [HA2.out]; simp), hS.sub sb9⟩
    · have hp : pts n every = o := by
       rw [HA.out]
       have : ptsA every gk r = [] := by
        cases gk with
        | zero => rfl
        | succ f => rw [ptsA, if_neg hr0]
       rw [this, List.append_nil]
      have HPO := hid hp
      clear hp
      repeat' (first
       | (refine y91 ?_) | (refine y988 ?_) | ((fail_if_success with_reducible refine ga9 ?_); go_step))
      repeat' (first
       | ((fail_if_success with_reducible refine ga9 ?_); go_step))
      go_ret
      refine ⟨_, _, m, by rw [HPO.out]; exact HO.out, rfl, ?_⟩
      rw [HPO.out]
      exact hS.sub sb9

def frF (l : List Int) : List Int → List Int
 | [] => []
 | q :: ps => syF l q.toNat ++ frF (l.drop (q.toNat * 64)) ps
def frR (l : List Int) : List Int → List Int
 | [] => []
 | q :: ps => syR l q.toNat ++ frR (l.drop (q.toNat * 64)) ps
theorem seg_take {l : List Int} {q k : Nat} (h : k < q) : seg (l.take (q * 64)) 64 k = seg l 64 k := by
 unfold seg
 rw [List.drop_take, List.take_take, Nat.min_eq_left (by omega)]
theorem tkb_take {l : List Int} {q k : Nat} (h : k < q) : tkb (l.take (q * 64)) k = tkb l k := by
 unfold tkb bef
 rw [seg_take h]
 by_cases h0 : k = 0
 · rw [if_pos h0, if_pos h0]
 · rw [if_neg h0, if_neg h0, seg_take (by omega)]
theorem syF_take (l : List Int) (q : Nat) : syF (l.take (q * 64)) q = syF l q := by
 unfold syF
 have : ∀ n, n ≤ q → (List.range n).flatMap (fun k => ((tkb (l.take (q * 64)) k).take 1).map (·.1)) = (List.range n).flatMap (fun k => ((tkb l k).take 1).map (·.1)) := by
  intro n
  induction n with
  | zero => intro _; rfl
  | succ n ih =>
   intro hn
   rw [List.range_succ, List.flatMap_append, List.flatMap_append, ih (by omega)]
   simp [tkb_take (l := l) (show n < q by omega)]
 exact this q (Nat.le_refl _)
theorem syR_take (l : List Int) (q : Nat) : syR (l.take (q * 64)) q = syR l q := by
 unfold syR
 have : ∀ n, n ≤ q → (List.range n).flatMap (fun k => ((tkb (l.take (q * 64)) k).drop 1).map (·.1)) = (List.range n).flatMap (fun k => ((tkb l k).drop 1).map (·.1)) := by
  intro n
  induction n with
  | zero => intro _; rfl
  | succ n ih =>
   intro hn
   rw [List.range_succ, List.flatMap_append, List.flatMap_append, ih (by omega)]
   simp [tkb_take (l := l) (show n < q by omega)]
 exact this q (Nat.le_refl _)
def ptsOk : Nat → List Int → Prop
 | _, [] => True
 | r, q :: ps => 0 ≤ q ∧ q.toNat ≤ r ∧ ptsOk (r - q.toNat) ps
theorem ptsA_ok (every : Nat) : ∀ f n, ptsOk n (ptsA every f n)
 | 0, n => trivial
 | f + 1, n => by
  unfold ptsA
  by_cases h0 : 0 < n
  · rw [if_pos h0]
    exact ⟨by omega, by omega, by rw [Int.toNat_natCast]; exact ptsA_ok every f _⟩
  · rw [if_neg h0]; trivial
theorem pts_ok (n every : Nat) : ptsOk n (pts n every) := by
 unfold pts
 split
 · exact ⟨by omega, by omega, trivial⟩
 · exact ptsA_ok every n n
theorem pts_len (n every : Nat) : (pts n every).length ≤ n + 1 := by
 unfold pts
 by_cases h : every = 0 ∨ n = 0
 · rw [if_pos h]; simp
 · rw [if_neg h]
   have := ptsA_len every (by omega) n n
   omega
theorem cnt_add {A X : List Int} {s : Nat} (h : s < 256) : nth (cnt A) s + nth (cnt X) s = nth (cnt (A ++ X)) s := by
 rw [cnt_nth _ h, cnt_nth _ h, cnt_nth _ h, List.count_append]; push_cast; rfl
theorem call_two {W w w' : World} {rs : List Res} {r s : Res} (h : St W w rs) (h' : St w w' [r, s]) : St W w' (r :: s :: rs) := h.call h'
set_option maxRecDepth 100000 in
set_option maxHeartbeats 8000000 in
theorem frameCounts_any (w0 : World) (ad : Option Addr) (n c : Nat) (l : List Int) (every : Nat) (hn : n ≤ 1048576) (he : every ≤ 1048576) (hv : Sl w0 64 (.slice ad n c) n (l.map (Value.int .i64))) :
 Calls Tryd.prog 46 #[.slice ad n c, .int .i64 every] w0 fun e w => ∃ g1 g2, e = .returned (.tuple #[.slice (some ⟨g1, 0, none⟩) 256 256, .slice (some ⟨g2, 0, none⟩) 256 256]) ∧ St w0 w [own 3 1 (some ⟨g1, 0, none⟩) 256 256 ((cnt (frF l (pts n every))).map (Value.int .i64)), own 3 1 (some ⟨g2, 0, none⟩) 256 256 ((cnt (frR l (pts n every))).map (Value.int .i64))] := by
 have hl : l.length = n * 64 := by have := hv.1; simpa using this
 have HL := hid hl
 clear hl
 have hps := pts_ok n every
 obtain ⟨P, hP⟩ : ∃ P, pts n every = P := ⟨_, rfl⟩
 rw [hP] at hps ⊢
 have HPS := hid hps
 have HPE := hid hP
 clear hP hps
 have hS := St.start w0
 go_enter Tryd.func46, Tryd.ntmps46
 repeat' (first
  | (refine y92 ?_) | ((fail_if_success with_reducible refine ga9 ?_); go_step))
 apply wp_join2 (rs := fun g13 g14 => [own 3 1 (some ⟨g13, 0, none⟩) 256 256 ((cnt []).map (Value.int .i64)), own 3 1 (some ⟨g14, 0, none⟩) 256 256 ((cnt []).map (Value.int .i64))])
 · skip
   refine drawn_lit [] (fun _ => True) kr9 ?_
   replace hS := hS.drew
   focus
    refine branch [0, 1] kr9 (by simp) (.cons al9 rfl ?_ (.cons al9 rfl ?_ (.nil)))
    rotate_left 1
    focus
     (refine wp_make (o := ⟨some 14, _, _, _, _, _⟩) hS 24 _ _ rfl _ _ _ _ elz24 _ _ _ _ _ _ rfl rfl isn9 isn9 (by omega) (by omega) (by unfold maxLen; omega) ?_; clear hS; intro g14 w hS)
     refine ⟨fun _ h => h, ?_⟩
     refine drawn_move ?_
     go_step
     refine branch1 0 al9 rfl kr9 ?_
     (refine wp_make (o := ⟨some 13, _, _, _, _, _⟩) hS 24 _ _ rfl _ _ _ _ elz24 _ _ _ _ _ _ rfl rfl isn9 isn9 (by omega) (by omega) (by unfold maxLen; omega) ?_; clear hS; intro g13 w hS)
     refine ⟨fun _ h => h, ?_⟩
     refine drawn_move ?_
     go_step
     refine takeA 2 _ al9 kr9 kr9 kr9 (fun _ _ _ _ h => nomatch h.1) rfl ?_
     go_step
     refine takeA 3 _ al9 kr9 kr9 kr9 (fun _ _ _ _ h => nomatch h.1) rfl ?_
     go_step
     refine drawn_done kr9 ?_ _
     exact ⟨rfl, g13, g14, rfl, by rw [cnt_nil]; exact hS.sub sb9⟩
    rotate_right 1
    focus
     (refine wp_make (o := ⟨some 13, _, _, _, _, _⟩) hS 24 _ _ rfl _ _ _ _ elz24 _ _ _ _ _ _ rfl rfl isn9 isn9 (by omega) (by omega) (by unfold maxLen; omega) ?_; clear hS; intro g13 w hS)
     refine ⟨fun _ h => h, ?_⟩
     refine drawn_move ?_
     go_step
     refine takeA 2 _ al9 kr9 kr9 kr9 (fun _ _ _ _ h => nomatch h.1) rfl ?_
     go_step
     refine branch1 1 al9 rfl kr9 ?_
     (refine wp_make (o := ⟨some 14, _, _, _, _, _⟩) hS 24 _ _ rfl _ _ _ _ elz24 _ _ _ _ _ _ rfl rfl isn9 isn9 (by omega) (by omega) (by unfold maxLen; omega) ?_; clear hS; intro g14 w hS)
     refine ⟨fun _ h => h, ?_⟩
     refine drawn_move ?_
     go_step
     refine takeA 3 _ al9 kr9 kr9 kr9 (fun _ _ _ _ h => nomatch h.1) rfl ?_
     go_step
     refine drawn_done kr9 ?_ _
     exact ⟨rfl, g13, g14, rfl, by rw [cnt_nil]; exact hS.sub sb9⟩
 clear hS
 intro g13 g14 w hS
 · skip
   repeat' (first
    | ((with_reducible refine gt9 _ (.call ⟨.value (.func 64), _, _⟩) ?_); refine wpl_call (f := 64) Tryd.call64 kr9 ?_; refine ⟨_, (parts_any _ n every hn he), ?_⟩; rintro e w ⟨a8, c8, m8, hm8, rfl, hS2⟩; rw [HPE.out] at hm8 hS2; have HM8 := hid hm8; replace hS := hS.call1 hS2; clear hS2 hm8; refine ⟨_, rfl, ?_⟩; refine put_move ?_; go_step) | (refine y9146 ?_) | (refine y999 ?_) | (refine y9100 ?_) | ((fail_if_success with_reducible refine ga9 ?_); go_step))
   have hm8b : m8 ≤ n + 1 := by rw [← HM8.out, ← HPE.out]; exact pts_len n every
   go_loopg [0, 20] m8 (fun gk sv kv w => ∃ (k r : Nat) (ad : Option Addr) (c : Nat) (L A B : List Int), gk + k = m8 ∧ kv = .int .i64 k ∧ sv = .slice ad r c ∧ r ≤ n ∧ A.length + r * 64 ≤ n * 64 ∧ B.length + r * 64 ≤ n * 64 ∧ Sl w0 64 (.slice ad r c) r (L.map (Value.int .i64)) ∧ Hid (ptsOk r (P.drop k)) ∧ Hid (frF l P = A ++ frF L (P.drop k)) ∧ Hid (frR l P = B ++ frR L (P.drop k)) ∧ St w0 w [own 3 1 a8 m8 c8 (P.map (Value.int .i64)), own 3 1 (some ⟨g13, 0, none⟩) 256 256 ((cnt A).map (Value.int .i64)), own 3 1 (some ⟨g14, 0, none⟩) 256 256 ((cnt B).map (Value.int .i64))])
   case atStart => exact ⟨0, n, ad, c, l, [], [], rfl, rfl, rfl, Nat.le_refl _, by simp, by simp, hv, HPS, hid rfl, hid rfl, hS⟩
   case round =>
    clear hS
    obtain ⟨k, r, ad3, c3, L, A, B, hk, rfl, rfl, hrn, hAl, hBl, hv3, HO, HF, HR, hS⟩ := hrel
    by_cases hlt : k < m8
    · have hLl : L.length = r * 64 := by have := hv3.1; simpa using this
      have hdr : P.drop k = nth P k :: P.drop (k + 1) := by
       rw [List.drop_eq_getElem_cons (by rw [HM8.out]; omega)]
       simp [nth, List.getD, HM8.out, hlt]
      obtain ⟨q, hq⟩ : ∃ q, nth P k = q := ⟨_, rfl⟩
      rw [hq] at hdr
      have ho := HO.out
      have hf := HF.out
      have hr := HR.out
      rw [hdr] at ho hf hr
      obtain ⟨o1, o2, o3⟩ := ho
      rw [frF] at hf
      rw [frR] at hr
      obtain ⟨b, rfl⟩ : ∃ b : Nat, q = (b : Int) := ⟨q.toNat, by omega⟩
      rw [Int.toNat_natCast] at o2 o3 hf hr
      have HQ := hid hq
      have HO2 := hid o3
      have HF2 := hid hf
      have HR2 := hid hr
      clear HO HF HR hdr hq o3 hf hr
      have hcc := hv3.cutAt 0 b (by omega) (by omega)
      rw [show ((L.map (Value.int .i64)).drop (0 * 64)).take ((b - 0) * 64) = (L.take (b * 64)).map (Value.int .i64) by simp] at hcc
      have hc2 := hv3.cutAt b r (by omega) (by omega)
      rw [show ((L.map (Value.int .i64)).drop (b * 64)).take ((r - b) * 64) = (L.drop (b * 64)).map (Value.int .i64) by rw [← List.map_drop, List.take_of_length_le]; simp; omega] at hc2
      have hsy := sy_len hLl b o2
      have hrc : r ≤ c3 := by
       obtain ⟨_, a', c', e1, hnc, _⟩ := hv3
       cases e1
       exact hnc
      have HX1 := hid (syF_take L b)
      have HX2 := hid (syR_take L b)
      obtain ⟨b8, rfl⟩ := own_some (a := a8) hS pl9 (by omega)
      repeat' (first
       | (refine y91 ?_) | (refine y990 ?_) | ((with_reducible refine gs9 22 ?_); (refine wvv9 (V.indexSl Tryd.underlying24 isz3 rfl rfl isn9 (by omega) (Nat.mul_one _) nq9) ?_; go_step)) | (refine y9123 ?_) | ((fail_if_success with_reducible refine ga9 ?_); go_step))
      rw [HQ.out]
      repeat' (first
       | ((with_reducible refine gs9 28 ?_); refine wpl_call (f := 65) Tryd.call65 kr9 ?_; refine ⟨_, (refCounts_any _ (cutAt ad3 c3 0 64) (b - 0) (c3 - 0) (L.take (b * 64)) (by omega) (hcc.ext hS.1)), ?_⟩; rintro e w ⟨g1, g2, rfl, hS2⟩; rw [Nat.sub_zero, HX1.out, HX2.out] at hS2; replace hS := call_two hS hS2; clear hS2; refine ⟨_, rfl, ?_⟩; refine put_move ?_; go_step) | (refine y91 ?_) | ((with_reducible refine gt9 _ (.slice 22 _ _ _ _) ?_); (refine wvv9 (V.slice Tryd.underlying22 isz52 rfl (by (first | exact Lo.none | exact Lo.some rfl isn9)) (by (first | exact Up.none | exact Up.some rfl isn9)) (by omega) (by omega)) ?_; go_step)) | (refine y9105 ?_) | (refine y9100 ?_) | ((fail_if_success with_reducible refine ga9 ?_); go_step))
      obtain ⟨gk1, hgk1⟩ : ∃ x, x = gk := ⟨_, rfl⟩
      subst hgk1
      obtain ⟨X, hX⟩ : ∃ X, syF L b = X := ⟨_, rfl⟩
      obtain ⟨Y, hY⟩ : ∃ X, syR L b = X := ⟨_, rfl⟩
      rw [hX, hY] at hS hsy
      rw [hX] at HF2
      rw [hY] at HR2
      clear hX hY HX1 HX2 hcc
      go_loopg [36] 256 (fun gk kv w => ∃ (i : Nat) (l1 l2 : List Int), gk + i = 256 ∧ kv = .int .i64 i ∧ Hid (l1.length = 256) ∧ Hid (l2.length = 256) ∧ Hid (∀ j, j < 256 → nth l1 j = if j < i then nth (cnt (A ++ X)) j else nth (cnt A) j) ∧ Hid (∀ j, j < 256 → nth l2 j = if j < i then nth (cnt (B ++ Y)) j else nth (cnt B) j) ∧ St w0 w [own 3 1 (some ⟨b8, 0, none⟩) m8 c8 (P.map (Value.int .i64)), own 3 1 (some ⟨g13, 0, none⟩) 256 256 (l1.map (Value.int .i64)), own 3 1 (some ⟨g14, 0, none⟩) 256 256 (l2.map (Value.int .i64)), own 3 1 (some ⟨g1, 0, none⟩) 256 256 ((cnt X).map (Value.int .i64)), own 3 1 (some ⟨g2, 0, none⟩) 256 256 ((cnt Y).map (Value.int .i64))])
      case atStart => exact ⟨0, cnt A, cnt B, rfl, rfl, hid (cnt_len _), hid (cnt_len _), hid (fun j hj => by rw [if_neg (by omega)]), hid (fun j hj => by rw [if_neg (by omega)]), hS.sub sb9⟩
      case round =>
       clear hS
       obtain ⟨i, l1, l2, hi, rfl, HL1, HL2, HV1, HV2, hS⟩ := hrel
       by_cases hlt2 : i < 256
       · have e1 := HV1.out i hlt2
         have e2 := HV2.out i hlt2
         rw [if_neg (by omega)] at e1 e2
         have a1 := cnt_bd A hlt2
         have a2 := cnt_bd B hlt2
         have a3 := cnt_bd X hlt2
         have a4 := cnt_bd Y hlt2
         rw [← e1] at a1
         rw [← e2] at a2
         have HA1 := hid (show nth l1 i + nth (cnt X) i = nth (cnt (A ++ X)) i by rw [e1]; exact cnt_add hlt2)
         have HA2 := hid (show nth l2 i + nth (cnt Y) i = nth (cnt (B ++ Y)) i by rw [e2]; exact cnt_add hlt2)
         clear e1 e2
         repeat' (first
          | (refine y91 ?_) | (refine y990 ?_) | ((fail_if_success with_reducible refine ga9 ?_); go_step))
         refine drawn_lit [10] (fun w => St w0 w [own 3 1 (some ⟨g13, 0, none⟩) 256 256 (l1.map (Value.int .i64)), own 3 1 (some ⟨g1, 0, none⟩) 256 256 ((cnt X).map (Value.int .i64))]) kr9 ?_
         replace hS := hS.drew
         focus
          refine takeM 0 _ al9 kr9 kr9 kr9 hq9 rfl ?_
          go_step
          refine takeM 1 _ al9 kr9 kr9 kr9 hq9 rfl ?_
          go_step
          (refine takeV 2 _ al9 kr9 kr9 kr9 hq9 (V.indexSl Tryd.underlying24 isz3 rfl rfl isn9 (by omega) (Nat.mul_one _) nq9) rfl ?_)
          go_step
          apply takeS 3 al9 kr9 kr9 kr9 hq9 [8, 9, 10] kr9 (hS.sub sb9)
          case hfr => intro w hS; ((refine wl9 ?_; apply wp_load1OI hS 3 _ rfl _ _ rfl (one_of rfl) _ _ _ _ _; (case hp => exact pl9); (case hi => omega); refine put_move ?_; go_step)); refine wpList_nil ?_; exact ⟨rfl, rfl⟩
          case hd => rfl
          refine takeM 4 _ al9 kr9 kr9 kr9 hq9 rfl ?_
          go_step
          refine takeM 5 _ al9 kr9 kr9 kr9 hq9 rfl ?_
          go_step
          (refine takeV 6 _ al9 kr9 kr9 kr9 hq9 (V.indexSl Tryd.underlying24 isz3 rfl rfl isn9 (by omega) (Nat.mul_one _) nq9) rfl ?_)
          go_step
          apply takeS 7 al9 kr9 kr9 kr9 hq9 [8, 9, 10] kr9 (hS.sub sb9)
          case hfr => intro w hS; ((refine wl9 ?_; apply wp_load1OI hS 3 _ rfl _ _ rfl (one_of rfl) _ _ _ _ _; (case hp => exact pl9); (case hi => omega); refine put_move ?_; go_step)); refine wpList_nil ?_; exact ⟨rfl, rfl⟩
          case hd => rfl
          (refine takeV 8 _ al9 kr9 kr9 kr9 hq9 (V.addI rfl rfl (by omega)) rfl ?_)
          go_step
          (refine takeV 9 _ al9 kr9 kr9 kr9 hq9 (V.indexSl Tryd.underlying24 isz3 rfl rfl isn9 (by omega) (Nat.mul_one _) nq9) rfl ?_)
          go_step
          refine branch1 10 al9 rfl kr9 ?_
          (refine wp_store1OI hS 3 _ _ rfl _ _ rfl (one_of rfl) _ _ _ _ _ pl9 _ (by rfl) (by omega) rfl ?_; clear hS; intro w hS)
          refine ⟨fun h => absurd (by decide) h, ?_⟩
          refine drawn_done kr9 ?_ _
         repeat' ((fail_if_success with_reducible refine ga9 ?_); go_step)
         refine drawn_lit [10] (fun w => St w0 w [own 3 1 (some ⟨g14, 0, none⟩) 256 256 (l2.map (Value.int .i64)), own 3 1 (some ⟨g2, 0, none⟩) 256 256 ((cnt Y).map (Value.int .i64))]) kr9 ?_
         replace hS := hS.drew
         focus
          refine takeM 0 _ al9 kr9 kr9 kr9 hq9 rfl ?_
          go_step
          refine takeM 1 _ al9 kr9 kr9 kr9 hq9 rfl ?_
          go_step
          (refine takeV 2 _ al9 kr9 kr9 kr9 hq9 (V.indexSl Tryd.underlying24 isz3 rfl rfl isn9 (by omega) (Nat.mul_one _) nq9) rfl ?_)
          go_step
          apply takeS 3 al9 kr9 kr9 kr9 hq9 [8, 9, 10] kr9 (hS.sub sb9)
          case hfr => intro w hS; ((refine wl9 ?_; apply wp_load1OI hS 3 _ rfl _ _ rfl (one_of rfl) _ _ _ _ _; (case hp => exact pl9); (case hi => omega); refine put_move ?_; go_step)); refine wpList_nil ?_; exact ⟨rfl, rfl⟩
          case hd => rfl
          refine takeM 4 _ al9 kr9 kr9 kr9 hq9 rfl ?_
          go_step
          refine takeM 5 _ al9 kr9 kr9 kr9 hq9 rfl ?_
          go_step
          (refine takeV 6 _ al9 kr9 kr9 kr9 hq9 (V.indexSl Tryd.underlying24 isz3 rfl rfl isn9 (by omega) (Nat.mul_one _) nq9) rfl ?_)
          go_step
          apply takeS 7 al9 kr9 kr9 kr9 hq9 [8, 9, 10] kr9 (hS.sub sb9)
          case hfr => intro w hS; ((refine wl9 ?_; apply wp_load1OI hS 3 _ rfl _ _ rfl (one_of rfl) _ _ _ _ _; (case hp => exact pl9); (case hi => omega); refine put_move ?_; go_step)); refine wpList_nil ?_; exact ⟨rfl, rfl⟩
          case hd => rfl
          (refine takeV 8 _ al9 kr9 kr9 kr9 hq9 (V.addI rfl rfl (by omega)) rfl ?_)
          go_step
          (refine takeV 9 _ al9 kr9 kr9 kr9 hq9 (V.indexSl Tryd.underlying24 isz3 rfl rfl isn9 (by omega) (Nat.mul_one _) nq9) rfl ?_)
          go_step
          refine branch1 10 al9 rfl kr9 ?_
          (refine wp_store1OI hS 3 _ _ rfl _ _ rfl (one_of rfl) _ _ _ _ _ pl9 _ (by rfl) (by omega) rfl ?_; clear hS; intro w hS)
          refine ⟨fun h => absurd (by decide) h, ?_⟩
          refine drawn_done kr9 ?_ _
         repeat' (first
          | (refine y9146 ?_) | (refine y985 ?_) | ((fail_if_success with_reducible refine ga9 ?_); go_step))
         rw [HA1.out, HA2.out] at hS
         have nset : ∀ (l : List Int) (D E : List Int), l.length = 256 → (∀ j, j < 256 → nth l j = if j < i then nth (cnt (D ++ E)) j else nth (cnt D) j) → ∀ j, j < 256 → nth (l.set i (nth (cnt (D ++ E)) i)) j = if j < i + 1 then nth (cnt (D ++ E)) j else nth (cnt D) j := fun l D E h1 h2 j hj => by
          rw [nth_set _ _ _ _ (by rw [h1]; exact hlt2)]
          by_cases h : i = j
          · subst h; rw [if_pos rfl, if_pos (by omega)]
          · rw [if_neg h, h2 j hj]
            by_cases h3 : j < i
            · rw [if_pos h3, if_pos (by omega)]
            · rw [if_neg h3, if_neg (by omega)]
         go_roundg (gk - 1)
         case measure => omega
         case rel => exact ⟨i + 1, l1.set i (nth (cnt (A ++ X)) i), l2.set i (nth (cnt (B ++ Y)) i), by omega, by go_num, hid (by rw [List.length_set]; exact HL1.out), hid (by rw [List.length_set]; exact HL2.out), hid (nset _ _ _ HL1.out HV1.out), hid (nset _ _ _ HL2.out HV2.out), hS.sub sb9⟩
       · obtain rfl : i = 256 := by omega
         have q1 : l1 = cnt (A ++ X) := cnt_ext HL1.out (cnt_len _) fun j hj => by rw [HV1.out j hj, if_pos hj]
         have q2 : l2 = cnt (B ++ Y) := cnt_ext HL2.out (cnt_len _) fun j hj => by rw [HV2.out j hj, if_pos hj]
         rw [q1, q2] at hS
         repeat' (first
          | (refine y990 ?_) | ((fail_if_success with_reducible refine ga9 ?_); go_step))
         repeat' (first
          | (refine y9146 ?_) | (refine y985 ?_) | ((fail_if_success with_reducible refine ga9 ?_); go_step))
         go_roundg (gk1 - 1)
         case measure => omega
         case rel => exact ⟨k + 1, r - b, cutAt ad3 c3 b 64, c3 - b, L.drop (b * 64), A ++ X, B ++ Y, by omega, by go_num, rfl, by omega, by rw [List.length_append]; omega, by rw [List.length_append]; omega, hc2, HO2, hid (by rw [HF2.out, List.append_assoc]), hid (by rw [HR2.out, List.append_assoc]), hS.sub sb9⟩
    · obtain rfl : k = m8 := by omega
      have hf := HF.out
      have hr := HR.out
      rw [show P.drop k = [] by rw [List.drop_eq_nil_iff, HM8.out]; omega] at hf hr
      rw [frF, List.append_nil] at hf
      rw [frR, List.append_nil] at hr
      have HF2 := hid hf
      have HR2 := hid hr
      clear hf hr
      repeat' (first
       | (refine y91 ?_) | (refine y990 ?_) | ((fail_if_success with_reducible refine ga9 ?_); go_step))
      repeat' (first
       | ((fail_if_success with_reducible refine ga9 ?_); go_step))
      refine ret_all (xs := [_, _]) rfl (.cons (OneRes.tmp rfl) (.cons (OneRes.tmp rfl) (.nil))) (by simp) rfl ?_
      refine ⟨g13, g14, rfl, ?_⟩
      rw [HF2.out, HR2.out]
      exact hS.sub sb9

end Go.Proofs.YtehbjhocgnfpmaaDoor
/- Sorting in place, in plain lists: places turned, an element moved, a rotation, a merge (SymMerge). -/
namespace Go.Proofs.YtehbjhocgnfpmaaDoor
set_option linter.unusedVariables false
section
variable {α : Type} [Inhabited α]
def elt (l : List α) (i : Nat) : α := l.getD i default
theorem elt_set (l : List α) (i j : Nat) (z : α) (h : i < l.length) : elt (l.set i z) j = if i = j then z else elt l j := by
 unfold elt
 simp only [List.getD_eq_getElem?_getD, List.getElem?_set]
 split
 · simp
 · rfl
theorem elt_app1 (l m : List α) (i : Nat) (h : i < l.length) : elt (l ++ m) i = elt l i := by simp [elt, List.getElem?_append_left h]
theorem elt_app2 (l m : List α) (i : Nat) (h : l.length ≤ i) : elt (l ++ m) i = elt m (i - l.length) := by simp [elt, List.getElem?_append_right h]
theorem elt_mem {l : List α} {i : Nat} (h : i < l.length) : elt l i ∈ l := by simp [elt, h]
theorem elt_of_mem {l : List α} {x : α} (h : x ∈ l) : ∃ i, i < l.length ∧ elt l i = x := by
 obtain ⟨i, hi, e⟩ := List.getElem_of_mem h
 exact ⟨i, hi, by simp [elt, hi, e]⟩
theorem elt_ext {l m : List α} (h : l.length = m.length) (k : ∀ i, i < l.length → elt l i = elt m i) : l = m := by
 apply List.ext_getElem h
 intro i h1 h2
 have := k i h1
 simpa [elt, h1, h2] using this
theorem elt_take (l : List α) (n i : Nat) (h : i < n) : elt (l.take n) i = elt l i := by simp [elt, h]
theorem elt_drop (l : List α) (n i : Nat) : elt (l.drop n) i = elt l (n + i) := by simp [elt]
structure Rg (a b : Nat) (P P' : List α) : Prop where
 len : P'.length = P.length
 out : ∀ x, x < a ∨ b ≤ x → elt P' x = elt P x
 perm : ((P'.drop a).take (b - a)).Perm ((P.drop a).take (b - a))
theorem Rg.refl (a b : Nat) (P : List α) : Rg a b P P := ⟨rfl, fun _ _ => rfl, List.Perm.refl _⟩
theorem Rg.trans {a b : Nat} {P Q R : List α} (h : Rg a b P Q) (k : Rg a b Q R) : Rg a b P R :=
 ⟨k.len.trans h.len, fun x hx => (k.out x hx).trans (h.out x hx), k.perm.trans h.perm⟩
theorem Rg.from {a b : Nat} {P P' : List α} (h : Rg a b P P') (hb : b ≤ P.length) {x : Nat} (h1 : a ≤ x) (h2 : x < b) : ∃ y, a ≤ y ∧ y < b ∧ elt P' x = elt P y := by
 have hl := h.len
 have e : elt P' x = elt ((P'.drop a).take (b - a)) (x - a) := by rw [elt_take _ _ _ (by omega), elt_drop]; congr 1; omega
 have hm : elt P' x ∈ (P'.drop a).take (b - a) := by rw [e]; exact elt_mem (by simp; omega)
 obtain ⟨i, hi, e2⟩ := elt_of_mem (h.perm.mem_iff.1 hm)
 simp at hi
 exact ⟨a + i, by omega, by omega, by rw [← e2, elt_take _ _ _ (by omega), elt_drop]⟩
theorem Rg.wide {a b c d : Nat} {P P' : List α} (h : Rg a b P P') (hca : c ≤ a) (hbd : b ≤ d) (hab : a ≤ b) (hd : b ≤ P.length) : Rg c d P P' := by
 refine ⟨h.len, fun x hx => h.out x (by omega), ?_⟩
 have cut : ∀ Q : List α, (Q.drop c).take (d - c) = (Q.drop c).take (a - c) ++ ((Q.drop a).take (b - a) ++ (Q.drop b).take (d - b)) := fun Q => by
  have e1 : d - c = (a - c) + ((b - a) + (d - b)) := by omega
  rw [e1, List.take_add, List.take_add, List.drop_drop, List.drop_drop]
  congr 4 <;> omega
 have hl := h.len
 rw [cut, cut]
 have e1 : (P'.drop c).take (a - c) = (P.drop c).take (a - c) := elt_ext (by simp [hl]) fun i hi => by
  simp at hi; rw [elt_take _ _ _ (by omega), elt_take _ _ _ (by omega), elt_drop, elt_drop, h.out _ (by omega)]
 have e2 : (P'.drop b).take (d - b) = (P.drop b).take (d - b) := elt_ext (by simp [hl]) fun i hi => by
  simp at hi; rw [elt_take _ _ _ (by omega), elt_take _ _ _ (by omega), elt_drop, elt_drop, h.out _ (by omega)]
 rw [e1, e2]
 exact List.Perm.append_left _ (List.Perm.append_right _ h.perm)
theorem Rg.all {P P' : List α} (h : Rg 0 P.length P P') : P'.Perm P := by
 have := h.perm
 simp only [List.drop_zero, Nat.sub_zero, List.take_length] at this
 rwa [← h.len, List.take_length] at this
def swp (P : List α) (i j : Nat) : List α := (P.set i (elt P j)).set j (elt P i)
theorem swp_len (P : List α) (i j : Nat) : (swp P i j).length = P.length := by simp [swp]
theorem elt_swp (P : List α) (i j x : Nat) (hi : i < P.length) (hj : j < P.length) : elt (swp P i j) x = if j = x then elt P i else if i = x then elt P j else elt P x := by
 unfold swp
 rw [elt_set _ _ _ _ (by simpa using hj), elt_set _ _ _ _ hi]
theorem set_perm (l : List α) (i : Nat) (z : α) (h : i < l.length) : (elt l i :: l.set i z).Perm (z :: l) := by
 induction l generalizing i with
 | nil => simp at h
 | cons a l ih =>
  cases i with
  | zero => simp only [elt, List.getD_cons_zero, List.set_cons_zero]; exact List.Perm.swap _ _ _
  | succ i =>
   have := ih i (by simpa using h)
   simp only [List.set_cons_succ]
   have e : elt (a :: l) (i + 1) = elt l i := by simp [elt]
   rw [e]
   exact (List.Perm.swap _ _ _).trans ((this.cons a).trans (List.Perm.swap _ _ _))
theorem swp_perm (P : List α) (i j : Nat) (hi : i < P.length) (hj : j < P.length) : (swp P i j).Perm P := by
 unfold swp
 have h1 := set_perm (P.set i (elt P j)) j (elt P i) (by simpa using hj)
 have h2 := set_perm P i (elt P j) hi
 rw [elt_set _ _ _ _ hi] at h1
 have e : (if i = j then elt P j else elt P j) = elt P j := by split <;> rfl
 rw [e] at h1
 exact (h1.trans h2).cons_inv
theorem swp_mid (P : List α) (a b i j : Nat) (hi : a ≤ i) (hib : i < b) (hj : a ≤ j) (hjb : j < b) (hb : b ≤ P.length) : Rg a b P (swp P i j) := by
 refine ⟨swp_len P i j, fun x hx => by rw [elt_swp _ _ _ _ (by omega) (by omega), if_neg (by omega), if_neg (by omega)], ?_⟩
 have e : ((swp P i j).drop a).take (b - a) = swp ((P.drop a).take (b - a)) (i - a) (j - a) := by
  refine elt_ext (by simp [swp_len]) fun x hx => ?_
  simp [swp_len] at hx
  rw [elt_take _ _ _ (by omega), elt_drop, elt_swp _ _ _ _ (by omega) (by omega), elt_swp _ _ _ _ (by simp; omega) (by simp; omega), elt_take _ _ (i - a) (by omega), elt_take _ _ (j - a) (by omega), elt_take _ _ x (by omega), elt_drop, elt_drop, elt_drop]
  rw [show a + (i - a) = i by omega, show a + (j - a) = j by omega]
  by_cases h1 : j = a + x
  · rw [if_pos h1, if_pos (show j - a = x by omega)]
  · rw [if_neg h1, if_neg (show ¬ j - a = x by omega)]
    by_cases h2 : i = a + x
    · rw [if_pos h2, if_pos (show i - a = x by omega)]
    · rw [if_neg h2, if_neg (show ¬ i - a = x by omega)]
 rw [e]
 exact swp_perm _ _ _ (by simp; omega) (by simp; omega)
variable (key : α → Int)
def Asc (lo hi : Nat) (P : List α) : Prop := ∀ i j, lo ≤ i → i ≤ j → j < hi → key (elt P i) ≤ key (elt P j)
variable {key}
theorem Asc.same {lo hi : Nat} {P Q : List α} (h : Asc key lo hi P) (e : ∀ x, lo ≤ x → x < hi → elt Q x = elt P x) : Asc key lo hi Q := fun i j h1 h2 h3 => by
 rw [e i h1 (by omega), e j (by omega) h3]; exact h i j h1 h2 h3
theorem Asc.sub {lo hi lo' hi' : Nat} {P : List α} (h : Asc key lo hi P) (h1 : lo ≤ lo') (h2 : hi' ≤ hi) : Asc key lo' hi' P := fun i j k1 k2 k3 => h i j (by omega) k2 (by omega)
theorem Asc.pair {P : List α} (h : Asc key 0 P.length P) : P.Pairwise (fun a b => key a ≤ key b) := by
 rw [List.pairwise_iff_getElem]
 intro i j hi hj hij
 have := h i j (by omega) (by omega) hj
 simpa [elt, hi, hj] using this
theorem rot_at (A U V B : List α) (x : Nat) : elt (A ++ (V ++ (U ++ B))) x = if x < A.length then elt (A ++ (U ++ (V ++ B))) x else if x < A.length + V.length then elt (A ++ (U ++ (V ++ B))) (x + U.length) else if x < A.length + V.length + U.length then elt (A ++ (U ++ (V ++ B))) (x - V.length) else elt (A ++ (U ++ (V ++ B))) x := by
 by_cases h1 : x < A.length
 · rw [if_pos h1, elt_app1 _ _ _ h1, elt_app1 _ _ _ h1]
 · rw [if_neg h1, elt_app2 _ _ _ (by omega)]
   by_cases h2 : x < A.length + V.length
   · rw [if_pos h2, elt_app1 _ _ _ (by omega), elt_app2 A _ _ (by omega), elt_app2 U _ _ (by omega), elt_app1 V _ _ (by omega)]; congr 1; omega
   · rw [if_neg h2, elt_app2 _ _ _ (by omega)]
     by_cases h3 : x < A.length + V.length + U.length
     · rw [if_pos h3, elt_app1 _ _ _ (by omega), elt_app2 A _ _ (by omega), elt_app1 U _ _ (by omega)]; congr 1; omega
     · rw [if_neg h3, elt_app2 U _ _ (by omega), elt_app2 A _ _ (by omega), elt_app2 U _ _ (by omega), elt_app2 V _ _ (by omega)]; congr 1; omega
def Rot (a m b : Nat) (P P' : List α) : Prop := ∃ A U V B, P = A ++ (U ++ (V ++ B)) ∧ P' = A ++ (V ++ (U ++ B)) ∧ A.length = a ∧ U.length = m - a ∧ V.length = b - m
theorem Rot.rg {a m b : Nat} {P P' : List α} (h : Rot a m b P P') (h1 : a ≤ m) (h2 : m ≤ b) : Rg a b P P' := by
 obtain ⟨A, U, V, B, rfl, rfl, rfl, hu, hv⟩ := h
 refine ⟨by simp; omega, fun x hx => ?_, ?_⟩
 · rw [rot_at]
   rcases hx with hx | hx
   · rw [if_pos hx]
   · rw [if_neg (by omega), if_neg (by omega), if_neg (by omega)]
 · rw [List.drop_left' rfl, List.drop_left' rfl, ← List.append_assoc, ← List.append_assoc, List.take_left' (by simp; omega), List.take_left' (by simp; omega)]
   exact List.perm_append_comm
theorem Rot.at {a m b : Nat} {P P' : List α} (h : Rot a m b P P') (h1 : a ≤ m) (h2 : m ≤ b) (x : Nat) : elt P' x = if x < a then elt P x else if x < a + (b - m) then elt P (x + (m - a)) else if x < b then elt P (x - (b - m)) else elt P x := by
 obtain ⟨A, U, V, B, rfl, rfl, rfl, hu, hv⟩ := h
 rw [rot_at, hu, hv]
 rw [show A.length + (b - m) + (m - A.length) = b by omega]
theorem Rot.triv {β : Type} {a m b : Nat} {P : List β} (h1 : a ≤ m) (h2 : m ≤ b) (hb : b ≤ P.length) (h : m = a ∨ m = b) : Rot a m b P P := by
 refine ⟨P.take a, (P.drop a).take (m - a), (P.drop m).take (b - m), P.drop b, ?_, ?_, by simp; omega, by simp; omega, by simp; omega⟩
 · have e1 : (P.drop m).take (b - m) ++ P.drop b = P.drop m := by
    have := List.take_append_drop (b - m) (P.drop m)
    rw [List.drop_drop, show m + (b - m) = b by omega] at this; exact this
   have e2 : (P.drop a).take (m - a) ++ P.drop m = P.drop a := by
    have := List.take_append_drop (m - a) (P.drop a)
    rw [List.drop_drop, show a + (m - a) = m by omega] at this; exact this
   rw [e1, e2, List.take_append_drop]
 · rcases h with rfl | rfl
   · rw [Nat.sub_self, List.take_zero, List.nil_append]
     have e1 : (P.drop m).take (b - m) ++ P.drop b = P.drop m := by
      have := List.take_append_drop (b - m) (P.drop m)
      rw [List.drop_drop, show m + (b - m) = b by omega] at this; exact this
     rw [e1, List.take_append_drop]
   · rw [Nat.sub_self, List.take_zero, List.nil_append]
     have e2 : (P.drop a).take (m - a) ++ P.drop m = P.drop a := by
      have := List.take_append_drop (m - a) (P.drop a)
      rw [List.drop_drop, show a + (m - a) = m by omega] at this; exact this
     rw [e2, List.take_append_drop]
theorem sym_parts {a m b mid st en : Nat} {P Q : List α} (h1 : Asc key a m P) (h2 : Asc key m b P) (ham : a < m) (hmb : m < b) (hmid : mid = (a + b) / 2) (hen : en = mid + m - st) (hs1 : a ≤ st) (hs2 : st ≤ m) (hs3 : st ≤ mid) (he1 : m ≤ en) (he2 : en ≤ b)
 (hlo : a < st → m ≤ en → en < b → key (elt P (st - 1)) ≤ key (elt P en)) (hhi : m < en → st < m → key (elt P (en - 1)) ≤ key (elt P st)) (hr : Rot st m en P Q) :
 Asc key a st Q ∧ Asc key st mid Q ∧ Asc key mid en Q ∧ Asc key en b Q ∧ ∀ x y, a ≤ x → x < mid → mid ≤ y → y < b → key (elt Q x) ≤ key (elt Q y) := by
 have ha := hr.at hs2 he1
 have em : st + (en - m) = mid := by omega
 rw [em] at ha
 have hA : ∀ x, x < st → elt Q x = elt P x := fun x h => by rw [ha, if_pos h]
 have hB : ∀ x, st ≤ x → x < mid → elt Q x = elt P (x + (m - st)) := fun x h h' => by rw [ha, if_neg (by omega), if_pos h']
 have hC : ∀ x, mid ≤ x → x < en → elt Q x = elt P (x - (en - m)) := fun x h h' => by rw [ha, if_neg (by omega), if_neg (by omega), if_pos h']
 have hD : ∀ x, en ≤ x → elt Q x = elt P x := fun x h => by rw [ha, if_neg (by omega), if_neg (by omega), if_neg (by omega)]
 clear ha hr
 refine ⟨h1.sub (Nat.le_refl _) hs2 |>.same fun x _ hx => hA x hx, ?_, ?_, h2.sub he1 (Nat.le_refl _) |>.same fun x hx _ => hD x hx, ?_⟩
 · intro i j k1 k2 k3
   rw [hB i k1 (by omega), hB j (by omega) k3]
   exact h2 _ _ (by omega) (by omega) (by omega)
 · intro i j k1 k2 k3
   rw [hC i k1 (by omega), hC j (by omega) k3]
   exact h1 _ _ (by omega) (by omega) (by omega)
 · intro x y k1 k2 k3 k4
   by_cases c1 : x < st
   · rw [hA x c1]
     by_cases c2 : y < en
     · rw [hC y k3 c2]; exact h1 _ _ (by omega) (by omega) (by omega)
     · rw [hD y (by omega)]
       have t1 := h1 x (st - 1) k1 (by omega) (by omega)
       have t2 := hlo (by omega) he1 (by omega)
       have t3 := h2 en y he1 (by omega) k4
       omega
   · rw [hB x (by omega) k2]
     by_cases c2 : y < en
     · rw [hC y k3 c2]
       have t1 := h2 (x + (m - st)) (en - 1) (by omega) (by omega) (by omega)
       have t2 := hhi (by omega) (by omega)
       have t3 := h1 st (y - (en - m)) hs1 (by omega) (by omega)
       omega
     · rw [hD y (by omega)]; exact h2 _ _ (by omega) (by omega) (by omega)
theorem sym_join {a mid b : Nat} {Q R S : List α} (h1 : a ≤ mid) (h2 : mid ≤ b) (hb : b ≤ Q.length) (hx : ∀ x y, a ≤ x → x < mid → mid ≤ y → y < b → key (elt Q x) ≤ key (elt Q y)) (r1 : Rg a mid Q R) (r2 : Rg mid b R S) (s1 : Asc key a mid R) (s2 : Asc key mid b S) : Asc key a b S ∧ Rg a b Q S := by
 refine ⟨fun i j k1 k2 k3 => ?_, (r1.wide (Nat.le_refl _) h2 h1 (by omega)).trans (r2.wide h1 (Nat.le_refl _) h2 (by rw [r1.len]; omega))⟩
 by_cases c1 : j < mid
 · rw [r2.out i (by omega), r2.out j (by omega)]; exact s1 i j k1 k2 c1
 · by_cases c2 : i < mid
   · obtain ⟨x, x1, x2, ex⟩ := r1.from (by omega) k1 c2
     obtain ⟨y, y1, y2, ey⟩ := r2.from (by rw [r1.len]; omega) (show mid ≤ j by omega) k3
     rw [r2.out i (by omega), ex, ey, r1.out y (by omega)]
     exact hx x y x1 x2 y1 y2
   · exact s2 i j (by omega) k2 k3
theorem ins_asc {lo i p : Nat} {P Q : List α} (h1 : Asc key lo i P) (hp1 : lo ≤ p) (hp2 : p ≤ i) (e1 : ∀ x, x < p → elt Q x = elt P x) (e2 : elt Q p = elt P i) (e3 : ∀ x, p < x → x ≤ i → elt Q x = elt P (x - 1))
 (hlo : lo < p → key (elt P (p - 1)) ≤ key (elt P i)) (hhi : p < i → key (elt P i) ≤ key (elt P p)) : Asc key lo (i + 1) Q := by
 intro x y k1 k2 k3
 by_cases c1 : x < p
 · rw [e1 x c1]
   by_cases c2 : y < p
   · rw [e1 y c2]; exact h1 x y k1 k2 (by omega)
   · by_cases c3 : y = p
     · rw [c3, e2]; have := h1 x (p - 1) k1 (by omega) (by omega); have := hlo (by omega); omega
     · rw [e3 y (by omega) (by omega)]; exact h1 x (y - 1) k1 (by omega) (by omega)
 · by_cases c2 : x = p
   · rw [c2, e2]
     by_cases c3 : y = p
     · rw [c3, e2]; exact Int.le_refl _
     · rw [e3 y (by omega) (by omega)]
       have := h1 p (y - 1) (by omega) (by omega) (by omega); have := hhi (by omega); omega
   · rw [e3 x (by omega) (by omega), e3 y (by omega) (by omega)]
     exact h1 (x - 1) (y - 1) (by omega) (by omega) (by omega)
end
section
variable {α : Type} [Inhabited α] {key : α → Int}
structure Dn (i j : Nat) (P Q : List α) : Prop where
 len : Q.length = P.length
 lo : ∀ x, x < j → elt Q x = elt P x
 eq : elt Q j = elt P i
 mid : ∀ x, j < x → x ≤ i → elt Q x = elt P (x - 1)
 hi : ∀ x, i < x → elt Q x = elt P x
theorem Dn.refl (i : Nat) (P : List α) : Dn i i P P := ⟨rfl, fun _ _ => rfl, rfl, fun x h1 h2 => by omega, fun _ _ => rfl⟩
theorem Dn.step {i j : Nat} {P Q : List α} (h : Dn i j P Q) (h1 : 0 < j) (h2 : j ≤ i) (h3 : i < P.length) : Dn i (j - 1) P (swp Q j (j - 1)) := by
 have hl := h.len
 have e := fun x => elt_swp Q j (j - 1) x (by omega) (by omega)
 refine ⟨by rw [swp_len, hl], fun x hx => ?_, ?_, fun x k1 k2 => ?_, fun x hx => ?_⟩
 · rw [e, if_neg (by omega), if_neg (by omega), h.lo x (by omega)]
 · rw [e, if_pos rfl, h.eq]
 · rw [e, if_neg (by omega)]
   by_cases c : j = x
   · rw [if_pos c, h.lo _ (by omega), c]
   · rw [if_neg c, h.mid x (by omega) k2]
 · rw [e, if_neg (by omega), if_neg (by omega), h.hi x hx]
theorem Dn.asc {lo i p : Nat} {P Q : List α} (h : Dn i p P Q) (h1 : Asc key lo i P) (hp1 : lo ≤ p) (hp2 : p ≤ i) (hlo : lo < p → key (elt P (p - 1)) ≤ key (elt P i)) (hhi : p < i → key (elt P i) ≤ key (elt P p)) : Asc key lo (i + 1) Q :=
 ins_asc h1 hp1 hp2 h.lo h.eq h.mid hlo hhi
structure Upw (a k : Nat) (P Q : List α) : Prop where
 len : Q.length = P.length
 lo : ∀ x, x < a → elt Q x = elt P x
 mid : ∀ x, a ≤ x → x < k → elt Q x = elt P (x + 1)
 eq : elt Q k = elt P a
 hi : ∀ x, k < x → elt Q x = elt P x
theorem Upw.refl (i : Nat) (P : List α) : Upw i i P P := ⟨rfl, fun _ _ => rfl, fun x h1 h2 => by omega, rfl, fun _ _ => rfl⟩
theorem Upw.step {a k : Nat} {P Q : List α} (h : Upw a k P Q) (h1 : a ≤ k) (h3 : k + 1 < P.length) : Upw a (k + 1) P (swp Q k (k + 1)) := by
 have hl := h.len
 have e := fun x => elt_swp Q k (k + 1) x (by omega) (by omega)
 refine ⟨by rw [swp_len, hl], fun x hx => ?_, fun x k1 k2 => ?_, ?_, fun x hx => ?_⟩
 · rw [e, if_neg (by omega), if_neg (by omega), h.lo x hx]
 · rw [e, if_neg (by omega)]
   by_cases c : k = x
   · rw [if_pos c, h.hi _ (by omega), c]
   · rw [if_neg c, h.mid x k1 (by omega)]
 · rw [e, if_pos rfl, h.eq]
 · rw [e, if_neg (by omega), if_neg (by omega), h.hi x (by omega)]
theorem Upw.asc {a p b : Nat} {P Q : List α} (h : Upw a p P Q) (h1 : Asc key (a + 1) b P) (hp1 : a ≤ p) (hp2 : p < b) (hlo : a < p → key (elt P p) ≤ key (elt P a)) (hhi : p + 1 < b → key (elt P a) ≤ key (elt P (p + 1))) : Asc key a b Q := by
 intro x y k1 k2 k3
 by_cases c1 : x < p
 · rw [h.mid x k1 c1]
   by_cases c2 : y < p
   · rw [h.mid y (by omega) c2]; exact h1 _ _ (by omega) (by omega) (by omega)
   · by_cases c3 : y = p
     · rw [c3, h.eq]; have := h1 (x + 1) p (by omega) (by omega) (by omega); have := hlo (by omega); omega
     · rw [h.hi y (by omega)]; exact h1 _ _ (by omega) (by omega) (by omega)
 · by_cases c2 : x = p
   · rw [c2, h.eq]
     by_cases c3 : y = p
     · rw [c3, h.eq]; exact Int.le_refl _
     · rw [h.hi y (by omega)]
       have := hhi (by omega); have := h1 (p + 1) y (by omega) (by omega) (by omega); omega
   · rw [h.hi x (by omega), h.hi y (by omega)]; exact h1 _ _ (by omega) (by omega) (by omega)
structure Swr (a b t : Nat) (P Q : List α) : Prop where
 len : Q.length = P.length
 one : ∀ x, a ≤ x → x < a + t → elt Q x = elt P (x - a + b)
 two : ∀ x, b ≤ x → x < b + t → elt Q x = elt P (x - b + a)
 out : ∀ x, (x < a ∨ a + t ≤ x) → (x < b ∨ b + t ≤ x) → elt Q x = elt P x
theorem Swr.refl (a b : Nat) (P : List α) : Swr a b 0 P P := ⟨rfl, fun x h1 h2 => by omega, fun x h1 h2 => by omega, fun _ _ _ => rfl⟩
theorem Swr.step {a b t : Nat} {P Q : List α} (h : Swr a b t P Q) (h1 : a + t < b) (h2 : b + t < P.length) : Swr a b (t + 1) P (swp Q (a + t) (b + t)) := by
 have hl := h.len
 have e := fun x => elt_swp Q (a + t) (b + t) x (by omega) (by omega)
 refine ⟨by rw [swp_len, hl], fun x k1 k2 => ?_, fun x k1 k2 => ?_, fun x k1 k2 => ?_⟩
 · rw [e, if_neg (by omega)]
   by_cases c : a + t = x
   · rw [if_pos c, h.out _ (by omega) (by omega)]; congr 1; omega
   · rw [if_neg c, h.one x k1 (by omega)]
 · rw [e]
   by_cases c : b + t = x
   · rw [if_pos c, h.out _ (by omega) (by omega)]; congr 1; omega
   · rw [if_neg c, if_neg (by omega), h.two x k1 (by omega)]
 · rw [e, if_neg (by omega), if_neg (by omega), h.out x (by omega) (by omega)]
theorem Swr.blocks {A U C V B Q : List α} {n : Nat} (hu : U.length = n) (hv : V.length = n) (h : Swr A.length (A.length + n + C.length) n (A ++ (U ++ (C ++ (V ++ B)))) Q) : Q = A ++ (V ++ (C ++ (U ++ B))) := by
 have hl := h.len
 refine elt_ext (by rw [hl]; simp; omega) fun x hx => ?_
 rw [hl] at hx
 simp at hx
 by_cases c1 : x < A.length
 · rw [h.out x (by omega) (by omega), elt_app1 _ _ _ c1, elt_app1 _ _ _ c1]
 · rw [elt_app2 A (V ++ (C ++ (U ++ B))) _ (by omega)]
   by_cases c2 : x < A.length + n
   · rw [h.one x (by omega) c2, elt_app1 V _ _ (by omega), elt_app2 A _ _ (by omega), elt_app2 U _ _ (by omega), elt_app2 C _ _ (by omega), elt_app1 V _ _ (by omega)]; congr 1; omega
   · rw [elt_app2 V (C ++ (U ++ B)) _ (by omega)]
     by_cases c3 : x < A.length + n + C.length
     · rw [h.out x (by omega) (by omega), elt_app1 C (U ++ B) _ (by omega), elt_app2 A _ _ (by omega), elt_app2 U _ _ (by omega), elt_app1 C _ _ (by omega)]; congr 1; omega
     · rw [elt_app2 C (U ++ B) _ (by omega)]
       by_cases c4 : x < A.length + n + C.length + n
       · rw [h.two x (by omega) c4, elt_app1 U B _ (by omega), elt_app2 A _ _ (by omega), elt_app1 U _ _ (by omega)]; congr 1; omega
       · rw [h.out x (by omega) (by omega), elt_app2 U B _ (by omega), elt_app2 A _ _ (by omega), elt_app2 U _ _ (by omega), elt_app2 C _ _ (by omega), elt_app2 V _ _ (by omega)]; congr 1; omega
theorem Rot.left {A U V B Q : List α} {i j : Nat} (hu : U.length = i) (hv : V.length = j) (hij : j ≤ i) (h : Swr A.length (A.length + i) j (A ++ (U ++ (V ++ B))) Q) :
 ∃ U1 U2, U = U1 ++ U2 ∧ U1.length = j ∧ U2.length = i - j ∧ Q = (A ++ V) ++ (U2 ++ (U1 ++ B)) ∧ A ++ (V ++ (U ++ B)) = (A ++ V) ++ (U1 ++ (U2 ++ B)) := by
 have e : U = U.take j ++ U.drop j := (List.take_append_drop _ _).symm
 refine ⟨U.take j, U.drop j, e, by simp; omega, by simp; omega, ?_, ?_⟩
 · rw [e, List.append_assoc] at h
   have := Swr.blocks (A := A) (U := U.take j) (C := U.drop j) (V := V) (B := B) (n := j) (Q := Q) (by simp; omega) hv (by
    rw [show A.length + j + (U.drop j).length = A.length + i by simp; omega]; exact h)
   rw [this, List.append_assoc]
 · conv => lhs; rw [e]
   simp only [List.append_assoc]
theorem Rot.right {A U V B Q : List α} {i j : Nat} (hu : U.length = i) (hv : V.length = j) (hij : i ≤ j) (h : Swr A.length (A.length + j) i (A ++ (U ++ (V ++ B))) Q) :
 ∃ V1 V2, V = V1 ++ V2 ∧ V1.length = j - i ∧ V2.length = i ∧ Q = A ++ (V2 ++ (V1 ++ (U ++ B))) ∧ A ++ (V ++ (U ++ B)) = A ++ (V1 ++ (V2 ++ (U ++ B))) := by
 have e : V = V.take (j - i) ++ V.drop (j - i) := (List.take_append_drop _ _).symm
 refine ⟨V.take (j - i), V.drop (j - i), e, by simp; omega, by simp; omega, ?_, ?_⟩
 · rw [e, List.append_assoc] at h
   have := Swr.blocks (A := A) (U := U) (C := V.take (j - i)) (V := V.drop (j - i)) (B := B) (n := i) (Q := Q) hu (by simp; omega) (by
    rw [show A.length + i + (V.take (j - i)).length = A.length + j by simp; omega]; exact h)
   exact this
 · conv => lhs; rw [e]
   simp only [List.append_assoc]
end

end Go.Proofs.YtehbjhocgnfpmaaDoor
/- Rows of records: elements of s cells, each the encoding of something. -/
namespace Go.Proofs.YtehbjhocgnfpmaaDoor
set_option maxRecDepth 100000
open Go.RowKit
set_option linter.unusedVariables false
theorem flat_len {α : Type} (enc : α → List Value) (m : Nat) (he : ∀ x, (enc x).length = m) (l : List α) : (l.flatMap enc).length = l.length * m := by
 induction l with
 | nil => simp
 | cons x l ih => rw [List.flatMap_cons, List.length_append, ih, he, List.length_cons, Nat.add_mul, Nat.one_mul, Nat.add_comm]
theorem setCells_row (w : World) (g : Nat) (t : TypeId) (A B D : List Value) : ∀ (vs B A : List Value) (w : World) (cur : Array Value), w.heap[g]? = some (.cells cur t) → cur.toList = A ++ (B ++ D) → B.length = vs.length → ∃ cur' : Array Value, (w.setCells g A.length vs).heap[g]? = some (.cells cur' t) ∧ cur'.toList = A ++ (vs ++ D) ∧ Only [g] w (w.setCells g A.length vs)
 | [], [], A, w, cur, h, e, _ => ⟨cur, h, e, ⟨rfl, rfl, rfl, Nat.le_refl _, fun _ _ _ => rfl⟩⟩
 | [], _ :: _, A, w, cur, h, e, hl => by simp at hl
 | _ :: _, [], A, w, cur, h, e, hl => by simp at hl
 | v :: vs, b :: B, A, w, cur, h, e, hl => by
  have h1 := heap_setCell_same w g A.length cur t v h
  have e1 : (cur.setIfInBounds A.length v).toList = (A ++ [v]) ++ (B ++ D) := by
   rw [Array.toList_setIfInBounds, e]; simp
  obtain ⟨cur', h2, h3, h4⟩ := setCells_row w g t A B D vs B (A ++ [v]) _ _ h1 e1 (by simpa using hl)
  have e2 : w.setCells g A.length (v :: vs) = (w.setCell ⟨g, A.length, none⟩ v).setCells g (A ++ [v]).length vs := by
   rw [World.setCells, List.length_append]; rfl
  rw [e2]
  have h5 := Only.setCell w ⟨g, A.length, none⟩ v
  exact ⟨cur', h2, by rw [h3]; simp, ⟨h4.os.trans h5.os, h4.tape.trans h5.tape, h4.output.trans h5.output, Nat.le_trans h5.size h4.size, fun k hk hm => (h4.block k (Nat.lt_of_lt_of_le hk h5.size) hm).trans (h5.block k hk hm)⟩⟩
section
variable {α : Type} [Inhabited α]
theorem flat_at (enc : α → List Value) (m : Nat) (he : ∀ x, (enc x).length = m) : ∀ (l : List α) (j : Nat), j < l.length → ((l.flatMap enc).drop (j * m)).take m = enc (elt l j)
 | [], j, h => by simp at h
 | x :: l, 0, h => by rw [Nat.zero_mul, List.drop_zero, List.flatMap_cons, List.take_left' (he x)]; simp [elt]
 | x :: l, j + 1, h => by
  rw [List.flatMap_cons, Nat.add_mul, Nat.one_mul, Nat.add_comm, ← List.drop_drop, List.drop_left' (he x), flat_at enc m he l j (by simpa using h)]
  simp [elt]
theorem flat_set (enc : α → List Value) (m : Nat) (he : ∀ x, (enc x).length = m) (z : α) : ∀ (l : List α) (j : Nat), j < l.length → ∃ A B, l.flatMap enc = A ++ (enc (elt l j) ++ B) ∧ (l.set j z).flatMap enc = A ++ (enc z ++ B) ∧ A.length = j * m
 | [], j, h => by simp at h
 | x :: l, 0, h => ⟨[], l.flatMap enc, by simp [elt], by simp, by simp⟩
 | x :: l, j + 1, h => by
  obtain ⟨A, B, e1, e2, e3⟩ := flat_set enc m he z l j (by simpa using h)
  refine ⟨enc x ++ A, B, ?_, ?_, ?_⟩
  · rw [List.flatMap_cons, e1, List.append_assoc]; simp [elt]
  · rw [List.set_cons_succ, List.flatMap_cons, e2, List.append_assoc]
  · rw [List.length_append, he, e3, Nat.add_mul, Nat.one_mul, Nat.add_comm]
end
section
variable {α : Type} {P : Program} {W w : World} {rs rs' : List Res} {Q : Exit → Act → World → Prop} {K : Act → World → Prop} {o : Oper} {a : Act}
theorem own_recs {e : TypeId} {n c m : Nat} {ad : Option Addr} {enc : α → List Value} {l : List α} (hS : St W w rs) (hp : Pull (own e m ad n c (l.flatMap enc)) rs rs') (he : ∀ x, (enc x).length = m) (hm : 0 < m) : l.length = n := by
 have := (hS.own hp).1
 rw [flat_len enc m he] at this
 exact Nat.eq_of_mul_eq_mul_right hm this
theorem wp_loadE (hS : St W w rs) (ty : TypeId) (x : Operand) (ho : o.op = .load ty x) (g q : Nat) (hx : a.eval x = .pointer (some ⟨g, q, none⟩)) (m : Nat) (h1 : RowN P ty m) (e : TypeId) (n c : Nat) (l : List α) (enc : α → List Value) (hp : Pull (own e m (some ⟨g, 0, none⟩) n c (l.flatMap enc)) rs rs')
 (inst : Inhabited α) (he : ∀ x, (enc x).length = m) (j : Nat) (hq : q = j * m) (hj : j < n) (h : K (a.put o.dst (.agg (enc (elt l j)).toArray)) w) : o.wp P a w K Q := by
 subst hq
 have hl := (hS.own hp).1
 rw [flat_len enc m he] at hl
 refine wp_loadR ty x ho g _ hx m h1 (enc (elt l j)) (he _) ?_ h
 have := own_range (off := j * m) (m := m) hS hp
 rcases Nat.eq_zero_or_pos m with h0 | h0
 · have e0 : enc (elt l j) = [] := List.eq_nil_of_length_eq_zero (by rw [he, h0])
   rw [e0]; intro i v hv; simp at hv
 · have hln : l.length = n := Nat.eq_of_mul_eq_mul_right h0 hl
   rwa [flat_at enc m he l j (by omega)] at this
theorem wp_load1E (hS : St W w rs) (ty : TypeId) (x : Operand) (ho : o.op = .load ty x) (g q : Nat) (hx : a.eval x = .pointer (some ⟨g, q, none⟩)) (h1 : One P ty) (e : TypeId) (m n c : Nat) (l : List α) (enc : α → List Value) (hp : Pull (own e m (some ⟨g, 0, none⟩) n c (l.flatMap enc)) rs rs')
 (inst : Inhabited α) (he : ∀ x, (enc x).length = m) (j f : Nat) (hq : q = j * m + f) (hj : j < n) (v : Value) (hv : (enc (elt l j))[f]? = some v) (h : K (a.put o.dst v) w) : o.wp P a w K Q := by
 subst hq
 have hf : f < m := by rw [← he (elt l j)]; exact (List.getElem?_eq_some_iff.1 hv).1
 have hl := own_recs hS hp he (by omega)
 refine wp_load1O hS ty x ho g _ hx h1 e m n c _ hp v ?_ h
 have := flat_at enc m he l j (by omega)
 rw [← this, List.getElem?_take, if_pos hf, List.getElem?_drop] at hv
 exact hv
theorem wp_load1E0 (hS : St W w rs) (ty : TypeId) (x : Operand) (ho : o.op = .load ty x) (g q : Nat) (hx : a.eval x = .pointer (some ⟨g, q, none⟩)) (h1 : One P ty) (e : TypeId) (m n c : Nat) (l : List α) (enc : α → List Value) (hp : Pull (own e m (some ⟨g, 0, none⟩) n c (l.flatMap enc)) rs rs')
 (inst : Inhabited α) (he : ∀ x, (enc x).length = m) (j : Nat) (hq : q = j * m) (hj : j < n) (v : Value) (hv : (enc (elt l j))[0]? = some v) (h : K (a.put o.dst v) w) : o.wp P a w K Q :=
 wp_load1E hS ty x ho g q hx h1 e m n c l enc hp inst he j 0 hq hj v hv h
theorem wp_storeE (hS : St W w rs) (ty : TypeId) (x y : Operand) (ho : o.op = .store ty x y) (g q : Nat) (hx : a.eval x = .pointer (some ⟨g, q, none⟩)) (m : Nat) (h1 : RowN P ty m) (e : TypeId) (n c : Nat) (l : List α) (enc : α → List Value) (hp : Pull (own e m (some ⟨g, 0, none⟩) n c (l.flatMap enc)) rs rs')
 (inst : Inhabited α) (he : ∀ x, (enc x).length = m) (hone : ∀ x, (enc x).all (·.oneCell') = true) (j : Nat) (hq : q = j * m) (hj : j < n) (z : α) (hy : a.eval y = .agg (enc z).toArray) (hd : o.dst = none) (h : ∀ w', St W w' (own e m (some ⟨g, 0, none⟩) n c ((l.set j z).flatMap enc) :: rs') → K a w') : o.wp P a w K Q := by
 subst hq
 have hown := hS.own hp
 have hlen := hown.1
 rw [flat_len enc m he] at hlen
 rcases hown.2 with ⟨h2, _⟩ | ⟨g', cap, cur, h2, hb, hg, hn, hc, hsz, htake⟩
 · cases h2
 · cases h2
   have hln : m = 0 ∨ l.length = n := by
    rcases Nat.eq_zero_or_pos m with h0 | h0
    · exact .inl h0
    · exact .inr (Nat.eq_of_mul_eq_mul_right h0 hlen)
   have hjm : j * m + m ≤ n * m := by have := Nat.mul_le_mul_right m hj; rwa [Nat.succ_mul] at this
   have hcm : n * m ≤ c * m := Nat.mul_le_mul_right m hn
   refine wp_store_mid ty x y ho g (j * m) (enc z).toArray hx hy ?_ (by rw [h1.2]; simp [he]) (by simpa using hone z) ?_
   · intro i hi
     rw [List.size_toArray, he] at hi
     refine ⟨?_, frozen_of_row w g _ cur e hg⟩
     have := own_cell hS hp (k := j * m + i) (v := (l.flatMap enc)[j * m + i]'(by rw [flat_len enc m he]; omega)) (by rw [List.getElem?_eq_getElem])
     rw [this]; rfl
   · rw [show a.put o.dst undef = a by rw [hd]; rfl]
     refine h _ ?_
     refine St.change (rs1 := [own e m (some ⟨g, 0, none⟩) n c ((l.set j z).flatMap enc)]) (hS.pull hp) fun f1 k1 _ _ => ?_
     obtain ⟨rfl, _⟩ := k1
     rcases hln with h0 | hln
     · have e0 : ∀ y, enc y = [] := fun y => List.eq_nil_of_length_eq_zero (by rw [he, h0])
       have e1 : ∀ l : List α, l.flatMap enc = [] := fun l => List.eq_nil_of_length_eq_zero (by rw [flat_len enc m he, h0, Nat.mul_zero])
       rw [e0, e1]
       refine ⟨[g], ⟨[g], [], rfl, ⟨rfl, by simp [h0], .inr ⟨g, c, cur, rfl, hb, hg, hn, hc, hsz, by rw [h0]; simp⟩⟩, rfl⟩, by simp, fun b hb => .inl hb, ⟨rfl, rfl, rfl, Nat.le_refl _, fun _ _ _ => rfl⟩⟩
     · obtain ⟨A, B, e1, e2, e3⟩ := flat_set enc m he z l j (by omega)
       have ecur : cur.toList = A ++ (enc (elt l j) ++ (B ++ cur.toList.drop (n * m))) := by
        conv => lhs; rw [← List.take_append_drop (n * m) cur.toList, htake, e1]
        simp
       obtain ⟨cur', k2, k3, k4⟩ := setCells_row w g e [] [] (B ++ cur.toList.drop (n * m)) (enc z) (enc (elt l j)) A w cur hg ecur (by rw [he, he])
       rw [← e3]
       have hAB : (A ++ (enc z ++ B)).length = n * m := by rw [← e2, flat_len enc m he, List.length_set, hln]
       refine ⟨[g], ⟨[g], [], rfl, ⟨rfl, by rw [flat_len enc m he, List.length_set, hln], .inr ⟨g, c, cur', rfl, hb, k2, hn, hc, ?_, ?_⟩⟩, rfl⟩, by simp, fun b hb => .inl hb, k4⟩
       · have a1 := congrArg List.length k3
         have a2 := congrArg List.length ecur
         simp only [List.length_append, Array.length_toList, he] at a1 a2
         omega
       · have a3 : cur'.toList = (A ++ (enc z ++ B)) ++ cur.toList.drop (n * m) := by rw [k3]; simp
         rw [a3, List.take_left' hAB, e2]
end
structure PkV where
 w : Int
 ad : Option Addr
 n : Nat
 c : Nat
instance : Inhabited PkV := ⟨⟨0, none, 0, 0⟩⟩
def pkE (p : PkV) : List Value := [.int .i64 p.w, .slice p.ad p.n p.c]
theorem pkE_len : ∀ p, (pkE p).length = 2 := fun _ => rfl
theorem pkE_one : ∀ p, (pkE p).all (·.oneCell') = true := fun _ => rfl

end Go.Proofs.YtehbjhocgnfpmaaDoor