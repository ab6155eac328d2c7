/- The law SizeBack: its walk, and the statement. -/
import Derived.Test.YtbihmbkkoidnbaaSize
import Derived.Test.YtbihmbkkoidnbaaOpen
namespace Go.Proofs.Ytbihmbkkoidnbaa
open Go.ChangeShapes Go.WideShapes Go.ChangeAt Go.RowKit
set_option linter.unusedVariables false
theorem blen_range (m : Nat) : m = 0 ∧ blen m = 0 ∨ ∃ r, blen m = r + 1 ∧ 2 ^ r ≤ m ∧ m < 2 ^ (r + 1) := by
  obtain ⟨h1, h2⟩ := blen_spec m
  by_cases h : m = 0
  · left; exact ⟨h, by subst h; rfl⟩
  · right
    obtain ⟨h3, h4⟩ := h2 (by omega)
    exact ⟨blen m - 1, by omega, h4, by rw [Nat.sub_add_cancel h3]; exact h1⟩
theorem sv_spec (n : Int) : ∃ v : Nat, sv n = (v : Int) ∧ v < 2 ^ sz n ∧ sback (sz n) v = n := by
  unfold sv sz sback
  rcases blen_range n.natAbs with ⟨h1, h2⟩ | ⟨r, h2, h3, h4⟩
  · have : n = 0 := by omega
    subst this
    exact ⟨0, by simp, by rw [h2]; simp, by rw [h2]; simp⟩
  · rw [h2]
    have hp := Nat.pow_succ 2 r
    by_cases hn : n < 0
    · rw [if_pos hn]
      refine ⟨2 ^ (r + 1) - 1 - n.natAbs, by omega, by omega, ?_⟩
      rw [if_pos ⟨by omega, by rw [Nat.add_sub_cancel]; omega⟩]
      omega
    · rw [if_neg hn]
      refine ⟨n.natAbs, by omega, by omega, ?_⟩
      rw [if_neg (by rw [Nat.add_sub_cancel]; omega)]
      omega
theorem sback_spec (k v : Nat) (h : v < 2 ^ k) : sz (sback k v) = k ∧ sv (sback k v) = (v : Int) := by
  unfold sback
  rcases Nat.eq_zero_or_pos k with rfl | hk
  · have : v = 0 := by simpa using h
    subst this
    exact ⟨rfl, rfl⟩
  · obtain ⟨r, rfl⟩ : ∃ r, k = r + 1 := ⟨k - 1, by omega⟩
    rw [Nat.add_sub_cancel]
    have hp := Nat.pow_succ 2 r
    by_cases hv : v < 2 ^ r
    · rw [if_pos ⟨hk, hv⟩]
      have e1 : sz ((v : Int) - ((2 ^ (r + 1) - 1 : Nat) : Int)) = r + 1 := by
        unfold sz
        exact blen_unique _ _ (by omega) (by omega)
      refine ⟨e1, ?_⟩
      unfold sv
      rw [e1, if_pos (by omega)]
      omega
    · rw [if_neg (fun h => hv h.2)]
      have e1 : sz (v : Int) = r + 1 := by
        unfold sz
        exact blen_unique _ _ (by omega) (by omega)
      refine ⟨e1, ?_⟩
      unfold sv
      rw [if_neg (by omega)]
theorem sback_bd (k v : Nat) (hk : k ≤ 12) (h : v < 2 ^ k) : -4096 < sback k v ∧ sback k v < 4096 := by
  have hp1 : 2 ^ k ≤ 2 ^ 12 := Nat.pow_le_pow_right (by omega) hk
  unfold sback
  split <;> omega
set_option maxHeartbeats 4000000 in
theorem SizeBack_walk {H : Type} {enc : TypeId × Value → H} {d0 d1 d2 : DataW H} {p0 p1 p2 : List MemPlace} {v0 v1 v2 : Value} {base : Nat} (W : World)
    (o0 : Value.okWide Try.prog W .any base 3 v0) (h0 : DataW.Trod enc Try.prog W 0 (fun _ => true) true 3 v0 d0 p0) (lt0 : ∀ x ∈ p0, x.block < W.heap.size)
    (o1 : Value.okWide Try.prog W .any base 3 v1) (h1 : DataW.Trod enc Try.prog W 0 (fun _ => true) true 3 v1 d1 p1) (lt1 : ∀ x ∈ p1, x.block < W.heap.size)
    (o2 : Value.okWide Try.prog W .any base 3 v2) (h2 : DataW.Trod enc Try.prog W 0 (fun _ => true) true 3 v2 d2 p2) (lt2 : ∀ x ∈ p2, x.block < W.heap.size)
    :
    Calls Try.prog 11 #[v0, v1, v2] W fun e w' => e = .returned (.bool true) ∧ Ext W w' := by
  obtain ⟨n0, rfl, _, _⟩ := op_int Try.underlying3 o0 h0
  obtain ⟨k0, rfl, _, _⟩ := op_int Try.underlying3 o1 h1
  obtain ⟨v0, rfl, hv0, hv1⟩ := op_int Try.underlying3 o2 h2
  clear o0 h0 lt0 o1 h1 lt1 o2 h2 lt2
  have r0 := Int.emod_nonneg n0 (b := 8191) (by omega)
  have r1 := Int.emod_lt_of_pos n0 (b := 8191) (by omega)
  have s0 := Int.emod_nonneg k0 (b := 13) (by omega)
  have s1 := Int.emod_lt_of_pos k0 (b := 13) (by omega)
  obtain ⟨x, hx⟩ : ∃ x, n0 % 8191 = x := ⟨_, rfl⟩
  obtain ⟨n, hn⟩ : ∃ n, x - 4095 = n := ⟨_, rfl⟩
  have HX := hid hx
  rw [hx] at r0 r1
  have hx2 : IntKind.i64.wrap (x - 4095) = n := by rw [hn]; simp [IntKind.wrap, IntKind.signed, IntKind.bits]; omega
  have hn1 : -4096 < n ∧ n < 4096 := by omega
  obtain ⟨k, hk⟩ : ∃ k : Nat, k0 % 13 = (k : Int) := ⟨(k0 % 13).toNat, by omega⟩
  have hk12 : k ≤ 12 := by omega
  have HK := hid hk
  clear hk hx hn s0 s1
  have hE := Ext.refl W
  obtain ⟨v, hv, hvl, hvb⟩ := sv_spec n
  have hs12 := sz_le n hn1
  have HA := hid (fun w => sizeBits_any n w hn1.1 hn1.2)
  have HB := hid (fun w => sizeBack_any (sz n) v w hs12 hvl)
  rw [hv] at HA
  rw [hvb] at HB
  have cast : ∀ j : Nat, ((2 : Int) ^ j) = ((2 ^ j : Nat) : Int) := fun j => by push_cast; rfl
  have p0 : (0 : Int) < (2 : Int) ^ k := by rw [cast]; have := Nat.two_pow_pos k; omega
  have p1 : (2 : Int) ^ k ≤ 4096 := by rw [cast]; have := Nat.pow_le_pow_right (n := 2) (j := 12) (by omega) hk12; omega
  have q0 : (0 : Int) < (2 : Int) ^ sz n := by rw [cast]; have := Nat.two_pow_pos (sz n); omega
  have q1 : (2 : Int) ^ sz n ≤ 4096 := by rw [cast]; have := Nat.pow_le_pow_right (n := 2) (j := 12) (by omega) hs12; omega
  have hvl2 : (v : Int) < (2 : Int) ^ sz n := by rw [cast]; omega
  have u0 := Int.emod_nonneg v0 (b := (2 : Int) ^ k) (by omega)
  have u1 := Int.emod_lt_of_pos v0 (b := (2 : Int) ^ k) p0
  obtain ⟨u, hu⟩ : ∃ u : Nat, v0 % ((2 : Int) ^ k) = (u : Int) := ⟨(v0 % (2 : Int) ^ k).toNat, by omega⟩
  have huP : u < 2 ^ k := by rw [hu, cast] at u1; omega
  have HU := hid hu
  obtain ⟨hb1, hb2⟩ := sback_bd k u hk12 huP
  obtain ⟨hb3, hb4⟩ := sback_spec k u huP
  have HC := hid (fun w => sizeBack_any k u w hk12 huP)
  have HD := hid (fun w => sizeBits_any (sback k u) w hb1 hb2)
  rw [hb3, hb4] at HD
  generalize sback k u = z at *
  generalize sz n = s at *
  have hv3 : (0 : Int) ≤ (v : Int) := by omega
  have hv4 : decide ((v : Int) < 0) = false := by simp
  have hv5 : decide ((2 : Int) ^ s ≤ (v : Int)) = false := by simp; omega
  have hs0 : (0 : Int) ≤ (s : Int) := by omega
  have hs64 : (s : Int) < 64 := by omega
  have hk0 : (0 : Int) ≤ (k : Int) := by omega
  have hk64 : (k : Int) < 64 := by omega
  have HRe := hid (fun w => rest_any v0 ((2 : Int) ^ k) w (by omega) (by omega))
  rw [HU.out] at HRe
  clear hb1 hb2 hb3 hb4 u0 u1 hu huP hvl hvb hv r0 r1 cast
  go_enter Try.func11, Try.ntmps11
  go_wp2_with (first
    | (go_at_call 22; refine (sized_any _).mono ?_; rintro e w' ⟨rfl, hE2⟩; replace hE := hE.trans hE2; clear hE2)
    | (go_at_call 16; (first | (with_reducible refine (HRe.out _).mono ?_) | (with_reducible refine (rest_any n0 8191 _ (by omega) (by omega)).mono ?_) | (with_reducible refine (rest_any k0 13 _ (by omega) (by omega)).mono ?_)); rintro e w' ⟨rfl, rfl⟩; first | rw [HX.out] | rw [HK.out] | skip)
    | (go_at_call 25; (first | (with_reducible refine (HB.out _).mono ?_) | (with_reducible refine (HC.out _).mono ?_)); rintro e w' ⟨rfl, rfl⟩)
    | (go_at_call 24; (first | (with_reducible refine (HA.out _).mono ?_) | (with_reducible refine (HD.out _).mono ?_)); rintro e w' ⟨rfl, rfl⟩))
  all_goals (try go_quiet (fail))
  all_goals (try go_wp2_with fail)
  all_goals (go_ret; exact ⟨rfl, hE⟩)
end Go.Proofs.Ytbihmbkkoidnbaa
