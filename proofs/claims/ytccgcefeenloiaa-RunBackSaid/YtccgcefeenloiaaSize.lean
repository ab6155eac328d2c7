/- The walks of package size, and of math/bits.Len below 65536. -/
import Derived.Test.YtccgcefeenloiaaShelf
import Derived.Test.YtccgcefeenloiaaBitsI
import Derived.Test.YtccgcefeenloiaaTint
import Derived.Test.YtccgcefeenloiaaOp
import Derived.Lib.ItoaNum
namespace Go.Proofs.Ytccgcefeenloiaa
open Go.RowKit
/-- How many bits a number has. -/
def blen (n : Nat) : Nat := if n = 0 then 0 else n.log2 + 1
theorem blen_spec (n : Nat) : n < 2 ^ blen n ∧ (0 < n → 1 ≤ blen n ∧ 2 ^ (blen n - 1) ≤ n) := by
  unfold blen
  by_cases h : n = 0
  · subst h; simp
  · rw [if_neg h]
    exact ⟨Nat.lt_log2_self, fun _ => ⟨by omega, by rw [Nat.add_sub_cancel]; exact Nat.log2_self_le h⟩⟩
theorem blen_le (n k : Nat) (h : n < 2 ^ k) : blen n ≤ k := by
  obtain ⟨_, h2⟩ := blen_spec n
  rcases Nat.eq_zero_or_pos n with h0 | h0
  · subst h0; simp [blen]
  · obtain ⟨h3, h4⟩ := h2 h0
    have h5 := Nat.lt_of_le_of_lt h4 h
    have := (Nat.pow_lt_pow_iff_right (show 1 < 2 by omega)).1 h5
    omega
theorem blen_unique (n k : Nat) (h1 : 2 ^ k ≤ n) (h2 : n < 2 ^ (k + 1)) : blen n = k + 1 := by
  have h3 := blen_le n (k + 1) h2
  obtain ⟨h4, _⟩ := blen_spec n
  have h5 := Nat.lt_of_le_of_lt h1 h4
  have := (Nat.pow_lt_pow_iff_right (show 1 < 2 by omega)).1 h5
  omega
theorem blen_lib (n : Nat) (h : n < 2 ^ 64) : Lib.bitLen n = blen n := by
  rcases Nat.eq_zero_or_pos n with h0 | h0
  · subst h0; rfl
  · obtain ⟨h1, h2, h3⟩ := Lib.bitLenAux_bounds 64 n h (by omega)
    have := blen_unique n (Lib.bitLen n - 1) h2 (by rw [show Lib.bitLen n - 1 + 1 = Lib.bitLen n by have : 1 ≤ Lib.bitLen n := h1; omega]; exact h3)
    have h4 : 1 ≤ Lib.bitLen n := h1
    omega
theorem len_any (x : Nat) (w : World) (h : x < 65536) : Calls Try.prog 43 #[.int .u64 x] w fun e w' => e = .returned (.int .i64 (blen x)) ∧ w = w' :=
  (Try.bits_Len x w (by omega) (by omega)).mono fun e w' ⟨h1, h2⟩ => ⟨by rw [h1, Int.toNat_natCast, blen_lib x (by omega)], h2.symm⟩
/-- A number's size, and its bits. -/
def sz (n : Int) : Nat := blen n.natAbs
def sv (n : Int) : Int := if n < 0 then n + (2 ^ sz n - 1 : Nat) else n
theorem sz_le (n : Int) (h : -4096 < n ∧ n < 4096) : sz n ≤ 12 := blen_le _ 12 (by omega)
theorem sz_neg (n : Int) : sz (-n) = sz n := by unfold sz; rw [Int.natAbs_neg]
set_option maxHeartbeats 1000000 in
theorem sizeBits_any (n : Int) (w : World) (h0 : -4096 < n) (h1 : n < 4096) :
    Calls Try.prog 42 #[.int .i64 n] w fun e w' => e = .returned (.tuple #[.int .i64 (sz n), .int .i64 (sv n), .int .i64 0]) ∧ w = w' := by
  obtain ⟨m, hm⟩ : ∃ m, m = n.natAbs := ⟨_, rfl⟩
  have hmax : max n (-n) = (m : Int) := by omega
  have hm4 : m < 4096 := by omega
  have hu : IntKind.u64.wrap (m : Int) = (m : Int) := by simp [IntKind.wrap, IntKind.signed, IntKind.bits]; omega
  have h2 : -4095 ≤ n := by omega
  obtain ⟨k, hk⟩ : ∃ k, blen m = k := ⟨_, rfl⟩
  have hk12 : k ≤ 12 := by rw [← hk]; exact blen_le m 12 (by omega)
  have HV := hid (show sv n = if n < 0 then n + (2 ^ sz n - 1 : Nat) else n from rfl)
  have HK := hid hk
  have HZ : Hid (sz n = k) := by unfold Hid sz; rw [← hm, hk]
  have HPW := hid (mask_i64 k (by omega))
  have hp1 : 2 ^ k ≤ 2 ^ 12 := Nat.pow_le_pow_right (by omega) hk12
  have hp0 := Nat.two_pow_pos k
  have hq4 : 2 ^ k - 1 ≤ 4095 := by omega
  obtain ⟨q, hq⟩ : ∃ q, 2 ^ k - 1 = q := ⟨_, rfl⟩
  rw [hq] at HPW hq4
  have HQ := hid hq
  have hk64 : (k : Int) < 64 := by omega
  clear hm hp1 hp0 hq hk
  by_cases hn : n < 0
  · have HV2 : Hid (sv n = n + (q : Int)) := by unfold Hid; rw [HV.out, if_pos hn, HZ.out, HQ.out]
    clear HV
    have hpw := HPW.out
    clear HPW
    go_enter Try.func42, Try.ntmps42
    go_wp2_with (go_at_call 43; refine (len_any m _ (by omega)).mono ?_; rintro e w' ⟨rfl, rfl⟩; rw [HK.out])
    refine bodyPost_ret (results_tmp3 rfl _ _ _) rfl ?_
    exact ⟨by rw [HZ.out, HV2.out]; rfl, rfl⟩
  · have HV2 : Hid (sv n = n) := by unfold Hid; rw [HV.out, if_neg hn]
    clear HV HPW
    go_enter Try.func42, Try.ntmps42
    go_wp2_with (go_at_call 43; refine (len_any m _ (by omega)).mono ?_; rintro e w' ⟨rfl, rfl⟩; rw [HK.out])
    refine bodyPost_ret (results_tmp3 rfl _ _ _) rfl ?_
    exact ⟨by rw [HZ.out, HV2.out]; rfl, rfl⟩
/-- The number of a size and of bits. -/
def sback (k v : Nat) : Int := if 0 < k ∧ v < 2 ^ (k - 1) then (v : Int) - (2 ^ k - 1 : Nat) else v
set_option maxHeartbeats 1000000 in
theorem sizeBack_any (k v : Nat) (w : World) (hk : k ≤ 12) (hv : v < 2 ^ k) :
    Calls Try.prog 38 #[.int .i64 k, .int .i64 v] w fun e w' => e = .returned (.tuple #[.int .i64 (sback k v), .int .i64 0]) ∧ w = w' := by
  have HPW := hid (mask_i64 k (by omega))
  have HP := hid (pow_i64 k (by omega))
  have hp1 : 2 ^ k ≤ 2 ^ 12 := Nat.pow_le_pow_right (by omega) hk
  have HB := hid (show sback k v = if 0 < k ∧ v < 2 ^ (k - 1) then (v : Int) - (2 ^ k - 1 : Nat) else v from rfl)
  have hsh : 0 < k → ((v : Int) / 2 ^ (k - 1) == 0) = decide (v < 2 ^ (k - 1)) := fun h => by
    have h3 : ((v : Int) / 2 ^ (k - 1)) = ((v / 2 ^ (k - 1) : Nat) : Int) := by push_cast; rfl
    rw [h3, Bool.eq_iff_iff]
    have h4 := Nat.two_pow_pos (k - 1)
    have h5 := @Nat.div_eq_zero_iff v (2 ^ (k - 1))
    simp only [beq_iff_eq, decide_eq_true_eq]
    omega
  obtain ⟨q, hq⟩ : ∃ q, 2 ^ k = q := ⟨_, rfl⟩
  rw [hq] at HPW hp1 hv HB HP
  have hq1 : q - 1 ≤ 4095 := by omega
  have hq0 : k = 0 → q = 1 := fun h => by subst h; exact hq.symm
  clear hq
  have HF : Hid (wrap64 ((v : Int) - wrap64 ((q : Int) - 1)) = (v : Int) - ((q - 1 : Nat) : Int)) := by unfold Hid wrap64; omega
  have hv2 : (v : Int) < (q : Int) := by omega
  have hv3 : (0 : Int) ≤ (v : Int) := by omega
  have hk1 : (0 : Int) ≤ (k : Int) := by omega
  have hk2 : (k : Int) ≤ 12 := by omega
  by_cases h0 : k = 0
  · subst h0
    have hv0 : v = 0 := by have := hq0 rfl; omega
    subst hv0
    have HV2 : Hid (sback 0 0 = 0) := by unfold Hid; rw [HB.out, if_neg (by omega)]; rfl
    clear HB HP HPW hsh hv hp1 hq1 hq0 HF hv2 hv3 hk hk1 hk2
    go_enter Try.func38, Try.ntmps38
    go_wp2_with fail
    go_ret2
    exact ⟨by rw [HV2.out]; rfl, rfl⟩
  · obtain ⟨r, rfl⟩ : ∃ r, k = r + 1 := ⟨k - 1, by omega⟩
    have hr0 : (0 : Int) ≤ (r : Int) := by omega
    have hr64 : (r : Int) < 64 := by omega
    have hs1 : IntKind.i64.wrap (((r + 1 : Nat) : Int) - 1) = (r : Int) := by simp [IntKind.wrap, IntKind.signed, IntKind.bits]; omega
    have hsh' := hsh (by omega)
    rw [Nat.add_sub_cancel] at hsh' HB
    have hpos : ¬ ((r + 1 : Nat) : Int) ≤ 0 := by omega
    have hpos2 : (0 : Int) < ((r + 1 : Nat) : Int) := by omega
    have hpw := HP.out
    have hpm := HPW.out
    clear hsh HP HPW hq1 hq0 hp1 hk h0
    have hyp : ¬ (q : Int) ≤ (v : Int) := by omega
    by_cases hlt : v < 2 ^ r
    · have HV2 : Hid (sback (r + 1) v = (v : Int) - ((q - 1 : Nat) : Int)) := by unfold Hid; rw [HB.out, if_pos ⟨by omega, hlt⟩]
      have hsh2 : ((v : Int) / 2 ^ r == 0) = true := by rw [hsh', decide_eq_true hlt]
      clear hsh' HB hlt hv
      go_enter Try.func38, Try.ntmps38
      go_wp2_with fail
      go_ret2
      exact ⟨by rw [HV2.out, ← HF.out]; rfl, rfl⟩
    · have HV2 : Hid (sback (r + 1) v = (v : Int)) := by unfold Hid; rw [HB.out, if_neg (fun h => hlt h.2)]
      have hsh2 : ((v : Int) / 2 ^ r == 0) = false := by rw [hsh', decide_eq_false hlt]
      clear hsh' HB hlt hv HF
      go_enter Try.func38, Try.ntmps38
      go_wp2_with fail
      go_ret2
      exact ⟨by rw [HV2.out]; rfl, rfl⟩
end Go.Proofs.Ytccgcefeenloiaa
