/- The law SizeRises: its walk, and the statement. -/
import Derived.Test.YtbihmbkkoidnbaaSize
import Derived.Test.YtbihmbkkoidnbaaOpen
namespace Go.Proofs.Ytbihmbkkoidnbaa
open Go.ChangeShapes Go.WideShapes Go.ChangeAt Go.RowKit
set_option linter.unusedVariables false
theorem xor_compl (a k : Nat) (h : a < 2 ^ k) : a ^^^ (2 ^ k - 1 - a) = 2 ^ k - 1 := by
  apply Nat.eq_of_testBit_eq
  intro i
  rw [Nat.testBit_xor, show 2 ^ k - 1 - a = 2 ^ k - (a + 1) by omega, Nat.testBit_two_pow_sub_succ h, Nat.testBit_two_pow_sub_one]
  by_cases hi : i < k
  · simp [hi]
  · have : a.testBit i = false := Nat.testBit_lt_two_pow (Nat.lt_of_lt_of_le h (Nat.pow_le_pow_right (by omega) (by omega)))
    simp [hi, this]
theorem sz_nat (a : Nat) : sz (a : Int) = blen a := by simp [sz]
theorem blen_mono (a b : Nat) (h : a ≤ b) : blen a ≤ blen b := blen_le a _ (Nat.lt_of_le_of_lt h (blen_spec b).1)
theorem sv_negnat (a : Nat) : sv (-(a : Int)) = ((2 ^ blen a - 1 - a : Nat) : Int) := by
  have h1 := (blen_spec a).1
  unfold sv
  rw [sz_neg, sz_nat]
  by_cases h : a = 0
  · subst h; simp [blen]
  · rw [if_pos (by omega)]; omega
set_option maxHeartbeats 4000000 in
theorem SizeRises_walk {H : Type} {enc : TypeId × Value → H} {d0 d1 : DataW H} {p0 p1 : List MemPlace} {v0 v1 : Value} {base : Nat} (W : World)
    (o0 : Value.okWide Try.prog W .any base 3 v0) (h0 : DataW.Trod enc Try.prog W 0 (fun _ => true) true 3 v0 d0 p0) (lt0 : ∀ x ∈ p0, x.block < W.heap.size)
    (o1 : Value.okWide Try.prog W .any base 3 v1) (h1 : DataW.Trod enc Try.prog W 0 (fun _ => true) true 3 v1 d1 p1) (lt1 : ∀ x ∈ p1, x.block < W.heap.size)
    :
    Calls Try.prog 9 #[v0, v1] W fun e w' => e = .returned (.bool true) ∧ Ext W w' := by
  obtain ⟨n, rfl, _, _⟩ := op_int Try.underlying3 o0 h0
  obtain ⟨m, rfl, _, _⟩ := op_int Try.underlying3 o1 h1
  clear o0 h0 lt0 o1 h1 lt1
  have r0 := Int.emod_nonneg n (b := 4096) (by omega)
  have r1 := Int.emod_lt_of_pos n (b := 4096) (by omega)
  have s0 := Int.emod_nonneg m (b := 4096) (by omega)
  have s1 := Int.emod_lt_of_pos m (b := 4096) (by omega)
  obtain ⟨a, ha⟩ : ∃ a : Nat, n % 4096 = (a : Int) := ⟨(n % 4096).toNat, by omega⟩
  obtain ⟨b, hb⟩ : ∃ b : Nat, m % 4096 = (b : Int) := ⟨(m % 4096).toNat, by omega⟩
  have ha4 : a < 4096 := by omega
  have hb4 : b < 4096 := by omega
  have HX := hid ha
  have HY := hid hb
  clear ha hb r0 r1 s0 s1
  have hE := Ext.refl W
  have HA := hid (fun w => sizeOf_any (a : Int) w (by omega) (by omega))
  have HB := hid (fun w => sizeOf_any (b : Int) w (by omega) (by omega))
  have HC := hid (fun w => sizeBits_any (a : Int) w (by omega) (by omega))
  have HD := hid (fun w => sizeBits_any (-(a : Int)) w (by omega) (by omega))
  have e1 : sv (a : Int) = (a : Int) := by unfold sv; rw [if_neg (by omega)]
  simp only [e1, sz_neg, sz_nat, sv_negnat] at HA HB HC HD
  clear e1
  obtain ⟨h1, h2⟩ := blen_spec a
  have hs12 : blen a ≤ 12 := blen_le a 12 (by omega)
  have ht12 : blen b ≤ 12 := blen_le b 12 (by omega)
  have hmono : a ≤ b → blen a ≤ blen b := blen_mono a b
  have hxor := xor_compl a (blen a) h1
  obtain ⟨P, hP⟩ : ∃ P, 2 ^ blen a = P := ⟨_, rfl⟩
  have HP := hid (pow_i64 (blen a) (by omega))
  have HPM := hid (mask_i64 (blen a) (by omega))
  have hP4 : P ≤ 4096 := by rw [← hP]; exact Nat.pow_le_pow_right (n := 2) (j := 12) (by omega) hs12
  rw [hP] at HP HPM h1 hxor HD
  have HXB : Hid (bits .xor .i64 (a : Int) ((P - 1 - a : Nat) : Int) = ((P - 1 : Nat) : Int)) := by
    unfold Hid; rw [bits_xor_i64_nat _ _ (by omega) (by omega), hxor]
  have h1' : (a : Int) < (P : Int) := by omega
  have hQ0 : P - 1 - a ≤ 4096 := by omega
  generalize P - 1 - a = q at *
  generalize P - 1 = p1 at *
  clear hxor hP
  by_cases h0 : a = 0
  · subst h0
    have e0 : blen 0 = 0 := rfl
    rw [e0] at HP HPM hs12
    simp only [e0, show ((0 : Nat) : Int) = 0 from rfl, Int.neg_zero] at HA HB HC HD HX
    have h4 : (0 : Int) ≤ ((blen b : Nat) : Int) := by omega
    have h3 : (0 : Int) ≤ (b : Int) := by omega
    generalize blen b = t at *
    have hp := HP.out
    clear HXB HP HPM h2 hmono h1
    go_enter Try.func9, Try.ntmps9
    go_wp2_with (first
      | (go_at_call 22; refine (sized_any _).mono ?_; rintro e w' ⟨rfl, hE2⟩; replace hE := hE.trans hE2; clear hE2)
      | (go_at_call 16; (first | (with_reducible refine (rest_any n 4096 _ (by omega) (by omega)).mono ?_) | (with_reducible refine (rest_any m 4096 _ (by omega) (by omega)).mono ?_)); rintro e w' ⟨rfl, rfl⟩; first | rw [HX.out] | rw [HY.out])
      | (go_at_call 23; (first | (with_reducible refine (HA.out _).mono ?_) | (with_reducible refine (HB.out _).mono ?_)); rintro e w' ⟨rfl, rfl⟩)
      | (go_at_call 24; (first | (with_reducible refine (HC.out _).mono ?_) | (with_reducible refine (HD.out _).mono ?_)); rintro e w' ⟨rfl, rfl⟩))
    all_goals (try go_quiet (fail))
    all_goals (try go_wp2_with fail)
    all_goals (go_ret; exact ⟨rfl, hE⟩)
  · obtain ⟨hr1, hr2⟩ := h2 (by omega)
    obtain ⟨r, hr⟩ : ∃ r, blen a = r + 1 := ⟨blen a - 1, by omega⟩
    have HR := hid (pow_i64 r (by omega))
    obtain ⟨R, hR⟩ : ∃ R, 2 ^ r = R := ⟨_, rfl⟩
    rw [hr, Nat.add_sub_cancel, hR] at hr2
    rw [hR] at HR
    have hr2' : (R : Int) ≤ (a : Int) := by omega
    have hs1 : IntKind.i64.wrap (((blen a : Nat) : Int) - 1) = (r : Int) := by rw [hr]; simp [IntKind.wrap, IntKind.signed, IntKind.bits]; omega
    have hr0 : (0 : Int) ≤ (r : Int) := by omega
    have hr64 : (r : Int) < 64 := by omega
    have hs0 : (0 : Int) ≤ ((blen a : Nat) : Int) := by omega
    have hs64 : ((blen a : Nat) : Int) < 64 := by omega
    have hne : ((a : Int) == 0) = false := by simp; omega
    generalize blen a = s at *
    generalize blen b = t at *
    have hxb := HXB.out
    have hp := HP.out
    have hpm := HPM.out
    have hrr := HR.out
    rw [hp] at hpm
    clear HXB HP HPM HR h2 hR hr hr1 hr2 h1 h0
    by_cases hab : a ≤ b
    · have h3 : (a : Int) ≤ (b : Int) := by omega
      have h4 : (s : Int) ≤ (t : Int) := by have := hmono hab; omega
      clear hmono hab
      go_enter Try.func9, Try.ntmps9
      go_wp2_with (first
        | (go_at_call 22; refine (sized_any _).mono ?_; rintro e w' ⟨rfl, hE2⟩; replace hE := hE.trans hE2; clear hE2)
        | (go_at_call 16; (first | (with_reducible refine (rest_any n 4096 _ (by omega) (by omega)).mono ?_) | (with_reducible refine (rest_any m 4096 _ (by omega) (by omega)).mono ?_)); rintro e w' ⟨rfl, rfl⟩; first | rw [HX.out] | rw [HY.out])
        | (go_at_call 23; (first | (with_reducible refine (HA.out _).mono ?_) | (with_reducible refine (HB.out _).mono ?_)); rintro e w' ⟨rfl, rfl⟩)
        | (go_at_call 24; (first | (with_reducible refine (HC.out _).mono ?_) | (with_reducible refine (HD.out _).mono ?_)); rintro e w' ⟨rfl, rfl⟩))
      all_goals (try go_quiet (fail))
      all_goals (try go_wp2_with fail)
      all_goals (go_ret; exact ⟨rfl, hE⟩)
    · have h3 : (b : Int) < (a : Int) := by omega
      clear hmono hab
      go_enter Try.func9, Try.ntmps9
      go_wp2_with (first
        | (go_at_call 22; refine (sized_any _).mono ?_; rintro e w' ⟨rfl, hE2⟩; replace hE := hE.trans hE2; clear hE2)
        | (go_at_call 16; (first | (with_reducible refine (rest_any n 4096 _ (by omega) (by omega)).mono ?_) | (with_reducible refine (rest_any m 4096 _ (by omega) (by omega)).mono ?_)); rintro e w' ⟨rfl, rfl⟩; first | rw [HX.out] | rw [HY.out])
        | (go_at_call 23; (first | (with_reducible refine (HA.out _).mono ?_) | (with_reducible refine (HB.out _).mono ?_)); rintro e w' ⟨rfl, rfl⟩)
        | (go_at_call 24; (first | (with_reducible refine (HC.out _).mono ?_) | (with_reducible refine (HD.out _).mono ?_)); rintro e w' ⟨rfl, rfl⟩))
      all_goals (try go_quiet (fail))
      all_goals (try go_wp2_with fail)
      all_goals (go_ret; exact ⟨rfl, hE⟩)
end Go.Proofs.Ytbihmbkkoidnbaa
