/- The law SizeDoubles: its walk, and the statement. -/
import Derived.Test.YtbihmbkkoidnbaaSize
import Derived.Test.YtbihmbkkoidnbaaOpen
namespace Go.Proofs.Ytbihmbkkoidnbaa
open Go.ChangeShapes Go.WideShapes Go.ChangeAt Go.RowKit
set_option linter.unusedVariables false
theorem sz_double (n : Int) (h : n ≠ 0) : sz (2 * n) = sz n + 1 := by
  unfold sz
  obtain ⟨m, hm⟩ : ∃ m, n.natAbs = m := ⟨_, rfl⟩
  have h2 : (2 * n).natAbs = 2 * m := by omega
  rw [h2, hm]
  obtain ⟨h3, h4⟩ := blen_spec m
  obtain ⟨h5, h6⟩ := h4 (by omega)
  obtain ⟨k, hk⟩ : ∃ k, blen m = k + 1 := ⟨blen m - 1, by omega⟩
  rw [hk, Nat.add_sub_cancel] at h6
  rw [hk] at h3
  rw [hk]
  refine blen_unique _ _ ?_ ?_
  · rw [Nat.pow_succ]; omega
  · rw [Nat.pow_succ]; omega
set_option maxHeartbeats 2000000 in
theorem SizeDoubles_walk {H : Type} {enc : TypeId × Value → H} {d0 : DataW H} {p0 : List MemPlace} {v0 : Value} {base : Nat} (W : World)
    (o0 : Value.okWide Try.prog W .any base 3 v0) (h0 : DataW.Trod enc Try.prog W 0 (fun _ => true) true 3 v0 d0 p0) (lt0 : ∀ x ∈ p0, x.block < W.heap.size)
    :
    Calls Try.prog 10 #[v0] W fun e w' => e = .returned (.bool true) ∧ Ext W w' := by
  obtain ⟨n, rfl, _, _⟩ := op_int Try.underlying3 o0 h0
  clear o0 h0 lt0
  have r0 := Int.emod_nonneg n (b := 4095) (by omega)
  have r1 := Int.emod_lt_of_pos n (b := 4095) (by omega)
  generalize hx : n % 4095 = x at *
  have HX := hid hx
  clear hx
  have hE := Ext.refl W
  obtain ⟨y, hy⟩ : ∃ y, x - 2047 = y := ⟨_, rfl⟩
  have HY := hid hy
  have hy1 : -2047 ≤ y := by omega
  have hy2 : y ≤ 2047 := by omega
  have hx2 : IntKind.i64.wrap (x - 2047) = y := by rw [hy]; simp [IntKind.wrap, IntKind.signed, IntKind.bits]; omega
  have H2 := hid (show IntKind.i64.wrap (2 * y) = 2 * y by simp [IntKind.wrap, IntKind.signed, IntKind.bits]; omega)
  clear hy
  have HA := hid (fun w => sizeOf_any y w (by omega) (by omega))
  have HB := hid (fun w => sizeOf_any (2 * y) w (by omega) (by omega))
  by_cases h0 : y = 0
  · have F1 := hid (show sz 0 = 0 by decide +kernel)
    subst h0
    simp only [Int.mul_zero, F1.out] at HA HB
    clear H2 HY
    go_enter Try.func10, Try.ntmps10
    go_wp2_with (first
      | (go_at_call 22; refine (sized_any _).mono ?_; rintro e w' ⟨rfl, hE2⟩; replace hE := hE.trans hE2; clear hE2)
      | (go_at_call 16; refine (rest_any n 4095 _ (by omega) (by omega)).mono ?_; rintro e w' ⟨rfl, rfl⟩; rw [HX.out])
      | (go_at_call 23; (first | (with_reducible refine (HA.out _).mono ?_) | (with_reducible refine (HB.out _).mono ?_)); rintro e w' ⟨rfl, rfl⟩))
    all_goals (try go_quiet (fail))
    all_goals (try go_wp2_with fail)
    all_goals (go_ret; exact ⟨rfl, hE⟩)
  · have HD := hid (sz_double y h0)
    have hne : (y == 0) = false := by simpa using h0
    have hne2 : (y != 0) = true := by simpa using h0
    have hs1 : sz y ≤ 12 := sz_le y (by omega)
    have hs3 : sz (2 * y) ≤ 12 := sz_le (2 * y) (by omega)
    generalize sz y = s at *
    generalize sz (2 * y) = s2 at *
    have hs4 : ((s2 : Int) == (s : Int) + 1) = true := by rw [HD.out]; simp
    clear HD
    go_enter Try.func10, Try.ntmps10
    go_wp2_with (first
      | (go_at_call 22; refine (sized_any _).mono ?_; rintro e w' ⟨rfl, hE2⟩; replace hE := hE.trans hE2; clear hE2)
      | (go_at_call 16; refine (rest_any n 4095 _ (by omega) (by omega)).mono ?_; rintro e w' ⟨rfl, rfl⟩; rw [HX.out])
      | (go_at_call 23; (first | (with_reducible refine (HA.out _).mono ?_) | (with_reducible refine (HB.out _).mono ?_)); rintro e w' ⟨rfl, rfl⟩))
    all_goals (try go_quiet (fail))
    all_goals (try go_wp2_with fail)
    all_goals (go_ret; exact ⟨rfl, hE⟩)
end Go.Proofs.Ytbihmbkkoidnbaa
