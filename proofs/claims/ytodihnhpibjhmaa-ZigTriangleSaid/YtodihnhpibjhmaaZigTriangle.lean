/- The law ZigTriangle: its walk, and the statement. -/
import Derived.Test.YtodihnhpibjhmaaZigKeep
import Derived.Test.YtodihnhpibjhmaaTint
import Derived.Test.YtodihnhpibjhmaaFree
import Derived.Test.YtodihnhpibjhmaaOpenBlock
namespace Go.Proofs.Ytodihnhpibjhmaa
open Go.ChangeShapes Go.WideShapes Go.ChangeAt Go.RowKit
set_option linter.unusedVariables false
theorem triangle : ∀ s, s < 8 → ∀ i, i < 64 → (zn i / 8 + zn i % 8 ≤ s ↔ i < (s + 1) * (s + 2) / 2) := by decide +kernel
theorem zi_nth (i : Nat) (h : i < 64) : nth zi i = (zn i : Int) := by
  simp [nth, zi, zord, List.getD, List.getElem?_map, List.getElem?_range h]
set_option maxRecDepth 100000 in
set_option maxHeartbeats 1000000 in
theorem ZigTriangle_walk {H : Type} {enc : TypeId × Value → H} {d0 : DataW H} {p0 : List MemPlace} {v0 : Value} {base : Nat} (W : World)
    (o0 : Value.okWide Try.prog W .any base 3 v0) (h0 : DataW.Trod enc Try.prog W 0 (fun _ => true) true 3 v0 d0 p0) (lt0 : ∀ x ∈ p0, x.block < W.heap.size)
    :
    Calls Try.prog 6 #[v0] W fun e w' => e = .returned (.bool true) ∧ Ext W w' := by
  obtain ⟨n, rfl, _, _⟩ := op_int Try.underlying3 o0 h0
  clear o0 h0 lt0
  have r0 := Int.emod_nonneg n (b := 8) (by omega)
  have r1 := Int.emod_lt_of_pos n (b := 8) (by omega)
  obtain ⟨s, hs⟩ : ∃ s : Nat, n % 8 = (s : Int) := ⟨(n % 8).toNat, by omega⟩
  have hs8 : s < 8 := by omega
  have HS := hid hs
  clear hs r0 r1
  have hE : Ext W W := Ext.refl W
  go_enter Try.func6, Try.ntmps6
  go_wp2_with (first
    | (go_at_call 19; refine (zigged_any _).mono ?_; rintro e w' ⟨rfl, hE2⟩; replace hE := hE.trans hE2; clear hE2)
    | (go_at_call 16; refine (rest_any _ _ _ (by omega) (by omega)).mono ?_; rintro e w' ⟨rfl, rfl⟩; rw [HS.out])
    | (go_at_call 20; refine (zOrder_any _).mono ?_; rintro e w' ⟨g, rfl, hR, hE2⟩; replace hE := hE.trans hE2; clear hE2))
  go_loopg [11] 64 (fun gk xv wr => ∃ (i : Nat), gk + i = 64 ∧ xv = .int .i64 i ∧ Row wr g zi ∧ Ext W wr)
  case atStart => exact ⟨0, rfl, rfl, hR, hE⟩
  case round =>
    clear hR hE
    obtain ⟨i, hi, rfl, hR, hE⟩ := hrel
    by_cases hlt : i < 64
    · have hcell := hR.cell i (by rw [zi_len]; exact hlt)
      rw [zi_nth i hlt] at hcell
      have hp : 0 ≤ ((s : Int) + 1) * ((s : Int) + 2) ∧ ((s : Int) + 1) * ((s : Int) + 2) ≤ 72 := by
        have e : ((s : Int) + 1) * ((s : Int) + 2) = (((s + 1) * (s + 2) : Nat) : Int) := by push_cast; rfl
        rw [e]
        have h1 : (s + 1) * (s + 2) ≤ 8 * 9 := Nat.mul_le_mul (by omega) (by omega)
        omega
      obtain ⟨hp1, hp2⟩ := hp
      have hq : decide ((zn i : Int) / 8 + (zn i : Int) % 8 ≤ (s : Int)) = decide ((i : Int) < ((s : Int) + 1) * ((s : Int) + 2) / 2) := by
        rw [decide_eq_decide]
        have e : ((s : Int) + 1) * ((s : Int) + 2) = (((s + 1) * (s + 2) : Nat) : Int) := by push_cast; rfl
        rw [e]
        have h := triangle s hs8 i hlt
        omega
      have HI : Hid (gk - 1 + (i + 1) = 64) := by unfold Hid; omega
      have HG : Hid (gk - 1 < gk) := by unfold Hid; omega
      have hz := zn_lt i hlt
      clear hi
      go_wp2_with fail
      go_roundg (gk - 1)
      case measure => exact HG.out
      case rel => exact ⟨i + 1, HI.out, by go_num, hR, hE⟩
    · obtain rfl : i = 64 := by omega
      go_wp2_with fail
      go_ret
      exact ⟨rfl, hE⟩
end Go.Proofs.Ytodihnhpibjhmaa
