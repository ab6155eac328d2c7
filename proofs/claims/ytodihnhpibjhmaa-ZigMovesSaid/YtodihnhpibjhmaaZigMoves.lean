/- The law ZigMoves: its walk, and the statement. -/
import Derived.Test.YtodihnhpibjhmaaZigKeep
import Derived.Test.YtodihnhpibjhmaaTint
import Derived.Test.YtodihnhpibjhmaaFree
import Derived.Test.YtodihnhpibjhmaaOpenBlock
namespace Go.Proofs.Ytodihnhpibjhmaa
open Go.ChangeShapes Go.WideShapes Go.ChangeAt Go.RowKit
set_option linter.unusedVariables false
def single (s : Nat) (n : Int) : List Int := (List.replicate 64 0).set s n
theorem single_len (s : Nat) (n : Int) : (single s n).length = 64 := by simp [single]
theorem single_get (s : Nat) (n : Int) (hs : s < 64) (j : Nat) (hj : j < 64) : nth (single s n) j = if j = s then n else 0 := by
  simp only [nth, single, List.getD, List.getElem?_set, List.length_replicate, hs, if_true, List.getElem?_replicate, hj]
  split
  · rename_i h; subst h; simp
  · rename_i h; rw [if_neg (fun e => h e.symm)]; rfl
theorem zi_nth' (i : Nat) (h : i < 64) : nth zi i = (zn i : Int) := by
  simp [nth, zi, zord, List.getD, List.getElem?_map, List.getElem?_range h]
set_option maxRecDepth 100000 in
set_option maxHeartbeats 1000000 in
theorem ZigMoves_walk {H : Type} {enc : TypeId × Value → H} {d0 d1 : DataW H} {p0 p1 : List MemPlace} {v0 v1 : Value} {base : Nat} (W : World)
    (o0 : Value.okWide Try.prog W .any base 3 v0) (h0 : DataW.Trod enc Try.prog W 0 (fun _ => true) true 3 v0 d0 p0) (lt0 : ∀ x ∈ p0, x.block < W.heap.size)
    (o1 : Value.okWide Try.prog W .any base 3 v1) (h1 : DataW.Trod enc Try.prog W 0 (fun _ => true) true 3 v1 d1 p1) (lt1 : ∀ x ∈ p1, x.block < W.heap.size)
    :
    Calls Try.prog 12 #[v0, v1] W fun e w' => e = .returned (.bool true) ∧ Ext W w' := by
  obtain ⟨m, rfl, _, _⟩ := op_int Try.underlying3 o0 h0
  obtain ⟨n, rfl, _, _⟩ := op_int Try.underlying3 o1 h1
  clear o0 h0 lt0 o1 h1 lt1
  have r0 := Int.emod_nonneg m (b := 64) (by omega)
  have r1 := Int.emod_lt_of_pos m (b := 64) (by omega)
  obtain ⟨s, hs⟩ : ∃ s : Nat, m % 64 = (s : Int) := ⟨(m % 64).toNat, by omega⟩
  have hs8 : s < 64 := by omega
  have HS := hid hs
  clear hs r0 r1
  have hE : Ext W W := Ext.refl W
  have hu := Try.underlying46
  have hi64 : (Try.prog.info? 46).map (·.size) = some 64 := by kernel_rfl
  have HI64 := hid hi64
  have HIs := hid (show (Try.prog.info? 46).map (·.size) = some (single s n).length by rw [single_len]; exact hi64)
  clear hi64
  go_enter Try.func12, Try.ntmps12
  go_wp2_with (first
    | (go_at_call 19; refine (zigged_any _).mono ?_; rintro e w' ⟨rfl, hE2⟩; replace hE := hE.trans hE2; clear hE2)
    | (go_at_call 16; refine (rest_any _ _ _ (by omega) (by omega)).mono ?_; rintro e w' ⟨rfl, rfl⟩; rw [HS.out])
    | (have hsz := hE.sz; refine wpList_alloc_iv rfl 46 rfl (List.replicate 64 0) (fun w => Try.zeroValue46 w) ?_; intro w2 hR hE2 hz2; replace hE := hE.trans hE2; clear hE2 hz2
       have hfree := hR.free s; have hcell := hR.cell s (by simp; omega); have HR := hid (hR.set s n); have HE := hid (hE.setCell (a := ⟨_, s, none⟩) hsz (.int .i64 n)); clear hE hsz hR)
    | (refine wpList_load_iv rfl 46 _ rfl _ rfl (single s n) _ HR.out hu rfl HIs.out ?_))
  refine (zto_any _ (single s n) (single_len s n)).mono ?_
  rintro e w3 ⟨rfl, hE3⟩
  have hE := HE.out.trans hE3
  clear HR HE hE3 hfree hcell
  have HL := hid (show (List.replicate 64 (0 : Int)).length = (zto (single s n)).length by rw [zto_len]; rfl)
  have HIz := hid (show (Try.prog.info? 46).map (·.size) = some (zto (single s n)).length by rw [zto_len]; exact HI64.out)
  go_wp2_with (first
    | (refine wpList_alloc_iv rfl 46 rfl (List.replicate 64 0) (fun w => Try.zeroValue46 w) ?_; intro w4 hR hE2 hz2; have hsz := hE.sz; replace hE := hE.trans hE2; clear hE2 hz2)
    | (refine wpList_store_iv rfl 46 _ _ rfl w3.heap.size rfl (zto (single s n)) (List.replicate 64 0) rfl hR HIz.out HL.out ?_))
  have hX := hR.setRow (zto (single s n))
  replace hE := hE.setRow hsz (iv (zto (single s n)))
  clear hR hsz
  refine (zOrder_any _).mono ?_
  rintro e w5 ⟨g, rfl, hR, hE2⟩
  replace hX := hX.ext hE2
  replace hE := hE.trans hE2
  clear hE2
  go_wp2_with fail
  go_loopg [20] 64 (fun gk xv wr => ∃ (i : Nat), gk + i = 64 ∧ xv = .int .i64 i ∧ wr = w5)
  case atStart => exact ⟨0, rfl, rfl, rfl⟩
  case round =>
    obtain ⟨i, hi, rfl, rfl⟩ := hrel
    by_cases hlt : i < 64
    · have hcell := hR.cell i (by rw [zi_len]; exact hlt)
      rw [zi_nth' i hlt] at hcell
      have hcell2 := hX.cell i (by rw [zto_len]; exact hlt)
      rw [zto_get _ i hlt, single_get s n hs8 _ (zn_lt i hlt)] at hcell2
      have HI : Hid (gk - 1 + (i + 1) = 64) := by unfold Hid; omega
      have HG : Hid (gk - 1 < gk) := by unfold Hid; omega
      clear hi hR hX
      by_cases he : zn i = s
      · rw [if_pos he] at hcell2
        subst he
        go_wp2_with fail
        go_roundg (gk - 1)
        case measure => exact HG.out
        case rel => exact ⟨i + 1, HI.out, by go_num, rfl⟩
      · have h1 : ((zn i : Int) == (s : Int)) = false := by simp; omega
        have h2 : ((zn i : Int) != (s : Int)) = true := by simp; omega
        rw [if_neg he] at hcell2
        clear he
        go_wp2_with fail
        go_roundg (gk - 1)
        case measure => exact HG.out
        case rel => exact ⟨i + 1, HI.out, by go_num, rfl⟩
    · obtain rfl : i = 64 := by omega
      go_wp2_with fail
      go_ret
      exact ⟨rfl, hE⟩
end Go.Proofs.Ytodihnhpibjhmaa
