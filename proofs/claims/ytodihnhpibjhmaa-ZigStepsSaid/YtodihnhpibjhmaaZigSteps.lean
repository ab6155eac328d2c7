/- The law ZigSteps: its walk, and the statement. -/
import Derived.Test.YtodihnhpibjhmaaZigKeep
import Derived.Test.YtodihnhpibjhmaaTint
import Derived.Test.YtodihnhpibjhmaaMap
import Derived.Test.YtodihnhpibjhmaaOpenBlock
namespace Go.Proofs.Ytodihnhpibjhmaa
open Go.ChangeShapes Go.WideShapes Go.ChangeAt Go.RowKit
set_option linter.unusedVariables false
theorem zi_at (i : Nat) (h : i < 64) : nth zi i = (zn i : Int) := by
  simp [nth, zi, zord, List.getD, List.getElem?_map, List.getElem?_range h]
def seenF (i : Nat) : Int → Option Value := fun k => if k ∈ zi.take i then some (.bool true) else none
theorem zn_fresh : ∀ i, i < 64 → (zn i : Int) ∉ zi.take i := by decide +kernel
theorem seenF_new (i : Nat) (h : i < 64) : (seenF i (zn i : Int)).getD (.bool false) = .bool false := by
  simp [seenF, zn_fresh i h]
theorem seenF_succ (i : Nat) (h : i < 64) : (fun j => if j = (zn i : Int) then some (Value.bool true) else seenF i j) = seenF (i + 1) := by
  funext j
  have e : zi.take (i + 1) = zi.take i ++ [(zn i : Int)] := by
    rw [List.take_add_one]
    congr 1
    have := zi_at i h
    simp only [nth, List.getD] at this
    rw [List.getElem?_eq_getElem (by rw [zi_len]; exact h)] at this ⊢
    simpa using this
  simp only [seenF, e, List.mem_append, List.mem_singleton]
  by_cases h1 : j = (zn i : Int)
  · simp [h1]
  · simp [h1]
theorem zn_turn : ∀ i, i < 64 → (zn (63 - i) : Int) = 63 - (zn i : Int) := by decide +kernel
theorem zn_near : ∀ i, i < 64 → 1 ≤ i → -1 ≤ (zn i : Int) / 8 - (zn (i - 1) : Int) / 8 ∧ (zn i : Int) / 8 - (zn (i - 1) : Int) / 8 ≤ 1 ∧ -1 ≤ (zn i : Int) % 8 - (zn (i - 1) : Int) % 8 ∧ (zn i : Int) % 8 - (zn (i - 1) : Int) % 8 ≤ 1 := by decide +kernel
theorem zn_rises : ∀ i, i < 63 → (zn i : Int) / 8 + (zn i : Int) % 8 ≤ (zn (i + 1) : Int) / 8 + (zn (i + 1) : Int) % 8 := by decide +kernel
set_option maxRecDepth 100000 in
set_option maxHeartbeats 2000000 in
theorem ZigSteps_walk {H : Type} {enc : TypeId × Value → H} {d0 : DataW H} {p0 : List MemPlace} {v0 : Value} {base : Nat} (W : World)
    (o0 : Value.okWide Try.prog W .any base 3 v0) (h0 : DataW.Trod enc Try.prog W 0 (fun _ => true) true 3 v0 d0 p0) (lt0 : ∀ x ∈ p0, x.block < W.heap.size)
    :
    Calls Try.prog 5 #[v0] W fun e w' => e = .returned (.bool true) ∧ Ext W w' := by
  obtain ⟨n, rfl, _, _⟩ := op_int Try.underlying3 o0 h0
  clear o0 h0 lt0
  have r0 := Int.emod_nonneg n (b := 63) (by omega)
  have r1 := Int.emod_lt_of_pos n (b := 63) (by omega)
  obtain ⟨s, hs⟩ : ∃ s : Nat, n % 63 = (s : Int) := ⟨(n % 63).toNat, by omega⟩
  have hs8 : s < 63 := by omega
  have HS := hid hs
  clear hs r0 r1
  have hE : Ext W W := Ext.refl W
  have hmm := @run_makeMap Try.prog
  have law := keyLaw_int Try.underlying3
  go_enter Try.func5, Try.ntmps5
  go_wp2_with (first
    | (go_at_call 19; refine (zigged_any _).mono ?_; rintro e w' ⟨rfl, hE2⟩; replace hE := hE.trans hE2; clear hE2)
    | (go_at_call 20; refine (zOrder_any _).mono ?_; rintro e w1 ⟨g, rfl, hR, hE2⟩; replace hE := hE.trans hE2; clear hE2))
  have hR' := hR.alloc (.map #[] 0)
  have hM : MapF ik (w1.alloc (.map #[] 0)) w1.heap.size (seenF 0) := MapF.new w1
  have hE' := hE.alloc (.map #[] 0)
  have hsz := hE.sz
  have hgb := hR.lt
  clear hR hE
  go_loopg [15] 64 (fun gk xv wr => ∃ (i : Nat), gk + i = 64 ∧ xv = .int .i64 i ∧ Row wr g zi ∧ MapF ik wr w1.heap.size (seenF i) ∧ Ext W wr)
  case atStart => exact ⟨0, rfl, rfl, hR', hM, hE'⟩
  case round =>
    clear hR' hM hE'
    obtain ⟨i, hi, rfl, hR, hM, hE⟩ := hrel
    by_cases hlt : i < 64
    · have hcell := hR.cell i (by rw [zi_len]; exact hlt)
      have hcell2 := hR.cell (63 - i) (by rw [zi_len]; omega)
      rw [zi_at i hlt] at hcell
      rw [zi_at _ (by omega)] at hcell2
      have ht := zn_turn i hlt
      rw [ht] at hcell2
      have hz := zn_lt i hlt
      have HI : Hid (gk - 1 + (i + 1) = 64) := by unfold Hid; omega
      have HG : Hid (gk - 1 < gk) := by unfold Hid; omega
      clear hi ht
      by_cases hp : 1 ≤ i
      · have hn := zn_near i hlt hp
        obtain ⟨hn1, hn2, hn3, hn4⟩ := hn
        have hz1 := zn_lt (i - 1) (by omega)
        have hA : decide ((zn i : Int) < 0) = false := by rw [decide_eq_false_iff_not]; omega
        have hB : decide (63 < (zn i : Int)) = false := by rw [decide_eq_false_iff_not]; omega
        go_wp2_with (first
          | (refine wpList_lookup_f rfl 32 _ _ false rfl w1.heap.size rfl (zn i : Int) rfl hM Try.underlying32 law (.bool false) (fun w => Try.zeroValue4 w) ?_; rw [if_neg (by decide), seenF_new i hlt])
          | (refine wpList_mapUpdate_f rfl 32 _ _ _ rfl w1.heap.size rfl (zn i : Int) rfl hM Try.underlying32 law ?_; intro w2 hM2 hX hO; rw [show Act.eval _ _ = Value.bool true from rfl, seenF_succ i hlt] at hM2; have hR2 := hR.of_heap (hO g (by omega)); have hE2 := hX W hsz hE; clear hR hM hE hX hO hcell hcell2
             have hcell := hR2.cell i (by rw [zi_len]; exact hlt)
             have hcell2 := hR2.cell (i - 1) (by rw [zi_len]; omega)
             rw [zi_at i hlt] at hcell
             rw [zi_at _ (by omega)] at hcell2))
        go_quiet (fail)
        go_wp2_with fail
        go_roundg (gk - 1)
        case measure => exact HG.out
        case rel => exact ⟨i + 1, HI.out, by go_num, hR2, hM2, hE2.drewN⟩
      · obtain rfl : i = 0 := by omega
        clear hp
        go_wp2_with (first
          | (refine wpList_lookup_f rfl 32 _ _ false rfl w1.heap.size rfl (zn 0 : Int) rfl hM Try.underlying32 law (.bool false) (fun w => Try.zeroValue4 w) ?_; rw [if_neg (by decide), seenF_new 0 (by omega)])
          | (refine wpList_mapUpdate_f rfl 32 _ _ _ rfl w1.heap.size rfl (zn 0 : Int) rfl hM Try.underlying32 law ?_; intro w2 hM2 hX hO; rw [show Act.eval _ _ = Value.bool true from rfl, seenF_succ 0 (by omega)] at hM2; have hR2 := hR.of_heap (hO g (by omega)); have hE2 := hX W hsz hE; clear hR hM hE hX hO hcell hcell2))
        go_roundg (gk - 1)
        case measure => exact HG.out
        case rel => exact ⟨1, HI.out, by go_num, hR2, hM2, hE2⟩
    · obtain rfl : i = 64 := by omega
      clear hM
      have hr := zn_rises s hs8
      have hz1 := zn_lt s (by omega)
      have hz2 := zn_lt (s + 1) (by omega)
      have hcell := hR.cell s (by rw [zi_len]; omega)
      have hcell2 := hR.cell (s + 1) (by rw [zi_len]; omega)
      rw [zi_at s (by omega)] at hcell
      rw [zi_at _ (by omega)] at hcell2
      go_wp2_with (go_at_call 16; refine (rest_any _ _ _ (by omega) (by omega)).mono ?_; rintro e w' ⟨rfl, rfl⟩; rw [HS.out])
      go_quiet (fail)
      go_wp2_with fail
      go_ret
      exact ⟨rfl, hE.drewN⟩
end Go.Proofs.Ytodihnhpibjhmaa
