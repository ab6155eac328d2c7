/- The walk of mezzotintref.Eq at bytes. -/
import Derived.Test.YthmkhpijdpbfbaaDoorProg
import Derived.Test.YthmkhpijdpbfbaaDoorArr
namespace Go.Proofs.YthmkhpijdpbfbaaDoor
open Go.RowKit
/-- A slice of bytes. -/
def BSl (w : World) (v : Value) (xs : List Int) : Prop := Sl w 1 v xs.length (xs.map (Value.int .u8))
theorem BSl.open {w : World} {v : Value} {xs : List Int} (h : BSl w v xs) : ∃ a c, v = .slice a xs.length c ∧ xs.length ≤ c ∧ c ≤ 9223372036854775807 ∧
    (∀ i, i < xs.length → ∃ b off, a = some ⟨b, off, none⟩ ∧ ∀ k, k < xs.length → w.cell? ⟨b, off + k, none⟩ = some (.int .u8 (nth xs k))) := by
  obtain ⟨_, a, c, hv, h1, h2, h3⟩ := h
  refine ⟨a, c, hv, h1, by unfold maxLen at h2; exact h2, fun i hi => ?_⟩
  rcases h3 with h3 | ⟨b, off, ha, hc⟩
  · omega
  · refine ⟨b, off, ha, fun k hk => ?_⟩
    rw [hc k (by omega), List.getElem?_map, List.getElem?_eq_getElem hk]
    simp [nth, List.getD, List.getElem?_eq_getElem hk]
/-- Bytes as numbers. -/
def bi (l : List Nat) : List Int := l.map fun (x : Nat) => (x : Int)
theorem bi_len (l : List Nat) : (bi l).length = l.length := by simp [bi]
theorem bi_inj (l m : List Nat) : bi l = bi m ↔ l = m := ⟨fun h => by
  have h2 := congrArg (List.map Int.toNat) h
  simpa [bi, List.map_map, Function.comp_def] using h2, fun h => by rw [h]⟩
theorem BSl.of {w : World} {v : Value} {l : List Nat} (h : Sl w 1 v l.length (l.map fun (x : Nat) => Value.int .u8 (x : Int))) : BSl w v (bi l) := by
  unfold BSl
  rw [bi_len]
  have e : (bi l).map (Value.int .u8) = l.map fun (x : Nat) => Value.int .u8 (x : Int) := by simp [bi, List.map_map, Function.comp_def]
  rw [e]; exact h
set_option maxHeartbeats 1000000 in
theorem eqByte_any (w : World) (va vb : Value) (xs ys : List Int) (ha : BSl w va xs) (hb : BSl w vb ys) :
    Calls Tryd.prog 8 #[va, vb] w fun e w' => e = .returned (.bool (decide (xs = ys))) ∧ w = w' := by
  obtain ⟨a, c, rfl, hc1, hc2, ha⟩ := ha.open
  obtain ⟨b, d, rfl, hd1, hd2, hb⟩ := hb.open
  by_cases hl : xs.length = ys.length
  · have hl' : ((xs.length : Int) != (ys.length : Int)) = false := by simp [hl]
    have HL := hid hl
    clear hl
    go_enter Tryd.func8, Tryd.ntmps8
    go_wp2_with fail
    go_loopg [14] xs.length (fun gk xv wr => ∃ (i : Nat), gk + i = xs.length ∧ xv = .int .i64 i ∧ xs.take i = ys.take i ∧ wr = w)
    case atStart => exact ⟨0, rfl, rfl, rfl, rfl⟩
    case round =>
      obtain ⟨i, hi, rfl, hpre, rfl⟩ := hrel
      have hi' : i ≤ xs.length := by omega
      have HI := hid hi
      have HP := hid hpre
      clear hi hpre
      by_cases hlt : i < xs.length
      · obtain ⟨ba, oa, rfl, hca⟩ := ha i hlt
        have hlt2 : i < ys.length := by have := HL.out; omega
        obtain ⟨bb, ob, rfl, hcb⟩ := hb i hlt2
        have h1 := hca i hlt
        have h2 := hcb i hlt2
        clear ha hb hca hcb
        by_cases he : nth xs i = nth ys i
        · have h3 : (nth xs i != nth ys i) = false := by simp [he]
          have HT := hid (take_eq_succ xs ys i hlt hlt2 HP.out he)
          clear he
          have HM : Hid (gk - 1 + (i + 1) = xs.length) := by have := HI.out; unfold Hid; omega
          have HG : Hid (gk - 1 < gk) := by have := HI.out; unfold Hid; omega
          go_wp2_with fail
          go_roundg (gk - 1)
          case measure => exact HG.out
          case rel => exact ⟨i + 1, HM.out, by go_num, HT.out, rfl⟩
        · have h3 : (nth xs i != nth ys i) = true := by simp [he]
          have HN : Hid (decide (xs = ys) = false) := by
            unfold Hid; rw [decide_eq_false_iff_not]; intro h; exact he (by rw [h])
          clear he
          go_wp2_with fail
          go_ret
          exact ⟨ret_bool HN.out.symm, rfl⟩
      · have HN : Hid (decide (xs = ys) = true) := by
          unfold Hid
          have h1 := HP.out
          have h2 := HL.out
          rw [List.take_of_length_le (by omega), List.take_of_length_le (by omega)] at h1
          simp [h1]
        clear ha hb
        go_wp2_with fail
        go_ret
        exact ⟨ret_bool HN.out.symm, rfl⟩
  · have hl' : ((xs.length : Int) != (ys.length : Int)) = true := by simp; omega
    have HN : Hid (decide (xs = ys) = false) := by
      unfold Hid; rw [decide_eq_false_iff_not]; intro h; exact hl (by rw [h])
    clear hl ha hb
    go_enter Tryd.func8, Tryd.ntmps8
    go_wp2_with fail
    go_ret
    exact ⟨ret_bool HN.out.symm, rfl⟩
end Go.Proofs.YthmkhpijdpbfbaaDoor
