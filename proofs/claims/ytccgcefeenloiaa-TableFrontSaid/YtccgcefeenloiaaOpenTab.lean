/- Tables that came in. -/
import Derived.Test.YtccgcefeenloiaaOpen
import Derived.Test.YtccgcefeenloiaaOpenSl
import Derived.Test.YtccgcefeenloiaaTable
namespace Go.Proofs.Ytccgcefeenloiaa
set_option maxRecDepth 100000
open Go.ChangeShapes Go.WideShapes Go.ChangeAt Go.RowKit Go.Deep
set_option linter.unusedVariables false
/-- Cells that are ints. -/
theorem ints_of {H : Type} {enc : TypeId × Value → H} {P : Program} {W : World} {base : Nat} {sp : Nat → Bool} {held : Bool} {dp : Nat} {t : TypeId} (ht : allInts P .i64 dp t = true) {fuel : Nat} {cs : List Value} {x : DataW H × List MemPlace} (h : DataW.trod enc P W base sp held fuel t cs = some x) :
    ∃ l : List Int, l.length = P.cellsOf t ∧ cs = l.map (Value.int .i64) ∧ ∀ i, i < l.length → -9223372036854775808 ≤ nth l i ∧ nth l i ≤ 9223372036854775807 := by
  obtain ⟨hl, hv⟩ := trod_ints .i64 dp t ht fuel cs x h
  have key : ∀ i, i < cs.length → ∃ n : Int, cs[i]? = some (.int .i64 n) ∧ -9223372036854775808 ≤ n ∧ n ≤ 9223372036854775807 := fun i hi => by
    obtain ⟨n, h1, h2⟩ := hv i hi
    exact ⟨n, h1, (wf_i64_iff n).1 h2⟩
  obtain ⟨f, hf⟩ := choose_lt key
  refine ⟨tab cs.length f, by rw [tab_len]; exact hl, ?_, fun i hi => ?_⟩
  · apply List.ext_getElem?
    intro i
    by_cases hi : i < cs.length
    · rw [List.getElem?_map, get_nth _ i (by rw [tab_len]; exact hi), nth_tab _ _ _ hi, (hf i hi).1]; rfl
    · rw [List.getElem?_eq_none (by omega), List.getElem?_eq_none (by rw [List.length_map, tab_len]; omega)]
  · rw [tab_len] at hi
    rw [nth_tab _ _ _ hi]; exact (hf i hi).2
structure TabIn (W : World) (C S : List Int) (ad : Option Addr) (n c : Nat) : Prop where
  len : Len C 16
  nc : n ≤ c
  cm : c ≤ 9223372036854775807
  rangeC : ∀ i, i < 16 → -9223372036854775808 ≤ nth C i ∧ nth C i ≤ 9223372036854775807
  sl : Sl W 1 (.slice ad n c) n (S.map (Value.int .i64))
  rangeS : ∀ i, i < n → -9223372036854775808 ≤ nth S i ∧ nth S i ≤ 9223372036854775807
theorem tab_cells {H : Type} {enc : TypeId × Value → H} {W : World} {fuel : Nat} {cs : List Value} {x : DataW H × List MemPlace} (h : DataW.trod enc Try.prog W 0 (fun _ => true) true fuel 25 cs = some x) :
    ∃ (C S : List Int) (ad : Option Addr) (n c : Nat), cs = pcells [.ints C, .val (.slice ad n c)] ∧ TabIn W C S ad n c := by
  obtain ⟨xs, m, _, _, hl, hxl, hf⟩ := DataW.trod_struct Try.underlying25 h
  have hl17 : cs.length = 17 := by rw [hl]; kernel_rfl
  have hx2 : xs.length = 2 := hxl
  have f0 := hf 0 { name := "Counts", type := 22, offset := 0, embedded := false, tag := "", pkgPath := "", byteOffset := 0 } rfl
  have f1 := hf 1 { name := "Syms", type := 23, offset := 16, embedded := false, tag := "", pkgPath := "", byteOffset := 128 } rfl
  dsimp only at f0 f1
  rw [List.getElem?_eq_getElem (by omega)] at f0 f1
  obtain ⟨C, hC, hcs, hr⟩ := ints_of (dp := 3) (by kernel_rfl) f0
  have hc16 : Try.prog.cellsOf 22 = 16 := by kernel_rfl
  have hc1 : Try.prog.cellsOf 23 = 1 := by kernel_rfl
  rw [hc16] at hC hcs
  rw [hc1] at f1
  obtain ⟨v, hv⟩ : ∃ v, cs.drop 16 = [v] := by
    match hd : cs.drop 16, (show (cs.drop 16).length = 1 by simp [hl17]) with
    | [v], _ => exact ⟨v, rfl⟩
  rw [hv] at f1
  obtain ⟨n, S, hS, hsl, hsr⟩ := op_slice_t .i64 Try.underlying23 1 (by kernel_rfl) 1 (by kernel_rfl) (by omega) f1
  obtain ⟨ad, c, rfl, hnc, hcm⟩ : ∃ ad c, v = .slice ad n c ∧ n ≤ c ∧ c ≤ 9223372036854775807 := by
    obtain ⟨_, ad, c, h1, h2, h3, _⟩ := hsl
    exact ⟨ad, c, h1, h2, by unfold maxLen at h3; exact h3⟩
  refine ⟨C, S, ad, n, c, ?_, ⟨hC, hnc, hcm, fun i hi => hr i (by omega), hsl, fun i hi => (wf_i64_iff _).1 (hsr i (by omega))⟩⟩
  rw [← List.take_append_drop 16 cs, hv]
  rw [List.drop_zero] at hcs
  rw [hcs]; rfl
theorem op_tab {H : Type} {enc : TypeId × Value → H} {W : World} {v : Value} {d : DataW H} {p : List MemPlace} {base : Nat} (ho : Value.okWide Try.prog W .any base 25 v) (h : DataW.Trod enc Try.prog W 0 (fun _ => true) true 25 v d p) :
    ∃ (C S : List Int) (ad : Option Addr) (n c : Nat), v = tv C (.slice ad n c) ∧ TabIn W C S ad n c := by
  obtain ⟨cs, rfl⟩ := op_agg (by rw [Try.underlying25]) ho
  obtain ⟨fuel, h⟩ := h
  obtain ⟨C, S, ad, n, c, h1, h2⟩ := tab_cells h
  refine ⟨C, S, ad, n, c, ?_, h2⟩
  have h3 : cs.toList = pcells [.ints C, .val (.slice ad n c)] := h1
  show Value.agg cs = Value.agg _
  rw [← h3]
end Go.Proofs.Ytccgcefeenloiaa
