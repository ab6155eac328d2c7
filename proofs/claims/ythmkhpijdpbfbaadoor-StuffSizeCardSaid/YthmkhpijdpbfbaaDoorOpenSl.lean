/- Opening slices of whatever is made of integers alone: numbers, arrays of them, structs of them. -/
import Derived.Test.YthmkhpijdpbfbaaDoorArr
import Derived.ProofKit
import Derived.OpenShut
import Derived.ChangeOld
import Derived.Deep.Slices
namespace Go.Proofs.YthmkhpijdpbfbaaDoor
open Go.ChangeShapes Go.WideShapes Go.ChangeAt Go.RowKit Go.Deep
/-- A type all of whose cells are integers of kind k. -/
def allInts (P : Program) (k : IntKind) : Nat → TypeId → Bool
  | 0, _ => false
  | d + 1, t => match P.underlying t with
    | some (.int k') => decide (k' = k) && P.cellsOf t == 1
    | some (.array n e) => allInts P k d e && P.cellsOf t == n * P.cellsOf e
    | some (.struct fs) => fs.toList.all (fun f => allInts P k d f.type) && (List.range (P.cellsOf t)).all fun j => fs.toList.any fun f => decide (f.offset ≤ j) && decide (j < f.offset + P.cellsOf f.type)
    | _ => false
theorem trod_ints {H : Type} {enc : TypeId × Value → H} {P : Program} {W : World} {base : Nat} {sp : Nat → Bool} {held : Bool} (k : IntKind) : ∀ (d : Nat) (t : TypeId), allInts P k d t = true → ∀ (fuel : Nat) (cs : List Value) (x : DataW H × List MemPlace),
    DataW.trod enc P W base sp held fuel t cs = some x → cs.length = P.cellsOf t ∧ ∀ j, j < cs.length → ∃ n, cs[j]? = some (.int k n) ∧ (Lit.int k n).wf = true := by
  intro d
  induction d with
  | zero => intro t h; simp [allInts] at h
  | succ d ih =>
    intro t ht fuel cs x h
    unfold allInts at ht
    split at ht
    · rename_i k' hu
      simp only [Bool.and_eq_true, decide_eq_true_eq, beq_iff_eq] at ht
      obtain ⟨rfl, hc⟩ := ht
      obtain ⟨n, rfl, _, hw⟩ := DataW.trod_int hu h
      refine ⟨by simp [hc], fun j hj => ?_⟩
      obtain rfl : j = 0 := by simp at hj; omega
      exact ⟨n, rfl, hw⟩
    · rename_i n e hu
      simp only [Bool.and_eq_true, beq_iff_eq] at ht
      obtain ⟨he, hc⟩ := ht
      obtain ⟨xs, m, _, _, hl, hxl, hf⟩ := DataW.trod_array hu h
      refine ⟨hl, fun j hj => ?_⟩
      rw [hl, hc] at hj
      have hcp : 0 < P.cellsOf e := by
        rcases Nat.eq_zero_or_pos (P.cellsOf e) with h0 | h0
        · rw [h0] at hj; simp at hj
        · exact h0
      have hjn : j / P.cellsOf e < n := by rw [Nat.div_lt_iff_lt_mul hcp]; exact hj
      have hfe := hf (j / P.cellsOf e) hjn
      rw [List.getElem?_eq_getElem (by omega)] at hfe
      obtain ⟨hl2, hv⟩ := ih e he m _ _ hfe
      have hm := Nat.mod_lt j hcp
      obtain ⟨v, hv1, hv2⟩ := hv (j % P.cellsOf e) (by rw [hl2]; exact hm)
      refine ⟨v, ?_, hv2⟩
      rw [List.getElem?_take, if_pos hm, List.getElem?_drop] at hv1
      rwa [show j / P.cellsOf e * P.cellsOf e + j % P.cellsOf e = j by rw [Nat.mul_comm]; exact Nat.div_add_mod j _] at hv1
    · rename_i fs hu
      simp only [Bool.and_eq_true] at ht
      obtain ⟨he, hc⟩ := ht
      obtain ⟨xs, m, _, _, hl, hxl, hf⟩ := DataW.trod_struct hu h
      refine ⟨hl, fun j hj => ?_⟩
      rw [List.all_eq_true] at he hc
      have h1 := hc j (List.mem_range.2 (by omega))
      rw [List.any_eq_true] at h1
      obtain ⟨f, hfm, h1⟩ := h1
      simp only [Bool.and_eq_true, decide_eq_true_eq] at h1
      obtain ⟨i, hi, hfi⟩ := List.getElem_of_mem hfm
      have hi' : i < fs.size := by simpa using hi
      have hfe := hf i f (by rw [Array.getElem?_eq_getElem hi']; simpa using hfi)
      rw [List.getElem?_eq_getElem (by omega)] at hfe
      obtain ⟨hl2, hv⟩ := ih f.type (he f hfm) m _ _ hfe
      obtain ⟨v, hv1, hv2⟩ := hv (j - f.offset) (by rw [hl2]; omega)
      refine ⟨v, ?_, hv2⟩
      rw [List.getElem?_take, if_pos (by omega), List.getElem?_drop, show f.offset + (j - f.offset) = j by omega] at hv1
      exact hv1
    · cases ht
/-- A slice of such elements that came in: all cells of all of its elements, one behind the other. -/
theorem op_slice_t {H : Type} {enc : TypeId × Value → H} {P : Program} {W : World} {t e : TypeId} {v : Value} {x : DataW H × List MemPlace} {fuel : Nat} (k : IntKind) (ht : P.underlying t = some (.slice e)) (dp : Nat) (he : allInts P k dp e = true)
    (s : Nat) (hs : P.cellsOf e = s) (hs0 : 0 < s) (h : DataW.trod enc P W 0 (fun _ => true) true fuel t [v] = some x) :
    ∃ (n : Nat) (ns : List Int), ns.length = n * s ∧ Sl W s v n (ns.map (Value.int k)) ∧ ∀ i, i < ns.length → (Lit.int k (nth ns i)).wf = true := by
  rcases open_slice ht h with ⟨h0, _⟩ | ⟨a, len, cap, m, n, D, Pl, hcs, hb, hl, hm, hmm, _, hx⟩
  · obtain rfl : v = .slice none 0 0 := by simpa using h0
    exact ⟨0, [], by simp, Sl.nil W s, fun i hi => by simp at hi⟩
  · obtain rfl : v = .slice (some a) len cap := by simpa using hcs
    have hmc : m = cap := by simpa using hmm
    subst hmc
    have each : ∀ i, i < len * s → ∃ q : Int, W.cell? (a.add i) = some (.int k q) ∧ (Lit.int k q).wf = true := by
      intro i hi
      have hsp : 0 < s := by
        rcases Nat.eq_zero_or_pos s with h0 | h0
        · rw [h0] at hi; simp at hi
        · exact h0
      have hil : i / s < len := by rw [Nat.div_lt_iff_lt_mul hsp]; exact hi
      obtain ⟨cs', h1, h2⟩ := hx (i / s) (by omega)
      rw [hs] at h1
      obtain ⟨hl3, hv3⟩ := trod_ints k dp e he _ _ _ h2
      obtain ⟨_, hl4, hc4⟩ := World.cells?_some h1
      have hm3 := Nat.mod_lt i hsp
      obtain ⟨q, hq1, hq2⟩ := hv3 (i % s) (by rw [hl4]; exact hm3)
      refine ⟨q, ?_, hq2⟩
      rw [← hq1, ← hc4 (i % s) hm3, Go.Deep.add_add, show i / s * s + i % s = i by rw [Nat.mul_comm]; exact Nat.div_add_mod i _]
    obtain ⟨f, hf⟩ := choose_lt each
    refine ⟨len, (List.range (len * s)).map f, by simp, ⟨by simp, some a, m, rfl, hl, hm, ?_⟩, ?_⟩
    · rcases Nat.eq_zero_or_pos (len * s) with h0 | h0
      · rcases Nat.eq_zero_or_pos len with h1 | h1
        · exact .inl h1
        · exact absurd h0 (by have := Nat.mul_pos h1 hs0; omega)
      · refine .inr ?_
        have hc0 := (hf 0 h0).1
        have hspot : a.spot = none := by
          rw [show a.add 0 = a from rfl] at hc0
          unfold World.cell? at hc0
          split at hc0
          · split at hc0
            · cases hc0
            · rename_i hh; simpa using hh
          · cases hc0
        refine ⟨a.block, a.off, by cases a; simp at hspot; simp [hspot], fun i hi => ?_⟩
        have hci := (hf i hi).1
        have haddr : a.add i = ⟨a.block, a.off + i, none⟩ := by
          unfold Addr.add
          split
          · rename_i h0; subst h0; cases a; simp at hspot; simp [hspot]
          · rfl
        rw [haddr] at hci
        rw [hci]
        simp [hi]
    · intro i hi
      have hi' : i < len * s := by simpa using hi
      have := (hf i hi').2
      simpa [nth, List.getD, hi'] using this
theorem op_slice {H : Type} {enc : TypeId × Value → H} {P : Program} {W : World} {t e : TypeId} {v : Value} {d : DataW H} {p : List MemPlace} (k : IntKind) (ht : P.underlying t = some (.slice e)) (dp : Nat) (he : allInts P k dp e = true)
    (s : Nat) (hs : P.cellsOf e = s) (hs0 : 0 < s) {base : Nat} (ho : Value.okWide P W .any base t v) (h : DataW.Trod enc P W 0 (fun _ => true) true t v d p) :
    ∃ (n : Nat) (ns : List Int), ns.length = n * s ∧ Sl W s v n (ns.map (Value.int k)) ∧ ∀ i, i < ns.length → (Lit.int k (nth ns i)).wf = true := by
  obtain ⟨fuel, h⟩ := h
  have hvc : v.cells.toList = [v] := by
    unfold Value.okWide at ho
    rw [ht] at ho
    dsimp only at ho
    unfold Cell.okWide at ho
    rw [ht] at ho
    dsimp only at ho
    unfold Cell.ok at ho
    rw [ht] at ho
    cases v <;> first | rfl | exact absurd ho (by simp)
  rw [hvc] at h
  exact op_slice_t k ht dp he s hs hs0 h
/-- A struct or an array that came in. -/
theorem op_agg {P : Program} {W : World} {base : Nat} {t : TypeId} {v : Value} (hd : (match P.underlying t with | some (.struct _) | some (.array _ _) => true | _ => false) = true) (ho : Value.okWide P W .any base t v) : ∃ cs, v = .agg cs := by
  unfold Value.okWide at ho
  split at ho
  · obtain ⟨cs, h, _⟩ := ho; exact ⟨cs, h⟩
  · obtain ⟨cs, h, _⟩ := ho; exact ⟨cs, h⟩
  · rename_i h1 h2
    split at hd
    · rename_i x h3; exact absurd h3 (h1 x)
    · rename_i x y h3; exact absurd h3 (h2 x y)
    · cases hd
theorem wf_i64_iff (n : Int) : (Lit.int .i64 n).wf = true ↔ -9223372036854775808 ≤ n ∧ n ≤ 9223372036854775807 := by
  simp only [Lit.wf, Bool.and_eq_true, decide_eq_true_eq]
  have h1 : IntKind.i64.min = -9223372036854775808 := rfl
  have h2 : IntKind.i64.max = 9223372036854775807 := rfl
  rw [h1, h2]
theorem wf_u8_iff (n : Int) : (Lit.int .u8 n).wf = true ↔ 0 ≤ n ∧ n ≤ 255 := by
  simp only [Lit.wf, Bool.and_eq_true, decide_eq_true_eq]
  have h1 : IntKind.u8.min = 0 := rfl
  have h2 : IntKind.u8.max = 255 := rfl
  rw [h1, h2]
end Go.Proofs.YthmkhpijdpbfbaaDoor
