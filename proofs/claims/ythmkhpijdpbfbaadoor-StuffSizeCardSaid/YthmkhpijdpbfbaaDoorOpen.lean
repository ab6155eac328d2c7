/- Opening the arguments of a law: what their readings say of the values and of memory. -/
import Derived.Test.YthmkhpijdpbfbaaDoorArr
import Derived.ProofKit
import Derived.OpenShut
import Derived.ChangeOld
namespace Go.Proofs.YthmkhpijdpbfbaaDoor
open Go.ChangeShapes Go.WideShapes Go.ChangeAt Go.RowKit
/-- An integer that came in. -/
theorem op_int {H : Type} {enc : TypeId × Value → H} {P : Program} {W : World} {base : Nat} {t : TypeId} {v : Value} {d : DataW H} {p : List MemPlace} (ht : P.underlying t = some (.int .i64))
    (ho : Value.okWide P W .any base t v) (h : DataW.Trod enc P W 0 (fun _ => true) true t v d p) : ∃ n : Int, v = .int .i64 n ∧ -9223372036854775808 ≤ n ∧ n ≤ 9223372036854775807 := by
  obtain ⟨n, rfl, rfl, rfl, wn⟩ := open_int ht ho h
  refine ⟨n, rfl, ?_⟩
  have h := wn
  simp only [Lit.wf, Bool.and_eq_true, decide_eq_true_eq] at h
  have h1 : IntKind.i64.min = -9223372036854775808 := rfl
  have h2 : IntKind.i64.max = 9223372036854775807 := rfl
  omega
/-- A cell of type int that came in. -/
theorem op_cell {P : Program} {W : World} {base : Nat} {u : TypeId} {v : Value} (hu : P.underlying u = some (.int .i64)) (h : Cell.okWide P W .any base u v) :
    ∃ n : Int, v = .int .i64 n ∧ -9223372036854775808 ≤ n ∧ n ≤ 9223372036854775807 := by
  unfold Cell.okWide at h
  rw [hu] at h
  dsimp only at h
  unfold Cell.ok at h
  rw [hu] at h
  cases v <;> simp only at h
  case int k n =>
    obtain ⟨rfl, h⟩ := h
    refine ⟨n, rfl, ?_⟩
    simp only [IntKind.has] at h
    have h1 : IntKind.i64.min = -9223372036854775808 := rfl
    have h2 : IntKind.i64.max = 9223372036854775807 := rfl
    simp only [h1, h2] at h
    simpa using h
/-- An array or a struct of ints that came in. -/
theorem op_row {P : Program} {W : World} {base : Nat} {t : TypeId} {v : Value} {ts : List TypeId} (hd : (match P.underlying t with | some (.struct _) | some (.array _ _) => true | _ => false) = true)
    (hts : P.cellTypes P.depth t = some ts) (hall : ∀ u ∈ ts, P.underlying u = some (.int .i64)) (ho : Value.okWide P W .any base t v) :
    ∃ l : List Int, l.length = P.cellsOf t ∧ v = .agg (iv l) ∧ ∀ i, i < l.length → -9223372036854775808 ≤ nth l i ∧ nth l i ≤ 9223372036854775807 := by
  have h' : ∃ cs, v = .agg cs ∧ cs.size = P.cellsOf t ∧ Row.okWide P W .any base t cs := by
    unfold Value.okWide at ho
    split at ho
    · exact ho
    · exact ho
    · rename_i h1 h2
      split at hd
      · rename_i x h3; exact absurd h3 (h1 x)
      · rename_i x y h3; exact absurd h3 (h2 x y)
      · cases hd
  obtain ⟨cs, rfl, hsz, ts', hts', _, hcells⟩ := h'
  rw [hts] at hts'
  cases hts'
  have key : ∀ i, i < cs.size → ∃ n : Int, cs[i]? = some (.int .i64 n) ∧ -9223372036854775808 ≤ n ∧ n ≤ 9223372036854775807 := by
    intro i hi
    obtain ⟨u, hu, hc⟩ := hcells i cs[i] (by simp [hi])
    obtain ⟨n, hn, hb⟩ := op_cell (hall u (List.mem_of_getElem? hu)) hc
    exact ⟨n, by simp [hi, hn], hb⟩
  refine ⟨(List.range cs.size).map fun i => intOf (cs[i]?.getD undef), by simp [hsz], ?_, ?_⟩
  · congr 1
    apply Array.ext_getElem?
    intro i
    by_cases hi : i < cs.size
    · obtain ⟨n, hn, _⟩ := key i hi
      simp only [iv, List.map_map, List.getElem?_toArray, List.getElem?_map, List.getElem?_range hi, Option.map_some, Function.comp]
      rw [hn]; rfl
    · simp [iv, List.getElem?_eq_none (show (List.range cs.size).length ≤ i by simp; omega)]
      omega
  · intro i hi
    have hi' : i < cs.size := by simpa using hi
    obtain ⟨n, hn, hb⟩ := key i hi'
    have e : nth ((List.range cs.size).map fun i => intOf (cs[i]?.getD undef)) i = n := by
      simp only [nth, List.getD, List.getElem?_map, List.getElem?_range hi', Option.map_some, Option.getD_some]
      rw [hn]; rfl
    rw [e]; exact hb
end Go.Proofs.YthmkhpijdpbfbaaDoor
