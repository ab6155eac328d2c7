/- The closed fact of the laws on stuffing, and what their arguments are. -/
import Derived.Test.YthmkhpijdpbfbaaDoorPlain
import Derived.Test.YthmkhpijdpbfbaaDoorEqByte
import Derived.Test.YthmkhpijdpbfbaaDoorEqInt
import Derived.Test.YthmkhpijdpbfbaaDoorUpto
namespace Go.Proofs.YthmkhpijdpbfbaaDoor
open Go.ChangeShapes Go.WideShapes Go.ChangeAt Go.RowKit
set_option maxRecDepth 100000
set_option linter.unusedVariables false
theorem eqByte_yes (w : World) (va vb : Value) (xs ys : List Int) (ha : BSl w va xs) (hb : BSl w vb ys) (h : xs = ys) :
    Calls Tryd.prog 8 #[va, vb] w fun e w' => e = .returned (.bool true) ∧ w = w' :=
  (eqByte_any w va vb xs ys ha hb).mono fun e w' ⟨h1, h2⟩ => ⟨by rw [h1, decide_eq_true h], h2⟩
theorem eqInt_yes (w : World) (va vb : Value) (xs ys : List Int) (ha : ISl w va xs) (hb : ISl w vb ys) (h : xs = ys) :
    Calls Tryd.prog 7 #[va, vb] w fun e w' => e = .returned (.bool true) ∧ w = w' :=
  (eqInt_any w va vb xs ys ha hb).mono fun e w' ⟨h1, h2⟩ => ⟨by rw [h1, decide_eq_true h], h2⟩
theorem slice_nil {H : Type} {enc : TypeId × Value → H} {P : Program} {W : World} {t e : TypeId} {ad : Option Addr} {n c : Nat} {d : DataW H} {p : List MemPlace} (ht : P.underlying t = some (.slice e))
    (h : DataW.Trod enc P W 0 (fun _ => true) true t (.slice ad n c) d p) : ad = none → c = 0 := by
  intro hn
  subst hn
  obtain ⟨fuel, h⟩ := h
  have hvc : (Value.slice none n c).cells.toList = [.slice none n c] := rfl
  rw [hvc] at h
  rcases Go.Deep.open_slice ht h with ⟨h0, _⟩ | ⟨a, len, cap, m, k, D, Pl, hcs, _, _, _, _, hx, _⟩
  · have h1 := h0; simp at h1; exact h1.2
  · have h1 := hcs; simp at h1
/-- Bytes that came in. -/
theorem op_bytesI {H : Type} {enc : TypeId × Value → H} {W : World} {v : Value} {d : DataW H} {p : List MemPlace} {base : Nat} (ho : Value.okWide Tryd.prog W .any base 22 v) (h : DataW.Trod enc Tryd.prog W 0 (fun _ => true) true 22 v d p) :
    ∃ (n : Nat) (xs : List Int) (ad : Option Addr) (c : Nat), v = .slice ad n c ∧ Sl W 1 (.slice ad n c) n (xs.map (Value.int .u8)) ∧ (∀ x ∈ xs, 0 ≤ x ∧ x < 256) ∧ (ad = none → c = 0) ∧ n ≤ Rows.uptoBulk d := by
  obtain ⟨n, l, ad, c, hl, rfl, _, _, hs, hr, hb⟩ := op_bytes ho h
  refine ⟨n, l.map fun (x : Nat) => (x : Int), ad, c, rfl, by rw [List.map_map]; exact hs, fun x hx => ?_, slice_nil Tryd.underlying22 h, hb⟩
  obtain ⟨y, hy, rfl⟩ := List.mem_map.1 hx
  have := hr y hy
  exact ⟨by omega, by omega⟩
theorem stf_rng {l : List Int} (h : ∀ x ∈ l, 0 ≤ x ∧ x < 256) : ∀ x ∈ stf l, 0 ≤ x ∧ x < 256 := by
  induction l with
  | nil => intro x hx; cases hx
  | cons y l ih =>
    intro x hx
    rw [stf_cons, List.mem_append] at hx
    rcases hx with hx | hx
    · by_cases hy : y = 255
      · rw [if_pos hy] at hx; simp at hx; omega
      · rw [if_neg hy] at hx; simp at hx; subst hx; exact h x (by simp)
    · exact ih (fun z hz => h z (by simp [hz])) x hx
theorem stf_two (l : List Int) : (stf l).length ≤ 2 * l.length := by
  rw [stf_len]; have := List.count_le_length (a := (255 : Int)) (l := l); omega
set_option maxHeartbeats 4000000 in
theorem stuffed_any (w : World) : Calls Tryd.prog 4 #[] w fun e w' => e = .returned (.bool true) ∧ Ext w w' := by
  have hS := St.start w
  have F1 := hid (show spf [1, 255, 7, 2] [] [] [] = some ([[1], [2]], [7]) by decide +kernel)
  go_enter Tryd.func4, Tryd.ntmps4
  repeat' (first
    | ((with_reducible show wpList _ _ _ (⟨_, .call ⟨.value (.func 6), _, _⟩, _, _, _, _⟩ :: _) _ _); refine wpl_call (f := 6) Tryd.call6 (by kernel_rfl) ?_; refine ⟨_, (split_any _ _ 4 4 [1, 255, 7, 2] (hS.slBlk (n := 4) (cs := [.int .u8 1, .int .u8 255, .int .u8 7, .int .u8 2]) (by (repeat (first | with_reducible exact Pull.head | apply Pull.tail))) (by rfl) (by decide)) (by decide) (by decide)), ?_⟩; rintro e w ⟨-, hR⟩; obtain ⟨pcs, ao, am, co, cm, lo, lm, hlo, hlm, -, rfl, hS2⟩ := hR _ _ F1.out; clear hR; simp only [List.length_cons, List.length_nil] at hlo hlm; subst hlo; subst hlm; replace hS := hS.call hS2; clear hS2; simp only [List.cons_append, List.nil_append] at hS; refine ⟨_, rfl, ?_⟩; refine put_move ?_; go_step)
    | go_skip
    | go_big_skip
    | ((with_reducible show wpList _ _ _ (⟨_, .move _, _, _, _, _⟩ :: _) _ _); (first | go_big_want | go_step); go_step)
    | ((with_reducible show wpList _ _ _ (⟨_, .assign _, _, _, _, _⟩ :: _) _ _); (first | go_big_want | go_step); go_step)
    | ((with_reducible show wpList _ _ _ (⟨_, .pick _ _ _, _, _, _, _⟩ :: _) _ _); first | (refine wplPickT rfl (by kernel_rfl) ?_; go_step) | (refine wplPickF rfl (by kernel_rfl) ?_; go_step))
    | ((with_reducible show wpList _ _ _ (⟨some 7, .extract _ _, _, _, _, _⟩ :: _) _ _); first | (refine wplV _ (V.extract rfl rfl) (by kernel_rfl) ?_; go_step))
    | ((with_reducible show wpList _ _ _ (⟨some 8, .extract _ _, _, _, _, _⟩ :: _) _ _); first | (refine wplV _ (V.extract rfl rfl) (by kernel_rfl) ?_; go_step))
    | ((with_reducible show wpList _ _ _ (⟨some 9, .extract _ _, _, _, _, _⟩ :: _) _ _); first | (refine wplV _ (V.extract rfl rfl) (by kernel_rfl) ?_; go_step))
    | ((with_reducible show wpList _ _ _ (⟨some 5, .buildSlice 22 _ _, _, _, _, _⟩ :: _) _ _); first | (refine wpl (by kernel_rfl) ?_; apply wp_buildSlice1 (o := ⟨some 5, _, _, _, _, _⟩) hS 22 4 _ rfl 5 1 1 el22 _ _; (case hvs => (repeat (first | exact Parts.nil | (apply Parts.agg; (rfl); (rfl)) | (apply Parts.one; (first | exact IsV.int rfl | exact IsV.bool rfl | exact IsV.slice rfl | exact IsV.pointer rfl | exact IsV.string rfl | exact IsV.map rfl | exact IsV.func rfl); (rfl); (rfl))))); (case hn => rfl); (case hn0 => decide); (case hns => decide); clear hS; intro g5 w hS; refine put_move ?_; go_step))
    | ((fail_if_success (with_reducible show wpList _ _ _ (_ :: _) _ _)); go_step))
  repeat' (first
    | ((with_reducible show wpList _ _ _ (⟨_, .call ⟨.value (.func 7), _, _⟩, _, _, _, _⟩ :: _) _ _); refine wpl_call (f := 7) Tryd.call7 (by kernel_rfl) ?_; refine ⟨_, (eqInt_yes _ _ _ [7] [7] (hS.sl (by (repeat (first | with_reducible exact Pull.head | apply Pull.tail)))) (hS.slBlk (n := 1) (cs := [.int .i64 7]) (by (repeat (first | with_reducible exact Pull.head | apply Pull.tail))) (by rfl) (by decide)) rfl), ?_⟩; rintro e w ⟨rfl, rfl⟩; refine ⟨_, rfl, ?_⟩; refine put_move ?_; go_step)
    | ((with_reducible show wpList _ _ _ (⟨_, .call ⟨.value (.func 5), _, _⟩, _, _, _, _⟩ :: _) _ _); refine wpl_call (f := 5) Tryd.call5 (by kernel_rfl) ?_; refine ⟨_, (stuff_any _ _ 1 1 [255] (hS.slBlk (n := 1) (cs := [.int .u8 255]) (by (repeat (first | with_reducible exact Pull.head | apply Pull.tail))) (by rfl) (by decide)) (by intro h; cases h) (by decide) (by decide)), ?_⟩; rintro e w ⟨ad5, c5, rfl, hS2⟩; replace hS := hS.call1 hS2; clear hS2; refine ⟨_, rfl, ?_⟩; refine put_move ?_; go_step)
    | ((with_reducible show wpList _ _ _ (⟨_, .call ⟨.value (.func 8), _, _⟩, _, _, _, _⟩ :: _) _ _); refine wpl_call (f := 8) Tryd.call8 (by kernel_rfl) ?_; refine ⟨_, (eqByte_yes _ _ _ (stf [255]) [255, 0] (hS.sl (by (repeat (first | with_reducible exact Pull.head | apply Pull.tail)))) (hS.slBlk (n := 2) (cs := [.int .u8 255, .int .u8 0]) (by (repeat (first | with_reducible exact Pull.head | apply Pull.tail))) (by rfl) (by decide)) rfl), ?_⟩; rintro e w ⟨rfl, rfl⟩; refine ⟨_, rfl, ?_⟩; refine put_move ?_; go_step)
    | go_skip
    | go_big_skip
    | ((with_reducible show wpList _ _ _ (⟨_, .move _, _, _, _, _⟩ :: _) _ _); (first | go_big_want | go_step); go_step)
    | ((with_reducible show wpList _ _ _ (⟨_, .assign _, _, _, _, _⟩ :: _) _ _); (first | go_big_want | go_step); go_step)
    | ((with_reducible show wpList _ _ _ (⟨_, .pick _ _ _, _, _, _, _⟩ :: _) _ _); first | (refine wplPickT rfl (by kernel_rfl) ?_; go_step) | (refine wplPickF rfl (by kernel_rfl) ?_; go_step))
    | ((with_reducible show wpList _ _ _ (⟨some 11, .binOp .eql 28 _ _ _, _, _, _, _⟩ :: _) _ _); first | (refine wplD _ (V.eql rfl rfl) (by kernel_rfl) (fun hB => ?_) (fun hB => ?_) <;> (try (have hF : False := (by omega); cases hF)) <;> go_step) | (refine wplB _ (V.eql rfl rfl) (by kernel_rfl) (fun hB => ?_) (fun hB => ?_) <;> (try (have hF : False := (absurd hB (by decide)); cases hF)) <;> go_step))
    | ((with_reducible show wpList _ _ _ (⟨some 15, .binOp .eql 3 _ _ _, _, _, _, _⟩ :: _) _ _); first | (refine wplD _ (V.eql rfl rfl) (by kernel_rfl) (fun hB => ?_) (fun hB => ?_) <;> (try (have hF : False := (by omega); cases hF)) <;> go_step) | (refine wplB _ (V.eql rfl rfl) (by kernel_rfl) (fun hB => ?_) (fun hB => ?_) <;> (try (have hF : False := (absurd hB (by decide)); cases hF)) <;> go_step))
    | ((with_reducible show wpList _ _ _ (⟨some 14, .call ⟨.builtin .len, _, _⟩, _, _, _, _⟩ :: _) _ _); first | (refine wplV _ (V.len Tryd.underlying26 rfl) (by kernel_rfl) ?_; go_step))
    | ((with_reducible show wpList _ _ _ (⟨some 19, .buildSlice 27 _ _, _, _, _, _⟩ :: _) _ _); first | (refine wpl (by kernel_rfl) ?_; apply wp_buildSlice1 (o := ⟨some 19, _, _, _, _, _⟩) hS 27 1 _ rfl 3 1 8 el27 _ _; (case hvs => (repeat (first | exact Parts.nil | (apply Parts.agg; (rfl); (rfl)) | (apply Parts.one; (first | exact IsV.int rfl | exact IsV.bool rfl | exact IsV.slice rfl | exact IsV.pointer rfl | exact IsV.string rfl | exact IsV.map rfl | exact IsV.func rfl); (rfl); (rfl))))); (case hn => rfl); (case hn0 => decide); (case hns => decide); clear hS; intro g19 w hS; refine put_move ?_; go_step))
    | ((with_reducible show wpList _ _ _ (⟨some 23, .buildSlice 22 _ _, _, _, _, _⟩ :: _) _ _); first | (refine wpl (by kernel_rfl) ?_; apply wp_buildSlice1 (o := ⟨some 23, _, _, _, _, _⟩) hS 22 1 _ rfl 5 1 1 el22 _ _; (case hvs => (repeat (first | exact Parts.nil | (apply Parts.agg; (rfl); (rfl)) | (apply Parts.one; (first | exact IsV.int rfl | exact IsV.bool rfl | exact IsV.slice rfl | exact IsV.pointer rfl | exact IsV.string rfl | exact IsV.map rfl | exact IsV.func rfl); (rfl); (rfl))))); (case hn => rfl); (case hn0 => decide); (case hns => decide); clear hS; intro g23 w hS; refine put_move ?_; go_step))
    | ((with_reducible show wpList _ _ _ (⟨some 25, .buildSlice 22 _ _, _, _, _, _⟩ :: _) _ _); first | (refine wpl (by kernel_rfl) ?_; apply wp_buildSlice1 (o := ⟨some 25, _, _, _, _, _⟩) hS 22 2 _ rfl 5 1 1 el22 _ _; (case hvs => (repeat (first | exact Parts.nil | (apply Parts.agg; (rfl); (rfl)) | (apply Parts.one; (first | exact IsV.int rfl | exact IsV.bool rfl | exact IsV.slice rfl | exact IsV.pointer rfl | exact IsV.string rfl | exact IsV.map rfl | exact IsV.func rfl); (rfl); (rfl))))); (case hn => rfl); (case hn0 => decide); (case hns => decide); clear hS; intro g25 w hS; refine put_move ?_; go_step))
    | ((fail_if_success (with_reducible show wpList _ _ _ (_ :: _) _ _)); go_step))
  go_ret
  exact ⟨rfl, hS.1⟩
end Go.Proofs.YthmkhpijdpbfbaaDoor
