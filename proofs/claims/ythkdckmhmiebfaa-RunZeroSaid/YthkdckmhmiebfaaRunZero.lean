/- The law RunZero: its walk, and the statement. -/
import Derived.Test.YthkdckmhmiebfaaRunKeep
import Derived.Test.YthkdckmhmiebfaaOpen
import Derived.Test.YthkdckmhmiebfaaOpenBlock
namespace Go.Proofs.Ythkdckmhmiebfaa
open Go.ChangeShapes Go.WideShapes Go.ChangeAt Go.RowKit
set_option linter.unusedVariables false
theorem bl23_0 (m0 : Int) (w : World) : (Instr.build 23 #[(0, .int .i64 m0)]).run Try.prog w = .ok (.agg (iv (((List.replicate 64 0).set 0 m0)))) w := by kernel_rfl
theorem tks_zero (l : List Int) (h : ∀ n ∈ l, n = 0) : ∀ r, tks r l = if 0 < r + l.length then [endT] else [] := by
  induction l with
  | nil => intro r; simp [tks]
  | cons n l ih =>
    intro r
    rw [tks, if_pos (h n (by simp)), ih (fun m hm => h m (by simp [hm]))]
    simp only [List.length_cons]
    rw [if_pos (by omega), if_pos (by omega)]
theorem zero_spec (k : Int) (hk : -2047 ≤ k ∧ k ≤ 2047) : tokE k (nought.set 0 k) = 0 ∧ tokL k (nought.set 0 k) = [endT, endT] := by
  have hE : tokE k (nought.set 0 k) = 0 := tokE_of (by simp [nought]) hk fun i hi => by
    rw [nth_set _ _ _ _ (by simp [nought])]
    split
    · exact hk
    · unfold nought; rw [nth_zeros]; omega
  refine ⟨hE, ?_⟩
  rw [tokL, if_pos hE, toksOf]
  have h0 : nth (zto (nought.set 0 k)) 0 = k := by rw [zto_get _ 0 (by omega), show zn 0 = 0 by decide +kernel]; rfl
  have hd : ∀ n ∈ (zto (nought.set 0 k)).drop 1, n = 0 := fun n hn => by
    obtain ⟨i, hi, rfl⟩ := List.getElem_of_mem hn
    rw [List.length_drop, zto_len] at hi
    have e : ((zto (nought.set 0 k)).drop 1)[i]'(by rw [List.length_drop, zto_len]; exact hi) = nth (zto (nought.set 0 k)) (1 + i) := by
      rw [List.getElem_drop]; simp [nth, List.getD, zto_len, show 1 + i < 64 by omega]
    rw [e, zto_get _ _ (by omega), nth_set _ _ _ _ (by simp [nought]), if_neg, nought, nth_zeros]
    intro h
    have := zn_inj (1 + i) (by omega) 0 (by omega) (by rw [← h]; decide +kernel)
    omega
  rw [h0, Int.sub_self, tks_zero _ hd, if_pos (by rw [List.length_drop, zto_len]; omega)]
  rfl
set_option maxRecDepth 100000 in
set_option maxHeartbeats 4000000 in
theorem RunZero_walk {H : Type} {enc : TypeId × Value → H} {d0 : DataW H} {p0 : List MemPlace} {v0 : Value} {base : Nat} (W : World)
    (o0 : Value.okWide Try.prog W .any base 3 v0) (h0 : DataW.Trod enc Try.prog W 0 (fun _ => true) true 3 v0 d0 p0) (lt0 : ∀ x ∈ p0, x.block < W.heap.size)
    :
    Calls Try.prog 5 #[v0] W fun e w' => e = .returned (.bool true) ∧ Ext W w' := by
  obtain ⟨n, rfl, _, _⟩ := op_int Try.underlying3 o0 h0
  clear o0 h0 lt0
  have hr0 := Int.emod_nonneg n (b := 4095) (by omega)
  have hr1 := Int.emod_lt_of_pos n (b := 4095) (by omega)
  obtain ⟨m, hm⟩ : ∃ m, n % 4095 = m := ⟨_, rfl⟩
  rw [hm] at hr0 hr1
  have HM := hid hm
  obtain ⟨z1, z2⟩ := zero_spec (m - 2047) (by omega)
  have Z1 := hid z1
  have Z2 := hid z2
  clear hm z1 z2
  have hLen : Len (nought.set 0 (m - 2047)) 64 := Len.set nought_len
  have hS := St.start W
  go_enter Try.func5, Try.ntmps5
  repeat' (first
    | ((with_reducible show wpList _ _ _ (⟨_, .call ⟨.value (.func 12), _, _⟩, _, _, _, _⟩ :: _) _ _); refine wpl_call (f := 12) Try.call12 rfl ?_; refine ⟨_, (ranned_any _), ?_⟩; rintro e w ⟨rfl, hE2⟩; replace hS := hS.ext hE2; clear hE2; refine ⟨_, rfl, ?_⟩; refine put_move ?_; go_step)
    | ((with_reducible show wpList _ _ _ (⟨_, .call ⟨.value (.func 16), _, _⟩, _, _, _, _⟩ :: _) _ _); refine wpl_call (f := 16) Try.call16 rfl ?_; refine ⟨_, (rest_any _ 4095 _ (by omega) (by omega)), ?_⟩; rintro e w' ⟨rfl, rfl⟩; rw [HM.out]; refine ⟨_, rfl, ?_⟩; refine put_move ?_; go_step)
    | ((with_reducible show wpList _ _ _ (⟨_, .call ⟨.value (.func 13), _, _⟩, _, _, _, _⟩ :: _) _ _); refine wpl_call (f := 13) Try.call13 rfl ?_; refine ⟨_, (tokensOf_any _ (m - 2047) (nought.set 0 (m - 2047)) hLen), ?_⟩; rintro e w ⟨a2, c2, rfl, hS2⟩; rw [Z2.out, show [endT, endT].length = 2 from rfl, show flt [endT, endT] = [0, 0, 0, 0, 0, 0] from rfl] at hS2; rw [Z1.out, Z2.out, show [endT, endT].length = 2 from rfl]; replace hS := hS.call1 hS2; clear hS2; refine ⟨_, rfl, ?_⟩; refine put_move ?_; go_step)
    | ((with_reducible show wpList _ _ _ (⟨_, .call ⟨.value (.func 15), _, _⟩, _, _, _, _⟩ :: _) _ _); refine wpl_call (f := 15) Try.call15 rfl ?_; refine ⟨_, (eqTok_any _ _ _ 2 _ 2 _ [0, 0, 0, 0, 0, 0] [0, 0, 0, 0, 0, 0] (hS.sl (by (repeat (first | with_reducible exact Pull.head | apply Pull.tail)))) (by have hx := hS.slBlk (n := 2) (s := 3) (cs := [.int .i64 0, .int .i64 0, .int .i64 0, .int .i64 0, .int .i64 0, .int .i64 0]) (by (repeat (first | with_reducible exact Pull.head | apply Pull.tail))) rfl (by decide); exact hx) (by decide) (by decide)), ?_⟩; rintro e w ⟨rfl, hE2⟩; replace hS := hS.ext hE2; clear hE2; refine ⟨_, rfl, ?_⟩; refine put_move ?_; go_step)
    | go_skip
    | go_big_skip
    | ((with_reducible show wpList _ _ _ (⟨_, .move _, _, _, _, _⟩ :: _) _ _); (first | go_big_want | go_step); go_step)
    | ((with_reducible show wpList _ _ _ (⟨_, .assign _, _, _, _, _⟩ :: _) _ _); (first | go_big_want | go_step); go_step)
    | ((with_reducible show wpList _ _ _ (⟨_, .pick _ _ _, _, _, _, _⟩ :: _) _ _); first | (refine wplPickT rfl (by kernel_rfl) ?_; go_step) | (refine wplPickF rfl (by kernel_rfl) ?_; go_step))
    | ((with_reducible show wpList _ _ _ (⟨some 18, .binOp .eql 26 _ _ _, _, _, _, _⟩ :: _) _ _); first | (refine wplD _ (V.eql rfl rfl) (by kernel_rfl) (fun hB => ?_) (fun hB => ?_) <;> (try (have hF : False := (by omega); cases hF)) <;> go_step) | (refine wplB _ (V.eql rfl rfl) (by kernel_rfl) (fun hB => ?_) (fun hB => ?_) <;> (try (have hF : False := (absurd hB (by decide)); cases hF)) <;> go_step))
    | ((with_reducible show wpList _ _ _ (⟨_, .unOp .not _ _, _, _, _, _⟩ :: _) _ _); first | (refine wplV _ (V.notD rfl) (by kernel_rfl) ?_; go_step) | (refine wplV _ (V.not rfl) (by kernel_rfl) ?_; go_step))
    | ((with_reducible show wpList _ _ _ (⟨_, .binOp .sub _ _ _ _, _, _, _, _⟩ :: _) _ _); first | (refine wplV _ (V.subI rfl rfl (by omega)) (by kernel_rfl) ?_; go_step) | (refine wplV _ (V.subR (by decide) rfl rfl) (by kernel_rfl) ?_; go_step))
    | ((with_reducible show wpList _ _ _ (⟨some 13, .build 23 _, _, _, _, _⟩ :: _) _ _); first | (refine wplV _ (V.build (vs := [(0, _)]) rfl (bl23_0 _)) (by kernel_rfl) ?_; go_step))
    | ((with_reducible show wpList _ _ _ (⟨_, .extract _ _, _, _, _, _⟩ :: _) _ _); first | (refine wplV _ (V.extract rfl rfl) (by kernel_rfl) ?_; go_step))
    | ((with_reducible show wpList _ _ _ (⟨some 21, .build 32 _, _, _, _, _⟩ :: _) _ _); first | (refine wplV _ (V.build (vs := []) rfl (bl32_)) (by kernel_rfl) ?_; go_step))
    | ((with_reducible show wpList _ _ _ (⟨some 22, .build 32 _, _, _, _, _⟩ :: _) _ _); first | (refine wplV _ (V.build (vs := []) rfl (bl32_)) (by kernel_rfl) ?_; go_step))
    | ((with_reducible show wpList _ _ _ (⟨some 23, .buildSlice 25 _ _, _, _, _, _⟩ :: _) _ _); first | (refine wpl (by kernel_rfl) ?_; apply wp_buildSlice1 (o := ⟨some 23, _, _, _, _, _⟩) hS 25 2 _ rfl 32 3 24 el25 _ _; (case hvs => (repeat (first | exact Parts.nil | (apply Parts.agg; (rfl); (rfl)) | (apply Parts.one; (first | exact IsV.int rfl | exact IsV.bool rfl | exact IsV.slice rfl | exact IsV.pointer rfl | exact IsV.string rfl | exact IsV.map rfl | exact IsV.func rfl); (rfl); (rfl))))); (case hn => rfl); (case hn0 => decide); (case hns => decide); clear hS; intro g23 w hS; simp only [List.cons_append, List.nil_append] at hS; refine put_move ?_; go_step))
    | ((fail_if_success (with_reducible show wpList _ _ _ (_ :: _) _ _)); go_step))
  all_goals (go_ret; exact ⟨rfl, hS.1⟩)
end Go.Proofs.Ythkdckmhmiebfaa
