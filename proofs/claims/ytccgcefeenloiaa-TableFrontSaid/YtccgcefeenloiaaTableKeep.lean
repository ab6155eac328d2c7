/- The closed fact on tables. -/
import Derived.Test.YtccgcefeenloiaaTable2
import Derived.Test.YtccgcefeenloiaaEqTrip
namespace Go.Proofs.Ytccgcefeenloiaa
open Go.RowKit
set_option linter.unusedVariables false
theorem bl22_0_1 (m0 : Int) (m1 : Int) (w : World) : (Instr.build 22 #[(0, .int .i64 m0), (1, .int .i64 m1)]).run Try.prog w = .ok (.agg (iv ((((List.replicate 16 0).set 0 m0).set 1 m1)))) w := by kernel_rfl
theorem bl50_0_1 (m0 : Int) (m1 : Int) (w : World) : (Instr.build 50 #[(0, .int .i64 m0), (1, .int .i64 m1)]).run Try.prog w = .ok (.agg #[.int .i64 m0, .int .i64 m1, .int .i64 0]) w := by kernel_rfl
theorem bl22_0 (m0 : Int) (w : World) : (Instr.build 22 #[(0, .int .i64 m0)]).run Try.prog w = .ok (.agg (iv (((List.replicate 16 0).set 0 m0)))) w := by kernel_rfl
theorem tabRaw (m0 m1 m2 m3 m4 m5 m6 m7 m8 m9 m10 m11 m12 m13 m14 m15 : Int) (a : Option Addr) (n c : Nat) (w : World) : (Instr.build 25 #[(0, .agg #[.int .i64 m0, .int .i64 m1, .int .i64 m2, .int .i64 m3, .int .i64 m4, .int .i64 m5, .int .i64 m6, .int .i64 m7, .int .i64 m8, .int .i64 m9, .int .i64 m10, .int .i64 m11, .int .i64 m12, .int .i64 m13, .int .i64 m14, .int .i64 m15]), (1, .slice a n c)]).run Try.prog w = .ok (.agg #[.int .i64 m0, .int .i64 m1, .int .i64 m2, .int .i64 m3, .int .i64 m4, .int .i64 m5, .int .i64 m6, .int .i64 m7, .int .i64 m8, .int .i64 m9, .int .i64 m10, .int .i64 m11, .int .i64 m12, .int .i64 m13, .int .i64 m14, .int .i64 m15, .slice a n c]) w := by kernel_rfl
theorem tabBuild (l : List Int) (hl : l.length = 16) (a : Option Addr) (n c : Nat) (w : World) : (Instr.build 25 #[(0, .agg (iv l)), (1, .slice a n c)]).run Try.prog w = .ok (tv l (.slice a n c)) w := by
  match l, hl with
  | [m0, m1, m2, m3, m4, m5, m6, m7, m8, m9, m10, m11, m12, m13, m14, m15], _ => exact tabRaw _ _ _ _ _ _ _ _ _ _ _ _ _ _ _ _ a n c w
def C1 : List Int := ((List.replicate 16 0).set 0 1).set 1 1
def C2 : List Int := (List.replicate 16 0).set 0 2
theorem C1_len : Len C1 16 := rfl
theorem C2_len : Len C2 16 := rfl
theorem tab1 : tabE C1 [7, 4] = 0 := by decide +kernel
theorem tab2 : tabE C2 [0, 1] = 4 := by decide +kernel
theorem wds1 : wfl (wds C1 [7, 4]) = [7, 1, 0, 4, 2, 2] := by decide +kernel
set_option maxRecDepth 100000 in
set_option maxHeartbeats 4000000 in
theorem tabled_any (w0 : World) : Calls Try.prog 5 #[] w0 fun e w => e = .returned (.bool true) ∧ Ext w0 w := by
  have hS := St.start w0
  go_enter Try.func5, Try.ntmps5
  repeat' (first
    | ((with_reducible show wpList _ _ _ (⟨some 6, _, _, _, _, _⟩ :: _) _ _); refine wplV (tv C1 (.slice _ _ _)) (V.build (vs := [(0, .agg (iv C1)), (1, .slice _ _ _)]) rfl (tabBuild C1 rfl _ _ _)) (by kernel_rfl) ?_; go_step)
    | ((with_reducible show wpList _ _ _ (⟨some 22, _, _, _, _, _⟩ :: _) _ _); refine wplV (tv C2 (.slice _ _ _)) (V.build (vs := [(0, .agg (iv C2)), (1, .slice _ _ _)]) rfl (tabBuild C2 rfl _ _ _)) (by kernel_rfl) ?_; go_step)
    | ((with_reducible show wpList _ _ _ (⟨_, .call ⟨.value (.func 14), _, _⟩, _, _, _, _⟩ :: _) _ _); refine wpl_call (f := 14) Try.call14 (by kernel_rfl) ?_; refine ⟨_, (words_any _ C1 [7, 4] _ 2 2 C1_len (by have hx := hS.slBlk (n := 2) (s := 1) (cs := [.int .i64 7, .int .i64 4]) (by (repeat (first | with_reducible exact Pull.head | apply Pull.tail))) rfl (by decide); exact hx) (by decide)), ?_⟩; rintro e w ⟨a2, n2, c2, hn2, rfl, hS2⟩; rw [tab1, if_pos rfl] at hn2; obtain rfl : n2 = 2 := hn2; rw [tab1, if_pos rfl, wds1] at hS2; rw [tab1]; replace hS := hS.call1 hS2; clear hS2; refine ⟨_, rfl, ?_⟩; refine put_move ?_; go_step)
    | ((with_reducible show wpList _ _ _ (⟨_, .call ⟨.value (.func 15), _, _⟩, _, _, _, _⟩ :: _) _ _); refine wpl_call (f := 15) Try.call15 (by kernel_rfl) ?_; refine ⟨_, (eqWord_any _ _ _ _ _ _ _ [7, 1, 0, 4, 2, 2] [7, 1, 0, 4, 2, 2] (hS.sl (by (repeat (first | with_reducible exact Pull.head | apply Pull.tail)))) (by have hx := hS.slBlk (n := 2) (s := 3) (cs := [.int .i64 7, .int .i64 1, .int .i64 0, .int .i64 4, .int .i64 2, .int .i64 2]) (by (repeat (first | with_reducible exact Pull.head | apply Pull.tail))) rfl (by decide); exact hx) (by decide) (by decide)), ?_⟩; rintro e w ⟨rfl, hE2⟩; replace hS := hS.ext hE2; clear hE2; refine ⟨_, rfl, ?_⟩; refine put_move ?_; go_step)
    | ((with_reducible show wpList _ _ _ (⟨_, .call ⟨.value (.func 16), _, _⟩, _, _, _, _⟩ :: _) _ _); refine wpl_call (f := 16) Try.call16 (by kernel_rfl) ?_; refine ⟨_, (check_any _ C2 [0, 1] _ 2 2 C2_len (by have hx := hS.slBlk (n := 2) (s := 1) (cs := [.int .i64 0, .int .i64 1]) (by (repeat (first | with_reducible exact Pull.head | apply Pull.tail))) rfl (by decide); exact hx) (by decide)), ?_⟩; rintro e w ⟨rfl, hE2⟩; rw [tab2]; replace hS := hS.ext hE2; clear hE2; refine ⟨_, rfl, ?_⟩; refine put_move ?_; go_step)
    | go_skip
    | go_big_skip
    | ((with_reducible show wpList _ _ _ (⟨_, .move _, _, _, _, _⟩ :: _) _ _); (first | go_big_want | go_step); go_step)
    | ((with_reducible show wpList _ _ _ (⟨_, .assign _, _, _, _, _⟩ :: _) _ _); (first | go_big_want | go_step); go_step)
    | ((with_reducible show wpList _ _ _ (⟨_, .pick _ _ _, _, _, _, _⟩ :: _) _ _); first | (refine wplPickT rfl (by kernel_rfl) ?_; go_step) | (refine wplPickF rfl (by kernel_rfl) ?_; go_step))
    | ((with_reducible show wpList _ _ _ (⟨some 11, .binOp .eql 29 _ _ _, _, _, _, _⟩ :: _) _ _); first | (refine wplD _ (V.eql rfl rfl) (by kernel_rfl) (fun hB => ?_) (fun hB => ?_) <;> (try (have hF : False := (by omega); cases hF)) <;> go_step) | (refine wplB _ (V.eql rfl rfl) (by kernel_rfl) (fun hB => ?_) (fun hB => ?_) <;> (try (have hF : False := (absurd hB (by decide)); cases hF)) <;> go_step))
    | ((with_reducible show wpList _ _ _ (⟨some 4, .build 22 _, _, _, _, _⟩ :: _) _ _); first | (refine wplV _ (V.build (vs := [(0, _), (1, _)]) rfl (bl22_0_1 _ _)) (by kernel_rfl) ?_; go_step))
    | ((with_reducible show wpList _ _ _ (⟨_, .extract _ _, _, _, _, _⟩ :: _) _ _); first | (refine wplV _ (V.extract rfl rfl) (by kernel_rfl) ?_; go_step))
    | ((with_reducible show wpList _ _ _ (⟨some 14, .build 50 _, _, _, _, _⟩ :: _) _ _); first | (refine wplV _ (V.build (vs := [(0, _), (1, _)]) rfl (bl50_0_1 _ _)) (by kernel_rfl) ?_; go_step))
    | ((with_reducible show wpList _ _ _ (⟨some 15, .build 50 _, _, _, _, _⟩ :: _) _ _); first | (refine wplV _ (V.build (vs := [(0, _), (1, _), (2, _)]) rfl (bl50_0_1_2 _ _ _)) (by kernel_rfl) ?_; go_step))
    | ((with_reducible show wpList _ _ _ (⟨some 20, .build 22 _, _, _, _, _⟩ :: _) _ _); first | (refine wplV _ (V.build (vs := [(0, _)]) rfl (bl22_0 _)) (by kernel_rfl) ?_; go_step))
    | ((with_reducible show wpList _ _ _ (⟨_, .binOp .eql 29 _ _ _, _, _, _, _⟩ :: _) _ _); first | (refine wplV _ (V.eql rfl rfl) (by kernel_rfl) ?_; go_step))
    | ((with_reducible show wpList _ _ _ (⟨some 5, .buildSlice 23 _ _, _, _, _, _⟩ :: _) _ _); first | (refine wpl (by kernel_rfl) ?_; apply wp_buildSlice1 (o := ⟨some 5, _, _, _, _, _⟩) hS 23 2 _ rfl 3 1 8 el23 _ _; (case hvs => (repeat (first | exact Parts.nil | (apply Parts.agg; (rfl); (rfl)) | (apply Parts.one; (first | exact IsV.int rfl | exact IsV.bool rfl | exact IsV.slice rfl | exact IsV.pointer rfl | exact IsV.string rfl | exact IsV.map rfl | exact IsV.func rfl); (rfl); (rfl))))); (case hn => rfl); (case hn0 => decide); (case hns => decide); clear hS; intro g5 w hS; refine put_move ?_; go_step))
    | ((with_reducible show wpList _ _ _ (⟨some 16, .buildSlice 45 _ _, _, _, _, _⟩ :: _) _ _); first | (refine wpl (by kernel_rfl) ?_; apply wp_buildSlice1 (o := ⟨some 16, _, _, _, _, _⟩) hS 45 2 _ rfl 50 3 24 el45 _ _; (case hvs => (repeat (first | exact Parts.nil | (apply Parts.agg; (rfl); (rfl)) | (apply Parts.one; (first | exact IsV.int rfl | exact IsV.bool rfl | exact IsV.slice rfl | exact IsV.pointer rfl | exact IsV.string rfl | exact IsV.map rfl | exact IsV.func rfl); (rfl); (rfl))))); (case hn => rfl); (case hn0 => decide); (case hns => decide); clear hS; intro g16 w hS; simp only [List.cons_append, List.nil_append] at hS; refine put_move ?_; go_step))
    | ((with_reducible show wpList _ _ _ (⟨some 21, .buildSlice 23 _ _, _, _, _, _⟩ :: _) _ _); first | (refine wpl (by kernel_rfl) ?_; apply wp_buildSlice1 (o := ⟨some 21, _, _, _, _, _⟩) hS 23 2 _ rfl 3 1 8 el23 _ _; (case hvs => (repeat (first | exact Parts.nil | (apply Parts.agg; (rfl); (rfl)) | (apply Parts.one; (first | exact IsV.int rfl | exact IsV.bool rfl | exact IsV.slice rfl | exact IsV.pointer rfl | exact IsV.string rfl | exact IsV.map rfl | exact IsV.func rfl); (rfl); (rfl))))); (case hn => rfl); (case hn0 => decide); (case hns => decide); clear hS; intro g21 w hS; refine put_move ?_; go_step))
    | ((fail_if_success (with_reducible show wpList _ _ _ (_ :: _) _ _)); go_step))
  all_goals (go_ret; exact ⟨rfl, hS.1⟩)
end Go.Proofs.Ytccgcefeenloiaa
