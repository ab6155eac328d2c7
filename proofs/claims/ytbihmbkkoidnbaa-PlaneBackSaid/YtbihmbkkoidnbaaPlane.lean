/- The walks of package plane: areas, Many. -/
import Derived.Test.YtbihmbkkoidnbaaTy3
import Derived.Test.YtbihmbkkoidnbaaTint
namespace Go.Proofs.Ytbihmbkkoidnbaa
open Go.RowKit
set_option linter.unusedVariables false
theorem bl59_0_1 (m0 : Int) (m1 : Int) (w : World) : (Instr.build 59 #[(0, .int .i64 m0), (1, .int .i64 m1)]).run Try.prog w = .ok (.agg #[.int .i64 m0, .int .i64 m1]) w := by kernel_rfl
theorem check_any (w0 : World) (m n : Int) : Calls Try.prog 40 #[.agg #[.int .i64 m, .int .i64 n]] w0 fun e w' => e = .returned (.int .i64 (if 1 ≤ m ∧ m ≤ 64 ∧ 1 ≤ n ∧ n ≤ 64 then 0 else 1)) ∧ Ext w0 w' := by
  have hS := St.start w0
  go_enter Try.func40, Try.ntmps40
  repeat' (first
    | go_skip
    | go_big_skip
    | ((with_reducible show wpList _ _ _ (⟨_, .move _, _, _, _, _⟩ :: _) _ _); (first | go_big_want | go_step); go_step)
    | ((with_reducible show wpList _ _ _ (⟨_, .assign _, _, _, _, _⟩ :: _) _ _); (first | go_big_want | go_step); go_step)
    | ((with_reducible show wpList _ _ _ (⟨_, .pick _ _ _, _, _, _, _⟩ :: _) _ _); first | (refine wplPickT rfl (by kernel_rfl) ?_; go_step) | (refine wplPickF rfl (by kernel_rfl) ?_; go_step))
    | ((with_reducible show wpList _ _ _ (⟨some 5, .binOp .lss _ _ _ _, _, _, _, _⟩ :: _) _ _); first | (refine wplD _ (V.lss rfl rfl) (by kernel_rfl) (fun hB => ?_) (fun hB => ?_) <;> (try (have hF : False := (by omega); cases hF)) <;> go_step) | (refine wplB _ (V.lss rfl rfl) (by kernel_rfl) (fun hB => ?_) (fun hB => ?_) <;> go_step))
    | ((with_reducible show wpList _ _ _ (⟨some 9, .binOp .gtr _ _ _ _, _, _, _, _⟩ :: _) _ _); first | (refine wplD _ (V.gtr rfl rfl) (by kernel_rfl) (fun hB => ?_) (fun hB => ?_) <;> (try (have hF : False := (by omega); cases hF)) <;> go_step) | (refine wplB _ (V.gtr rfl rfl) (by kernel_rfl) (fun hB => ?_) (fun hB => ?_) <;> go_step))
    | ((with_reducible show wpList _ _ _ (⟨some 14, .binOp .lss _ _ _ _, _, _, _, _⟩ :: _) _ _); first | (refine wplD _ (V.lss rfl rfl) (by kernel_rfl) (fun hB => ?_) (fun hB => ?_) <;> (try (have hF : False := (by omega); cases hF)) <;> go_step) | (refine wplB _ (V.lss rfl rfl) (by kernel_rfl) (fun hB => ?_) (fun hB => ?_) <;> go_step))
    | ((with_reducible show wpList _ _ _ (⟨_, .fieldAddr 59 _ 0, _, _, _, _⟩ :: _) _ _); first | (refine wplV _ (V.fieldAddr fo59_0 rfl (by first | with_reducible exact Nat.zero_add _ | with_reducible exact Nat.add_zero _ | exact rfl)) (by kernel_rfl) ?_; go_step))
    | ((with_reducible show wpList _ _ _ (⟨_, .fieldAddr 59 _ 1, _, _, _, _⟩ :: _) _ _); first | (refine wplV _ (V.fieldAddr fo59_1 rfl (by first | with_reducible exact Nat.zero_add _ | with_reducible exact Nat.add_zero _ | exact rfl)) (by kernel_rfl) ?_; go_step))
    | ((with_reducible show wpList _ _ _ (⟨_, .binOp .gtr _ _ _ _, _, _, _, _⟩ :: _) _ _); first | (refine wplV _ (V.gtr rfl rfl) (by kernel_rfl) ?_; go_step))
    | ((with_reducible show wpList _ _ _ (⟨some 1, .box 59 _, _, _, _, _⟩ :: _) _ _); first | (refine wpl (by kernel_rfl) (wp_boxG (o := ⟨some 1, _, _, _, _, _⟩) hS 59 _ rfl _ rfl ?_); clear hS; intro g1 w hS; refine put_move ?_; go_step))
    | ((with_reducible show wpList _ _ _ (⟨_, .load 3 _, _, _, _, _⟩ :: _) _ _); first | (refine wpl (by kernel_rfl) (wp_load1A hS 3 _ rfl _ _ rfl (one_of rfl) _ _ (by (repeat (first | with_reducible exact Pull.head | apply Pull.tail))) (by omega) ?_); refine put_move ?_; go_step) | (refine wpl (by kernel_rfl) (wp_load1OI hS 3 _ rfl _ _ rfl (one_of rfl) _ _ _ _ _ (by (repeat (first | with_reducible exact Pull.head | apply Pull.tail))) (by omega) ?_); refine put_move ?_; go_step) | (refine wpl (by kernel_rfl) (wp_load1 hS 3 _ rfl _ _ rfl (one_of rfl) _ (by (repeat (first | with_reducible exact Pull.head | apply Pull.tail))) _ (by rfl) ?_); refine put_move ?_; go_step) | (refine wpl (by kernel_rfl) (wp_load1O hS 3 _ rfl _ _ rfl (one_of rfl) _ _ _ _ _ (by (repeat (first | with_reducible exact Pull.head | apply Pull.tail))) _ (by with_reducible assumption) ?_); refine put_move ?_; go_step) | (refine wpl (by kernel_rfl) (wp_loadW hS 3 _ rfl _ rfl (one_of rfl) _ (by with_reducible assumption) ?_); refine put_move ?_; go_step) | (refine wpl (by kernel_rfl) (wp_load1R hS 3 _ rfl _ _ _ rfl (one_of rfl) _ _ (by with_reducible assumption) (by with_reducible assumption) (by omega) ?_); refine put_move ?_; go_step) | (refine wpl (by kernel_rfl) (wp_load1R0 hS 3 _ rfl _ _ rfl (one_of rfl) _ _ (by with_reducible assumption) (by with_reducible assumption) (by omega) ?_); refine put_move ?_; go_step))
    | ((fail_if_success (with_reducible show wpList _ _ _ (_ :: _) _ _)); go_step))
  all_goals (go_ret; exact ⟨ret_int (by omega), hS.1⟩)
theorem across_any (w0 : World) (m n : Int) (h : 1 ≤ m ∧ m ≤ 64) : Calls Try.prog 50 #[.agg #[.int .i64 m, .int .i64 n]] w0 fun e w' => e = .returned (.int .i64 ((m + 7) / 8)) ∧ Ext w0 w' := by
  have hS := St.start w0
  go_enter Try.func50, Try.ntmps50
  repeat' (first
    | ((with_reducible show wpList _ _ _ (⟨some 6, .binOp .sub _ _ _ _, _, _, _, _⟩ :: _) _ _); first | (refine wplV (.int _ (m + 7)) (V.as (V.subI rfl rfl (by omega)) (by omega)) rfl ?_; go_step) | (refine wplV (.int _ (m + 7)) (V.as (V.subR (by decide) rfl rfl) (by omega)) rfl ?_; go_step))
    | go_skip
    | go_big_skip
    | ((with_reducible show wpList _ _ _ (⟨_, .move _, _, _, _, _⟩ :: _) _ _); (first | go_big_want | go_step); go_step)
    | ((with_reducible show wpList _ _ _ (⟨_, .assign _, _, _, _, _⟩ :: _) _ _); (first | go_big_want | go_step); go_step)
    | ((with_reducible show wpList _ _ _ (⟨_, .pick _ _ _, _, _, _, _⟩ :: _) _ _); first | (refine wplPickT rfl (by kernel_rfl) ?_; go_step) | (refine wplPickF rfl (by kernel_rfl) ?_; go_step))
    | ((with_reducible show wpList _ _ _ (⟨_, .fieldAddr 59 _ 0, _, _, _, _⟩ :: _) _ _); first | (refine wplV _ (V.fieldAddr fo59_0 rfl (by first | with_reducible exact Nat.zero_add _ | with_reducible exact Nat.add_zero _ | exact rfl)) (by kernel_rfl) ?_; go_step))
    | ((with_reducible show wpList _ _ _ (⟨_, .binOp .add _ _ _ _, _, _, _, _⟩ :: _) _ _); first | (refine wplV _ (V.addI rfl rfl (by omega)) (by kernel_rfl) ?_; go_step) | (refine wplV _ (V.addR (by decide) rfl rfl) (by kernel_rfl) ?_; go_step))
    | ((with_reducible show wpList _ _ _ (⟨_, .binOp .sub _ _ _ _, _, _, _, _⟩ :: _) _ _); first | (refine wplV _ (V.subI rfl rfl (by omega)) (by kernel_rfl) ?_; go_step) | (refine wplV _ (V.subR (by decide) rfl rfl) (by kernel_rfl) ?_; go_step))
    | ((with_reducible show wpList _ _ _ (⟨_, .binOp .quo _ _ _ _, _, _, _, _⟩ :: _) _ _); first | (refine wplV _ (V.quo rfl rfl (by omega) (by omega)) (by kernel_rfl) ?_; go_step) | (refine wplV _ (V.quoT rfl rfl (by omega)) (by kernel_rfl) ?_; go_step))
    | ((with_reducible show wpList _ _ _ (⟨some 1, .box 59 _, _, _, _, _⟩ :: _) _ _); first | (refine wpl (by kernel_rfl) (wp_boxG (o := ⟨some 1, _, _, _, _, _⟩) hS 59 _ rfl _ rfl ?_); clear hS; intro g1 w hS; refine put_move ?_; go_step))
    | ((with_reducible show wpList _ _ _ (⟨_, .load 3 _, _, _, _, _⟩ :: _) _ _); first | (refine wpl (by kernel_rfl) (wp_load1A hS 3 _ rfl _ _ rfl (one_of rfl) _ _ (by (repeat (first | with_reducible exact Pull.head | apply Pull.tail))) (by omega) ?_); refine put_move ?_; go_step) | (refine wpl (by kernel_rfl) (wp_load1OI hS 3 _ rfl _ _ rfl (one_of rfl) _ _ _ _ _ (by (repeat (first | with_reducible exact Pull.head | apply Pull.tail))) (by omega) ?_); refine put_move ?_; go_step) | (refine wpl (by kernel_rfl) (wp_load1 hS 3 _ rfl _ _ rfl (one_of rfl) _ (by (repeat (first | with_reducible exact Pull.head | apply Pull.tail))) _ (by rfl) ?_); refine put_move ?_; go_step) | (refine wpl (by kernel_rfl) (wp_load1O hS 3 _ rfl _ _ rfl (one_of rfl) _ _ _ _ _ (by (repeat (first | with_reducible exact Pull.head | apply Pull.tail))) _ (by with_reducible assumption) ?_); refine put_move ?_; go_step) | (refine wpl (by kernel_rfl) (wp_loadW hS 3 _ rfl _ rfl (one_of rfl) _ (by with_reducible assumption) ?_); refine put_move ?_; go_step) | (refine wpl (by kernel_rfl) (wp_load1R hS 3 _ rfl _ _ _ rfl (one_of rfl) _ _ (by with_reducible assumption) (by with_reducible assumption) (by omega) ?_); refine put_move ?_; go_step) | (refine wpl (by kernel_rfl) (wp_load1R0 hS 3 _ rfl _ _ rfl (one_of rfl) _ _ (by with_reducible assumption) (by with_reducible assumption) (by omega) ?_); refine put_move ?_; go_step))
    | ((fail_if_success (with_reducible show wpList _ _ _ (_ :: _) _ _)); go_step))
  go_ret
  exact ⟨rfl, hS.1⟩
theorem many_any (w0 : World) (m n : Int) (h : 1 ≤ m ∧ m ≤ 64) (h2 : 1 ≤ n ∧ n ≤ 64) : Calls Try.prog 43 #[.agg #[.int .i64 m, .int .i64 n]] w0 fun e w' => e = .returned (.int .i64 ((m + 7) / 8 * ((n + 7) / 8))) ∧ Ext w0 w' := by
  have hS := St.start w0
  obtain ⟨k0, k1⟩ := mulb ((m + 7) / 8) ((n + 7) / 8) 8 8 (by omega) (by omega)
  go_enter Try.func43, Try.ntmps43
  repeat' (first
    | go_skip
    | go_big_skip
    | ((with_reducible show wpList _ _ _ (⟨_, .move _, _, _, _, _⟩ :: _) _ _); (first | go_big_want | go_step); go_step)
    | ((with_reducible show wpList _ _ _ (⟨_, .assign _, _, _, _, _⟩ :: _) _ _); (first | go_big_want | go_step); go_step)
    | ((with_reducible show wpList _ _ _ (⟨_, .pick _ _ _, _, _, _, _⟩ :: _) _ _); first | (refine wplPickT rfl (by kernel_rfl) ?_; go_step) | (refine wplPickF rfl (by kernel_rfl) ?_; go_step))
    | ((with_reducible show wpList _ _ _ (⟨_, .fieldAddr 59 _ 1, _, _, _, _⟩ :: _) _ _); first | (refine wplV _ (V.fieldAddr fo59_1 rfl (by first | with_reducible exact Nat.zero_add _ | with_reducible exact Nat.add_zero _ | exact rfl)) (by kernel_rfl) ?_; go_step))
    | ((with_reducible show wpList _ _ _ (⟨_, .binOp .add _ _ _ _, _, _, _, _⟩ :: _) _ _); first | (refine wplV _ (V.addI rfl rfl (by omega)) (by kernel_rfl) ?_; go_step) | (refine wplV _ (V.addR (by decide) rfl rfl) (by kernel_rfl) ?_; go_step))
    | ((with_reducible show wpList _ _ _ (⟨_, .binOp .sub _ _ _ _, _, _, _, _⟩ :: _) _ _); first | (refine wplV _ (V.subI rfl rfl (by omega)) (by kernel_rfl) ?_; go_step) | (refine wplV _ (V.subR (by decide) rfl rfl) (by kernel_rfl) ?_; go_step))
    | ((with_reducible show wpList _ _ _ (⟨_, .binOp .quo _ _ _ _, _, _, _, _⟩ :: _) _ _); first | (refine wplV _ (V.quo rfl rfl (by omega) (by omega)) (by kernel_rfl) ?_; go_step) | (refine wplV _ (V.quoT rfl rfl (by omega)) (by kernel_rfl) ?_; go_step))
    | ((with_reducible show wpList _ _ _ (⟨_, .binOp .mul _ _ _ _, _, _, _, _⟩ :: _) _ _); first | (refine wplV _ (V.mulI rfl rfl (by omega)) (by kernel_rfl) ?_; go_step) | (refine wplV _ (V.mulR (by decide) rfl rfl) (by kernel_rfl) ?_; go_step))
    | ((with_reducible show wpList _ _ _ (⟨some 1, .box 59 _, _, _, _, _⟩ :: _) _ _); first | (refine wpl (by kernel_rfl) (wp_boxG (o := ⟨some 1, _, _, _, _, _⟩) hS 59 _ rfl _ rfl ?_); clear hS; intro g1 w hS; refine put_move ?_; go_step))
    | ((with_reducible show wpList _ _ _ (⟨_, .load 59 _, _, _, _, _⟩ :: _) _ _); first | (refine wpl (by kernel_rfl) (wp_loadRI hS 59 _ rfl _ _ rfl 2 (row_of rfl) _ (by with_reducible assumption) (by with_reducible assumption) ?_); refine put_move ?_; go_step) | (refine wpl (by kernel_rfl) (wp_loadRO hS 59 _ rfl _ _ rfl 2 (row_of rfl) _ _ _ _ _ (by (repeat (first | with_reducible exact Pull.head | apply Pull.tail))) (by omega) ?_); refine put_move ?_; go_step) | (refine wpl (by kernel_rfl) (wp_loadA hS 59 _ rfl _ rfl 2 (row_of rfl) _ (by (repeat (first | with_reducible exact Pull.head | apply Pull.tail))) ?_); refine put_move ?_; go_step) | (refine wpl (by kernel_rfl) (wp_loadG hS 59 _ rfl _ rfl 2 (row_of rfl) _ (by (repeat (first | with_reducible exact Pull.head | apply Pull.tail))) (by rfl) ?_); refine put_move ?_; go_step) | (refine wpl (by kernel_rfl) (wp_loadRW hS 59 _ rfl _ _ rfl 2 (row_of rfl) _ (by with_reducible assumption) (by rfl) ?_); refine put_move ?_; go_step))
    | ((with_reducible show wpList _ _ _ (⟨_, .load 3 _, _, _, _, _⟩ :: _) _ _); first | (refine wpl (by kernel_rfl) (wp_load1A hS 3 _ rfl _ _ rfl (one_of rfl) _ _ (by (repeat (first | with_reducible exact Pull.head | apply Pull.tail))) (by omega) ?_); refine put_move ?_; go_step) | (refine wpl (by kernel_rfl) (wp_load1OI hS 3 _ rfl _ _ rfl (one_of rfl) _ _ _ _ _ (by (repeat (first | with_reducible exact Pull.head | apply Pull.tail))) (by omega) ?_); refine put_move ?_; go_step) | (refine wpl (by kernel_rfl) (wp_load1 hS 3 _ rfl _ _ rfl (one_of rfl) _ (by (repeat (first | with_reducible exact Pull.head | apply Pull.tail))) _ (by rfl) ?_); refine put_move ?_; go_step) | (refine wpl (by kernel_rfl) (wp_load1O hS 3 _ rfl _ _ rfl (one_of rfl) _ _ _ _ _ (by (repeat (first | with_reducible exact Pull.head | apply Pull.tail))) _ (by with_reducible assumption) ?_); refine put_move ?_; go_step) | (refine wpl (by kernel_rfl) (wp_loadW hS 3 _ rfl _ rfl (one_of rfl) _ (by with_reducible assumption) ?_); refine put_move ?_; go_step) | (refine wpl (by kernel_rfl) (wp_load1R hS 3 _ rfl _ _ _ rfl (one_of rfl) _ _ (by with_reducible assumption) (by with_reducible assumption) (by omega) ?_); refine put_move ?_; go_step) | (refine wpl (by kernel_rfl) (wp_load1R0 hS 3 _ rfl _ _ rfl (one_of rfl) _ _ (by with_reducible assumption) (by with_reducible assumption) (by omega) ?_); refine put_move ?_; go_step))
    | ((fail_if_success (with_reducible show wpList _ _ _ (_ :: _) _ _)); go_step))
  refine drawn_lit [] (fun w => St w0 w [blk g1 [.int .i64 m, .int .i64 n]]) (by kernel_rfl) ?_
  replace hS := hS.drew
  apply takeS 0 (by (repeat (first | with_reducible exact AtL.head | apply AtL.tail))) (by kernel_rfl) (by kernel_rfl) (by kernel_rfl) (by exact fun _ _ _ _ h => h) [1, 7, 8] (by kernel_rfl) (hS.sub (by (repeat (first | exact Sub.nil | with_reducible exact Sub.refl | (refine Sub.cons (by (repeat (first | with_reducible exact Pull.head | apply Pull.tail))) ?_) | apply Sub.skip))))
  case hfr => intro w hS; (first | (refine wpl (by kernel_rfl) (wp_loadRI hS 59 _ rfl _ _ rfl 2 (row_of rfl) _ (by with_reducible assumption) (by with_reducible assumption) ?_); refine put_move ?_; go_step) | (refine wpl (by kernel_rfl) (wp_loadRO hS 59 _ rfl _ _ rfl 2 (row_of rfl) _ _ _ _ _ (by (repeat (first | with_reducible exact Pull.head | apply Pull.tail))) (by omega) ?_); refine put_move ?_; go_step) | (refine wpl (by kernel_rfl) (wp_loadA hS 59 _ rfl _ rfl 2 (row_of rfl) _ (by (repeat (first | with_reducible exact Pull.head | apply Pull.tail))) ?_); refine put_move ?_; go_step) | (refine wpl (by kernel_rfl) (wp_loadG hS 59 _ rfl _ rfl 2 (row_of rfl) _ (by (repeat (first | with_reducible exact Pull.head | apply Pull.tail))) (by rfl) ?_); refine put_move ?_; go_step) | (refine wpl (by kernel_rfl) (wp_loadRW hS 59 _ rfl _ _ rfl 2 (row_of rfl) _ (by with_reducible assumption) (by rfl) ?_); refine put_move ?_; go_step)); refine wpList_nil ?_; exact ⟨rfl, rfl⟩
  case hd => rfl
  first | (refine takeV 2 _ (by (repeat (first | with_reducible exact AtL.head | apply AtL.tail))) (by kernel_rfl) (by kernel_rfl) (by kernel_rfl) (by exact fun _ _ _ _ h => h) (V.fieldAddr fo59_1 rfl (by first | with_reducible exact Nat.zero_add _ | with_reducible exact Nat.add_zero _ | exact rfl)) rfl ?_)
  go_step
  apply takeS 3 (by (repeat (first | with_reducible exact AtL.head | apply AtL.tail))) (by kernel_rfl) (by kernel_rfl) (by kernel_rfl) (by exact fun _ _ _ _ h => h) [4, 5, 6, 7, 8] (by kernel_rfl) (hS.sub (by (repeat (first | exact Sub.nil | with_reducible exact Sub.refl | (refine Sub.cons (by (repeat (first | with_reducible exact Pull.head | apply Pull.tail))) ?_) | apply Sub.skip))))
  case hfr => intro w hS; (first | (refine wpl (by kernel_rfl) (wp_load1A hS 3 _ rfl _ _ rfl (one_of rfl) _ _ (by (repeat (first | with_reducible exact Pull.head | apply Pull.tail))) (by omega) ?_); refine put_move ?_; go_step) | (refine wpl (by kernel_rfl) (wp_load1OI hS 3 _ rfl _ _ rfl (one_of rfl) _ _ _ _ _ (by (repeat (first | with_reducible exact Pull.head | apply Pull.tail))) (by omega) ?_); refine put_move ?_; go_step) | (refine wpl (by kernel_rfl) (wp_load1 hS 3 _ rfl _ _ rfl (one_of rfl) _ (by (repeat (first | with_reducible exact Pull.head | apply Pull.tail))) _ (by rfl) ?_); refine put_move ?_; go_step) | (refine wpl (by kernel_rfl) (wp_load1O hS 3 _ rfl _ _ rfl (one_of rfl) _ _ _ _ _ (by (repeat (first | with_reducible exact Pull.head | apply Pull.tail))) _ (by with_reducible assumption) ?_); refine put_move ?_; go_step) | (refine wpl (by kernel_rfl) (wp_loadW hS 3 _ rfl _ rfl (one_of rfl) _ (by with_reducible assumption) ?_); refine put_move ?_; go_step) | (refine wpl (by kernel_rfl) (wp_load1R hS 3 _ rfl _ _ _ rfl (one_of rfl) _ _ (by with_reducible assumption) (by with_reducible assumption) (by omega) ?_); refine put_move ?_; go_step) | (refine wpl (by kernel_rfl) (wp_load1R0 hS 3 _ rfl _ _ rfl (one_of rfl) _ _ (by with_reducible assumption) (by with_reducible assumption) (by omega) ?_); refine put_move ?_; go_step)); refine wpList_nil ?_; exact ⟨rfl, rfl⟩
  case hd => rfl
  first | (refine takeV 4 _ (by (repeat (first | with_reducible exact AtL.head | apply AtL.tail))) (by kernel_rfl) (by kernel_rfl) (by kernel_rfl) (by exact fun _ _ _ _ h => h) (V.addI rfl rfl (by omega)) rfl ?_) | (refine takeV 4 _ (by (repeat (first | with_reducible exact AtL.head | apply AtL.tail))) (by kernel_rfl) (by kernel_rfl) (by kernel_rfl) (by exact fun _ _ _ _ h => h) (V.addR (by decide) rfl rfl) rfl ?_)
  go_step
  first | (refine takeV 5 (.int _ (n + 7)) (by (repeat (first | with_reducible exact AtL.head | apply AtL.tail))) (by kernel_rfl) (by kernel_rfl) (by kernel_rfl) (by exact fun _ _ _ _ h => h) (V.as (V.subI rfl rfl (by omega)) (by omega)) rfl ?_) | (refine takeV 5 (.int _ (n + 7)) (by (repeat (first | with_reducible exact AtL.head | apply AtL.tail))) (by kernel_rfl) (by kernel_rfl) (by kernel_rfl) (by exact fun _ _ _ _ h => h) (V.as (V.subR (by decide) rfl rfl) (by omega)) rfl ?_)
  go_step
  first | (refine takeV 6 _ (by (repeat (first | with_reducible exact AtL.head | apply AtL.tail))) (by kernel_rfl) (by kernel_rfl) (by kernel_rfl) (by exact fun _ _ _ _ h => h) (V.quo rfl rfl (by omega) (by omega)) rfl ?_) | (refine takeV 6 _ (by (repeat (first | with_reducible exact AtL.head | apply AtL.tail))) (by kernel_rfl) (by kernel_rfl) (by kernel_rfl) (by exact fun _ _ _ _ h => h) (V.quoT rfl rfl (by omega)) rfl ?_)
  go_step
  refine branch1 1 (by (repeat (first | with_reducible exact AtL.head | apply AtL.tail))) rfl (by kernel_rfl) ?_
  refine wp_callF (f := 50) rfl Try.call50 (across_any _ m n h) ?_; rintro e w ⟨rfl, hE⟩; replace hS := hS.ext hE; clear hE; refine ⟨_, rfl, ?_⟩
  refine ⟨fun _ _ => hS.sub (by (repeat (first | exact Sub.nil | with_reducible exact Sub.refl | (refine Sub.cons (by (repeat (first | with_reducible exact Pull.head | apply Pull.tail))) ?_) | apply Sub.skip))), ?_⟩
  refine drawn_move ?_
  go_step
  first | (refine takeV 7 _ (by (repeat (first | with_reducible exact AtL.head | apply AtL.tail))) (by kernel_rfl) (by kernel_rfl) (by kernel_rfl) (by exact fun _ _ _ _ h => h) (V.mulI rfl rfl (by omega)) rfl ?_) | (refine takeV 7 _ (by (repeat (first | with_reducible exact AtL.head | apply AtL.tail))) (by kernel_rfl) (by kernel_rfl) (by kernel_rfl) (by exact fun _ _ _ _ h => h) (V.mulR (by decide) rfl rfl) rfl ?_)
  go_step
  refine takeA 8 _ (by (repeat (first | with_reducible exact AtL.head | apply AtL.tail))) (by kernel_rfl) (by kernel_rfl) (by kernel_rfl) (by exact fun _ _ _ _ h => h) rfl ?_
  go_step
  refine drawn_done (by kernel_rfl) ?_ _
  all_goals
    repeat' (first
      | go_skip
      | go_big_skip
      | ((with_reducible show wpList _ _ _ (⟨_, .move _, _, _, _, _⟩ :: _) _ _); (first | go_big_want | go_step); go_step)
      | ((with_reducible show wpList _ _ _ (⟨_, .assign _, _, _, _, _⟩ :: _) _ _); (first | go_big_want | go_step); go_step)
      | ((with_reducible show wpList _ _ _ (⟨_, .pick _ _ _, _, _, _, _⟩ :: _) _ _); first | (refine wplPickT rfl (by kernel_rfl) ?_; go_step) | (refine wplPickF rfl (by kernel_rfl) ?_; go_step))
      | ((with_reducible show wpList _ _ _ (⟨_, .fieldAddr 59 _ 1, _, _, _, _⟩ :: _) _ _); first | (refine wplV _ (V.fieldAddr fo59_1 rfl (by first | with_reducible exact Nat.zero_add _ | with_reducible exact Nat.add_zero _ | exact rfl)) (by kernel_rfl) ?_; go_step))
      | ((with_reducible show wpList _ _ _ (⟨_, .binOp .add _ _ _ _, _, _, _, _⟩ :: _) _ _); first | (refine wplV _ (V.addI rfl rfl (by omega)) (by kernel_rfl) ?_; go_step) | (refine wplV _ (V.addR (by decide) rfl rfl) (by kernel_rfl) ?_; go_step))
      | ((with_reducible show wpList _ _ _ (⟨_, .binOp .sub _ _ _ _, _, _, _, _⟩ :: _) _ _); first | (refine wplV _ (V.subI rfl rfl (by omega)) (by kernel_rfl) ?_; go_step) | (refine wplV _ (V.subR (by decide) rfl rfl) (by kernel_rfl) ?_; go_step))
      | ((with_reducible show wpList _ _ _ (⟨_, .binOp .quo _ _ _ _, _, _, _, _⟩ :: _) _ _); first | (refine wplV _ (V.quo rfl rfl (by omega) (by omega)) (by kernel_rfl) ?_; go_step) | (refine wplV _ (V.quoT rfl rfl (by omega)) (by kernel_rfl) ?_; go_step))
      | ((with_reducible show wpList _ _ _ (⟨_, .binOp .mul _ _ _ _, _, _, _, _⟩ :: _) _ _); first | (refine wplV _ (V.mulI rfl rfl (by omega)) (by kernel_rfl) ?_; go_step) | (refine wplV _ (V.mulR (by decide) rfl rfl) (by kernel_rfl) ?_; go_step))
      | ((with_reducible show wpList _ _ _ (⟨some 1, .box 59 _, _, _, _, _⟩ :: _) _ _); first | (refine wpl (by kernel_rfl) (wp_boxG (o := ⟨some 1, _, _, _, _, _⟩) hS 59 _ rfl _ rfl ?_); clear hS; intro g1 w hS; refine put_move ?_; go_step))
      | ((with_reducible show wpList _ _ _ (⟨_, .load 59 _, _, _, _, _⟩ :: _) _ _); first | (refine wpl (by kernel_rfl) (wp_loadRI hS 59 _ rfl _ _ rfl 2 (row_of rfl) _ (by with_reducible assumption) (by with_reducible assumption) ?_); refine put_move ?_; go_step) | (refine wpl (by kernel_rfl) (wp_loadRO hS 59 _ rfl _ _ rfl 2 (row_of rfl) _ _ _ _ _ (by (repeat (first | with_reducible exact Pull.head | apply Pull.tail))) (by omega) ?_); refine put_move ?_; go_step) | (refine wpl (by kernel_rfl) (wp_loadA hS 59 _ rfl _ rfl 2 (row_of rfl) _ (by (repeat (first | with_reducible exact Pull.head | apply Pull.tail))) ?_); refine put_move ?_; go_step) | (refine wpl (by kernel_rfl) (wp_loadG hS 59 _ rfl _ rfl 2 (row_of rfl) _ (by (repeat (first | with_reducible exact Pull.head | apply Pull.tail))) (by rfl) ?_); refine put_move ?_; go_step) | (refine wpl (by kernel_rfl) (wp_loadRW hS 59 _ rfl _ _ rfl 2 (row_of rfl) _ (by with_reducible assumption) (by rfl) ?_); refine put_move ?_; go_step))
      | ((with_reducible show wpList _ _ _ (⟨_, .load 3 _, _, _, _, _⟩ :: _) _ _); first | (refine wpl (by kernel_rfl) (wp_load1A hS 3 _ rfl _ _ rfl (one_of rfl) _ _ (by (repeat (first | with_reducible exact Pull.head | apply Pull.tail))) (by omega) ?_); refine put_move ?_; go_step) | (refine wpl (by kernel_rfl) (wp_load1OI hS 3 _ rfl _ _ rfl (one_of rfl) _ _ _ _ _ (by (repeat (first | with_reducible exact Pull.head | apply Pull.tail))) (by omega) ?_); refine put_move ?_; go_step) | (refine wpl (by kernel_rfl) (wp_load1 hS 3 _ rfl _ _ rfl (one_of rfl) _ (by (repeat (first | with_reducible exact Pull.head | apply Pull.tail))) _ (by rfl) ?_); refine put_move ?_; go_step) | (refine wpl (by kernel_rfl) (wp_load1O hS 3 _ rfl _ _ rfl (one_of rfl) _ _ _ _ _ (by (repeat (first | with_reducible exact Pull.head | apply Pull.tail))) _ (by with_reducible assumption) ?_); refine put_move ?_; go_step) | (refine wpl (by kernel_rfl) (wp_loadW hS 3 _ rfl _ rfl (one_of rfl) _ (by with_reducible assumption) ?_); refine put_move ?_; go_step) | (refine wpl (by kernel_rfl) (wp_load1R hS 3 _ rfl _ _ _ rfl (one_of rfl) _ _ (by with_reducible assumption) (by with_reducible assumption) (by omega) ?_); refine put_move ?_; go_step) | (refine wpl (by kernel_rfl) (wp_load1R0 hS 3 _ rfl _ _ rfl (one_of rfl) _ _ (by with_reducible assumption) (by with_reducible assumption) (by omega) ?_); refine put_move ?_; go_step))
      | ((fail_if_success (with_reducible show wpList _ _ _ (_ :: _) _ _)); go_step))
  all_goals (go_ret; exact ⟨rfl, hS.1⟩)
theorem Many_any (w0 : World) (m n : Int) : Calls Try.prog 30 #[.int .i64 m, .int .i64 n] w0 fun e w' => e = .returned (.tuple #[.int .i64 (if 1 ≤ m ∧ m ≤ 64 ∧ 1 ≤ n ∧ n ≤ 64 then (m + 7) / 8 * ((n + 7) / 8) else 0), .int .i64 (if 1 ≤ m ∧ m ≤ 64 ∧ 1 ≤ n ∧ n ≤ 64 then 0 else 1)]) ∧ Ext w0 w' := by
  have hS := St.start w0
  by_cases hok : 1 ≤ m ∧ m ≤ 64 ∧ 1 ≤ n ∧ n ≤ 64
  all_goals
    (first | simp only [if_pos hok] | simp only [if_neg hok])
    go_enter Try.func30, Try.ntmps30
    repeat' (first
      | ((with_reducible show wpList _ _ _ (⟨_, .call ⟨.value (.func 40), _, _⟩, _, _, _, _⟩ :: _) _ _); refine wpl_call (f := 40) Try.call40 rfl ?_; refine ⟨_, (check_any _ m n), ?_⟩; rintro e w ⟨rfl, hE⟩; replace hS := hS.ext hE; clear hE; (first | rw [if_pos hok] | rw [if_neg hok]); refine ⟨_, rfl, ?_⟩; refine put_move ?_; go_step)
      | ((with_reducible show wpList _ _ _ (⟨_, .call ⟨.value (.func 43), _, _⟩, _, _, _, _⟩ :: _) _ _); refine wpl_call (f := 43) Try.call43 rfl ?_; refine ⟨_, (many_any _ m n (by omega) (by omega)), ?_⟩; rintro e w ⟨rfl, hE⟩; replace hS := hS.ext hE; clear hE; refine ⟨_, rfl, ?_⟩; refine put_move ?_; go_step)
      | go_skip
      | go_big_skip
      | ((with_reducible show wpList _ _ _ (⟨_, .move _, _, _, _, _⟩ :: _) _ _); (first | go_big_want | go_step); go_step)
      | ((with_reducible show wpList _ _ _ (⟨_, .assign _, _, _, _, _⟩ :: _) _ _); (first | go_big_want | go_step); go_step)
      | ((with_reducible show wpList _ _ _ (⟨_, .pick _ _ _, _, _, _, _⟩ :: _) _ _); first | (refine wplPickT rfl (by kernel_rfl) ?_; go_step) | (refine wplPickF rfl (by kernel_rfl) ?_; go_step))
      | ((with_reducible show wpList _ _ _ (⟨some 10, .build 59 _, _, _, _, _⟩ :: _) _ _); first | (refine wplV _ (V.build (vs := [(0, _), (1, _)]) rfl (bl59_0_1 _ _)) (by kernel_rfl) ?_; go_step))
      | ((with_reducible show wpList _ _ _ (⟨_, .binOp .neq 27 _ _ _, _, _, _, _⟩ :: _) _ _); first | (refine wplV _ (V.neq rfl rfl) (by kernel_rfl) ?_; go_step))
      | ((with_reducible show wpList _ _ _ (⟨some 6, .alloc 59, _, _, _, _⟩ :: _) _ _); first | (refine wpl (by kernel_rfl) (wp_alloc (o := ⟨some 6, _, _, _, _, _⟩) hS 59 rfl (.agg #[.int .i64 0, .int .i64 0]) [.int .i64 0, .int .i64 0] (fun w => Try.zeroValue59 w) rfl ?_); clear hS; intro g6 w hS; refine put_move ?_; go_step))
      | ((with_reducible show wpList _ _ _ (⟨_, .store 59 _ _, _, _, _, _⟩ :: _) _ _); first | (refine wpl (by kernel_rfl) (wp_storeA hS 59 _ _ rfl _ rfl 2 (row_of rfl) _ _ (by (repeat (first | with_reducible exact Pull.head | apply Pull.tail))) (by rfl) (by assumption) rfl ?_); clear hS; intro w hS) | (refine wpl (by kernel_rfl) (wp_storeG hS 59 _ _ rfl _ rfl 2 (row_of rfl) _ _ (by (repeat (first | with_reducible exact Pull.head | apply Pull.tail))) (by rfl) (by rfl) (by rfl) (by rfl) rfl ?_); clear hS; intro w hS))
      | ((with_reducible show wpList _ _ _ (⟨_, .load 59 _, _, _, _, _⟩ :: _) _ _); first | (refine wpl (by kernel_rfl) (wp_loadRI hS 59 _ rfl _ _ rfl 2 (row_of rfl) _ (by with_reducible assumption) (by with_reducible assumption) ?_); refine put_move ?_; go_step) | (refine wpl (by kernel_rfl) (wp_loadRO hS 59 _ rfl _ _ rfl 2 (row_of rfl) _ _ _ _ _ (by (repeat (first | with_reducible exact Pull.head | apply Pull.tail))) (by omega) ?_); refine put_move ?_; go_step) | (refine wpl (by kernel_rfl) (wp_loadA hS 59 _ rfl _ rfl 2 (row_of rfl) _ (by (repeat (first | with_reducible exact Pull.head | apply Pull.tail))) ?_); refine put_move ?_; go_step) | (refine wpl (by kernel_rfl) (wp_loadG hS 59 _ rfl _ rfl 2 (row_of rfl) _ (by (repeat (first | with_reducible exact Pull.head | apply Pull.tail))) (by rfl) ?_); refine put_move ?_; go_step) | (refine wpl (by kernel_rfl) (wp_loadRW hS 59 _ rfl _ _ rfl 2 (row_of rfl) _ (by with_reducible assumption) (by rfl) ?_); refine put_move ?_; go_step))
      | ((fail_if_success (with_reducible show wpList _ _ _ (_ :: _) _ _)); go_step))
    go_ret2
    exact ⟨rfl, hS.1⟩
theorem sides_any (w0 : World) (m n : Int) : Calls Try.prog 27 #[.int .i64 m, .int .i64 n] w0 fun e w' => e = .returned (.tuple #[.int .i64 (m % 64 + 1), .int .i64 (n % 64 + 1)]) ∧ w0 = w' := by
  have h1 := Int.emod_nonneg m (b := 64) (by omega)
  have h2 := Int.emod_lt_of_pos m (b := 64) (by omega)
  have h3 := Int.emod_nonneg n (b := 64) (by omega)
  have h4 := Int.emod_lt_of_pos n (b := 64) (by omega)
  go_enter Try.func27, Try.ntmps27
  repeat' (first
    | ((with_reducible show wpList _ _ _ (⟨_, .call ⟨.value (.func 16), _, _⟩, _, _, _, _⟩ :: _) _ _); refine wpl_call (f := 16) Try.call16 rfl ?_; refine ⟨_, (rest_any _ 64 _ (by omega) (by omega)), ?_⟩; rintro e w' ⟨rfl, rfl⟩; refine ⟨_, rfl, ?_⟩; refine put_move ?_; go_step)
    | go_skip
    | go_big_skip
    | ((with_reducible show wpList _ _ _ (⟨_, .move _, _, _, _, _⟩ :: _) _ _); (first | go_big_want | go_step); go_step)
    | ((with_reducible show wpList _ _ _ (⟨_, .assign _, _, _, _, _⟩ :: _) _ _); (first | go_big_want | go_step); go_step)
    | ((with_reducible show wpList _ _ _ (⟨_, .pick _ _ _, _, _, _, _⟩ :: _) _ _); first | (refine wplPickT rfl (by kernel_rfl) ?_; go_step) | (refine wplPickF rfl (by kernel_rfl) ?_; go_step))
    | ((with_reducible show wpList _ _ _ (⟨_, .binOp .add _ _ _ _, _, _, _, _⟩ :: _) _ _); first | (refine wplV _ (V.addI rfl rfl (by omega)) (by kernel_rfl) ?_; go_step) | (refine wplV _ (V.addR (by decide) rfl rfl) (by kernel_rfl) ?_; go_step))
    | ((fail_if_success (with_reducible show wpList _ _ _ (_ :: _) _ _)); go_step))
  go_ret2
  exact ⟨rfl, rfl⟩
/-- Where a number of a block lies. -/
def prow (ac k i : Int) : Int := k / ac * 8 + i / 8
def pcol (ac k i : Int) : Int := k % ac * 8 + i % 8
theorem place_any (w0 : World) (m n k i : Int) (h : 1 ≤ m ∧ m ≤ 64) (hk : 0 ≤ k ∧ k ≤ 100000) (hi : 0 ≤ i ∧ i < 64) :
    Calls Try.prog 44 #[.agg #[.int .i64 m, .int .i64 n], .int .i64 k, .int .i64 i] w0 fun e w' => e = .returned (.tuple #[.int .i64 (prow ((m + 7) / 8) k i), .int .i64 (pcol ((m + 7) / 8) k i)]) ∧ Ext w0 w' := by
  have hS := St.start w0
  have ha : 1 ≤ (m + 7) / 8 := by omega
  have ha8 : (m + 7) / 8 ≤ 8 := by omega
  have HA := hid (fun (w : World) => across_any w m n h)
  generalize hac : (m + 7) / 8 = ac at *
  clear hac
  have q1 : 0 ≤ k / ac := Int.ediv_nonneg hk.1 (by omega)
  have q2 : k / ac ≤ k := Int.ediv_le_self ac hk.1
  have q3 := Int.emod_nonneg k (b := ac) (by omega)
  have q4 := Int.emod_lt_of_pos k (b := ac) (by omega)
  go_enter Try.func44, Try.ntmps44
  repeat' (first
    | go_skip
    | go_big_skip
    | ((with_reducible show wpList _ _ _ (⟨_, .move _, _, _, _, _⟩ :: _) _ _); (first | go_big_want | go_step); go_step)
    | ((with_reducible show wpList _ _ _ (⟨_, .assign _, _, _, _, _⟩ :: _) _ _); (first | go_big_want | go_step); go_step)
    | ((with_reducible show wpList _ _ _ (⟨_, .pick _ _ _, _, _, _, _⟩ :: _) _ _); first | (refine wplPickT rfl (by kernel_rfl) ?_; go_step) | (refine wplPickF rfl (by kernel_rfl) ?_; go_step))
    | ((with_reducible show wpList _ _ _ (⟨_, .binOp .quo _ _ _ _, _, _, _, _⟩ :: _) _ _); first | (refine wplV _ (V.quo rfl rfl (by omega) (by omega)) (by kernel_rfl) ?_; go_step) | (refine wplV _ (V.quoT rfl rfl (by omega)) (by kernel_rfl) ?_; go_step))
    | ((with_reducible show wpList _ _ _ (⟨_, .binOp .mul _ _ _ _, _, _, _, _⟩ :: _) _ _); first | (refine wplV _ (V.mulI rfl rfl (by omega)) (by kernel_rfl) ?_; go_step) | (refine wplV _ (V.mulR (by decide) rfl rfl) (by kernel_rfl) ?_; go_step))
    | ((with_reducible show wpList _ _ _ (⟨_, .binOp .add _ _ _ _, _, _, _, _⟩ :: _) _ _); first | (refine wplV _ (V.addI rfl rfl (by omega)) (by kernel_rfl) ?_; go_step) | (refine wplV _ (V.addR (by decide) rfl rfl) (by kernel_rfl) ?_; go_step))
    | ((with_reducible show wpList _ _ _ (⟨_, .binOp .rem _ _ _ _, _, _, _, _⟩ :: _) _ _); first | (refine wplV _ (V.rem rfl rfl (by omega) (by omega)) (by kernel_rfl) ?_; go_step) | (refine wplV _ (V.remT rfl rfl (by omega)) (by kernel_rfl) ?_; go_step))
    | ((with_reducible show wpList _ _ _ (⟨some 3, .box 59 _, _, _, _, _⟩ :: _) _ _); first | (refine wpl (by kernel_rfl) (wp_boxG (o := ⟨some 3, _, _, _, _, _⟩) hS 59 _ rfl _ rfl ?_); clear hS; intro g3 w hS; refine put_move ?_; go_step))
    | ((with_reducible show wpList _ _ _ (⟨_, .load 59 _, _, _, _, _⟩ :: _) _ _); first | (refine wpl (by kernel_rfl) (wp_loadRI hS 59 _ rfl _ _ rfl 2 (row_of rfl) _ (by with_reducible assumption) (by with_reducible assumption) ?_); refine put_move ?_; go_step) | (refine wpl (by kernel_rfl) (wp_loadRO hS 59 _ rfl _ _ rfl 2 (row_of rfl) _ _ _ _ _ (by (repeat (first | with_reducible exact Pull.head | apply Pull.tail))) (by omega) ?_); refine put_move ?_; go_step) | (refine wpl (by kernel_rfl) (wp_loadA hS 59 _ rfl _ rfl 2 (row_of rfl) _ (by (repeat (first | with_reducible exact Pull.head | apply Pull.tail))) ?_); refine put_move ?_; go_step) | (refine wpl (by kernel_rfl) (wp_loadG hS 59 _ rfl _ rfl 2 (row_of rfl) _ (by (repeat (first | with_reducible exact Pull.head | apply Pull.tail))) (by rfl) ?_); refine put_move ?_; go_step) | (refine wpl (by kernel_rfl) (wp_loadRW hS 59 _ rfl _ _ rfl 2 (row_of rfl) _ (by with_reducible assumption) (by rfl) ?_); refine put_move ?_; go_step))
    | ((fail_if_success (with_reducible show wpList _ _ _ (_ :: _) _ _)); go_step))
  refine drawn_lit [10] (fun w => St w0 w [blk g3 [.int .i64 m, .int .i64 n]]) (by kernel_rfl) ?_
  replace hS := hS.drew
  refine takeM 0 _ (by (repeat (first | with_reducible exact AtL.head | apply AtL.tail))) (by kernel_rfl) (by kernel_rfl) (by kernel_rfl) (by exact fun _ _ _ _ h => h) rfl ?_
  go_step
  apply takeS 1 (by (repeat (first | with_reducible exact AtL.head | apply AtL.tail))) (by kernel_rfl) (by kernel_rfl) (by kernel_rfl) (by exact fun _ _ _ _ h => h) [2, 3, 4, 7, 10, 11, 12, 15, 16, 17] (by kernel_rfl) (hS.sub (by (repeat (first | exact Sub.nil | with_reducible exact Sub.refl | (refine Sub.cons (by (repeat (first | with_reducible exact Pull.head | apply Pull.tail))) ?_) | apply Sub.skip))))
  case hfr => intro w hS; (first | (refine wpl (by kernel_rfl) (wp_loadRI hS 59 _ rfl _ _ rfl 2 (row_of rfl) _ (by with_reducible assumption) (by with_reducible assumption) ?_); refine put_move ?_; go_step) | (refine wpl (by kernel_rfl) (wp_loadRO hS 59 _ rfl _ _ rfl 2 (row_of rfl) _ _ _ _ _ (by (repeat (first | with_reducible exact Pull.head | apply Pull.tail))) (by omega) ?_); refine put_move ?_; go_step) | (refine wpl (by kernel_rfl) (wp_loadA hS 59 _ rfl _ rfl 2 (row_of rfl) _ (by (repeat (first | with_reducible exact Pull.head | apply Pull.tail))) ?_); refine put_move ?_; go_step) | (refine wpl (by kernel_rfl) (wp_loadG hS 59 _ rfl _ rfl 2 (row_of rfl) _ (by (repeat (first | with_reducible exact Pull.head | apply Pull.tail))) (by rfl) ?_); refine put_move ?_; go_step) | (refine wpl (by kernel_rfl) (wp_loadRW hS 59 _ rfl _ _ rfl 2 (row_of rfl) _ (by with_reducible assumption) (by rfl) ?_); refine put_move ?_; go_step)); refine wpList_nil ?_; exact ⟨rfl, rfl⟩
  case hd => rfl
  refine takeM 5 _ (by (repeat (first | with_reducible exact AtL.head | apply AtL.tail))) (by kernel_rfl) (by kernel_rfl) (by kernel_rfl) (by exact fun _ _ _ _ h => h) rfl ?_
  go_step
  first | (refine takeV 6 _ (by (repeat (first | with_reducible exact AtL.head | apply AtL.tail))) (by kernel_rfl) (by kernel_rfl) (by kernel_rfl) (by exact fun _ _ _ _ h => h) (V.quo rfl rfl (by omega) (by omega)) rfl ?_) | (refine takeV 6 _ (by (repeat (first | with_reducible exact AtL.head | apply AtL.tail))) (by kernel_rfl) (by kernel_rfl) (by kernel_rfl) (by exact fun _ _ _ _ h => h) (V.quoT rfl rfl (by omega)) rfl ?_)
  go_step
  refine takeM 8 _ (by (repeat (first | with_reducible exact AtL.head | apply AtL.tail))) (by kernel_rfl) (by kernel_rfl) (by kernel_rfl) (by exact fun _ _ _ _ h => h) rfl ?_
  go_step
  apply takeS 9 (by (repeat (first | with_reducible exact AtL.head | apply AtL.tail))) (by kernel_rfl) (by kernel_rfl) (by kernel_rfl) (by exact fun _ _ _ _ h => h) [10, 11, 12, 15, 16, 17] (by kernel_rfl) (hS.sub (by (repeat (first | exact Sub.nil | with_reducible exact Sub.refl | (refine Sub.cons (by (repeat (first | with_reducible exact Pull.head | apply Pull.tail))) ?_) | apply Sub.skip))))
  case hfr => intro w hS; (first | (refine wpl (by kernel_rfl) (wp_loadRI hS 59 _ rfl _ _ rfl 2 (row_of rfl) _ (by with_reducible assumption) (by with_reducible assumption) ?_); refine put_move ?_; go_step) | (refine wpl (by kernel_rfl) (wp_loadRO hS 59 _ rfl _ _ rfl 2 (row_of rfl) _ _ _ _ _ (by (repeat (first | with_reducible exact Pull.head | apply Pull.tail))) (by omega) ?_); refine put_move ?_; go_step) | (refine wpl (by kernel_rfl) (wp_loadA hS 59 _ rfl _ rfl 2 (row_of rfl) _ (by (repeat (first | with_reducible exact Pull.head | apply Pull.tail))) ?_); refine put_move ?_; go_step) | (refine wpl (by kernel_rfl) (wp_loadG hS 59 _ rfl _ rfl 2 (row_of rfl) _ (by (repeat (first | with_reducible exact Pull.head | apply Pull.tail))) (by rfl) ?_); refine put_move ?_; go_step) | (refine wpl (by kernel_rfl) (wp_loadRW hS 59 _ rfl _ _ rfl 2 (row_of rfl) _ (by with_reducible assumption) (by rfl) ?_); refine put_move ?_; go_step)); refine wpList_nil ?_; exact ⟨rfl, rfl⟩
  case hd => rfl
  refine takeM 13 _ (by (repeat (first | with_reducible exact AtL.head | apply AtL.tail))) (by kernel_rfl) (by kernel_rfl) (by kernel_rfl) (by exact fun _ _ _ _ h => h) rfl ?_
  go_step
  first | (refine takeV 14 _ (by (repeat (first | with_reducible exact AtL.head | apply AtL.tail))) (by kernel_rfl) (by kernel_rfl) (by kernel_rfl) (by exact fun _ _ _ _ h => h) (V.rem rfl rfl (by omega) (by omega)) rfl ?_) | (refine takeV 14 _ (by (repeat (first | with_reducible exact AtL.head | apply AtL.tail))) (by kernel_rfl) (by kernel_rfl) (by kernel_rfl) (by exact fun _ _ _ _ h => h) (V.remT rfl rfl (by omega)) rfl ?_)
  go_step
  refine branch1 2 (by (repeat (first | with_reducible exact AtL.head | apply AtL.tail))) rfl (by kernel_rfl) ?_
  refine wp_callF (f := 50) rfl Try.call50 (HA.out _) ?_; rintro e w ⟨rfl, hE⟩; replace hS := hS.ext hE; clear hE; refine ⟨_, rfl, ?_⟩
  refine ⟨fun _ _ => hS.sub (by (repeat (first | exact Sub.nil | with_reducible exact Sub.refl | (refine Sub.cons (by (repeat (first | with_reducible exact Pull.head | apply Pull.tail))) ?_) | apply Sub.skip))), ?_⟩
  refine drawn_move ?_
  go_step
  first | (refine takeV 3 _ (by (repeat (first | with_reducible exact AtL.head | apply AtL.tail))) (by kernel_rfl) (by kernel_rfl) (by kernel_rfl) (by exact fun _ _ _ _ h => h) (V.quo rfl rfl (by omega) (by omega)) rfl ?_) | (refine takeV 3 _ (by (repeat (first | with_reducible exact AtL.head | apply AtL.tail))) (by kernel_rfl) (by kernel_rfl) (by kernel_rfl) (by exact fun _ _ _ _ h => h) (V.quoT rfl rfl (by omega)) rfl ?_)
  go_step
  first | (refine takeV 4 _ (by (repeat (first | with_reducible exact AtL.head | apply AtL.tail))) (by kernel_rfl) (by kernel_rfl) (by kernel_rfl) (by exact fun _ _ _ _ h => h) (V.mulI rfl rfl (by omega)) rfl ?_) | (refine takeV 4 _ (by (repeat (first | with_reducible exact AtL.head | apply AtL.tail))) (by kernel_rfl) (by kernel_rfl) (by kernel_rfl) (by exact fun _ _ _ _ h => h) (V.mulR (by decide) rfl rfl) rfl ?_)
  go_step
  first | (refine takeV 7 _ (by (repeat (first | with_reducible exact AtL.head | apply AtL.tail))) (by kernel_rfl) (by kernel_rfl) (by kernel_rfl) (by exact fun _ _ _ _ h => h) (V.addI rfl rfl (by omega)) rfl ?_) | (refine takeV 7 _ (by (repeat (first | with_reducible exact AtL.head | apply AtL.tail))) (by kernel_rfl) (by kernel_rfl) (by kernel_rfl) (by exact fun _ _ _ _ h => h) (V.addR (by decide) rfl rfl) rfl ?_)
  go_step
  refine branch1 10 (by (repeat (first | with_reducible exact AtL.head | apply AtL.tail))) rfl (by kernel_rfl) ?_
  refine wp_callF (f := 50) rfl Try.call50 (HA.out _) ?_; rintro e w ⟨rfl, hE⟩; replace hS := hS.ext hE; clear hE; refine ⟨_, rfl, ?_⟩
  refine ⟨fun h => absurd (by decide) h, ?_⟩
  refine drawn_move ?_
  go_step
  first | (refine takeV 11 _ (by (repeat (first | with_reducible exact AtL.head | apply AtL.tail))) (by kernel_rfl) (by kernel_rfl) (by kernel_rfl) (by exact fun _ _ _ _ h => h) (V.rem rfl rfl (by omega) (by omega)) rfl ?_) | (refine takeV 11 _ (by (repeat (first | with_reducible exact AtL.head | apply AtL.tail))) (by kernel_rfl) (by kernel_rfl) (by kernel_rfl) (by exact fun _ _ _ _ h => h) (V.remT rfl rfl (by omega)) rfl ?_)
  go_step
  first | (refine takeV 12 _ (by (repeat (first | with_reducible exact AtL.head | apply AtL.tail))) (by kernel_rfl) (by kernel_rfl) (by kernel_rfl) (by exact fun _ _ _ _ h => h) (V.mulI rfl rfl (by omega)) rfl ?_) | (refine takeV 12 _ (by (repeat (first | with_reducible exact AtL.head | apply AtL.tail))) (by kernel_rfl) (by kernel_rfl) (by kernel_rfl) (by exact fun _ _ _ _ h => h) (V.mulR (by decide) rfl rfl) rfl ?_)
  go_step
  first | (refine takeV 15 _ (by (repeat (first | with_reducible exact AtL.head | apply AtL.tail))) (by kernel_rfl) (by kernel_rfl) (by kernel_rfl) (by exact fun _ _ _ _ h => h) (V.addI rfl rfl (by omega)) rfl ?_) | (refine takeV 15 _ (by (repeat (first | with_reducible exact AtL.head | apply AtL.tail))) (by kernel_rfl) (by kernel_rfl) (by kernel_rfl) (by exact fun _ _ _ _ h => h) (V.addR (by decide) rfl rfl) rfl ?_)
  go_step
  refine takeA 16 _ (by (repeat (first | with_reducible exact AtL.head | apply AtL.tail))) (by kernel_rfl) (by kernel_rfl) (by kernel_rfl) (by exact fun _ _ _ _ h => h) rfl ?_
  go_step
  refine takeA 17 _ (by (repeat (first | with_reducible exact AtL.head | apply AtL.tail))) (by kernel_rfl) (by kernel_rfl) (by kernel_rfl) (by exact fun _ _ _ _ h => h) rfl ?_
  go_step
  refine drawn_done (by kernel_rfl) ?_ _
  all_goals
    repeat' (first
      | go_skip
      | go_big_skip
      | ((with_reducible show wpList _ _ _ (⟨_, .move _, _, _, _, _⟩ :: _) _ _); (first | go_big_want | go_step); go_step)
      | ((with_reducible show wpList _ _ _ (⟨_, .assign _, _, _, _, _⟩ :: _) _ _); (first | go_big_want | go_step); go_step)
      | ((with_reducible show wpList _ _ _ (⟨_, .pick _ _ _, _, _, _, _⟩ :: _) _ _); first | (refine wplPickT rfl (by kernel_rfl) ?_; go_step) | (refine wplPickF rfl (by kernel_rfl) ?_; go_step))
      | ((with_reducible show wpList _ _ _ (⟨_, .binOp .quo _ _ _ _, _, _, _, _⟩ :: _) _ _); first | (refine wplV _ (V.quo rfl rfl (by omega) (by omega)) (by kernel_rfl) ?_; go_step) | (refine wplV _ (V.quoT rfl rfl (by omega)) (by kernel_rfl) ?_; go_step))
      | ((with_reducible show wpList _ _ _ (⟨_, .binOp .mul _ _ _ _, _, _, _, _⟩ :: _) _ _); first | (refine wplV _ (V.mulI rfl rfl (by omega)) (by kernel_rfl) ?_; go_step) | (refine wplV _ (V.mulR (by decide) rfl rfl) (by kernel_rfl) ?_; go_step))
      | ((with_reducible show wpList _ _ _ (⟨_, .binOp .add _ _ _ _, _, _, _, _⟩ :: _) _ _); first | (refine wplV _ (V.addI rfl rfl (by omega)) (by kernel_rfl) ?_; go_step) | (refine wplV _ (V.addR (by decide) rfl rfl) (by kernel_rfl) ?_; go_step))
      | ((with_reducible show wpList _ _ _ (⟨_, .binOp .rem _ _ _ _, _, _, _, _⟩ :: _) _ _); first | (refine wplV _ (V.rem rfl rfl (by omega) (by omega)) (by kernel_rfl) ?_; go_step) | (refine wplV _ (V.remT rfl rfl (by omega)) (by kernel_rfl) ?_; go_step))
      | ((with_reducible show wpList _ _ _ (⟨some 3, .box 59 _, _, _, _, _⟩ :: _) _ _); first | (refine wpl (by kernel_rfl) (wp_boxG (o := ⟨some 3, _, _, _, _, _⟩) hS 59 _ rfl _ rfl ?_); clear hS; intro g3 w hS; refine put_move ?_; go_step))
      | ((with_reducible show wpList _ _ _ (⟨_, .load 59 _, _, _, _, _⟩ :: _) _ _); first | (refine wpl (by kernel_rfl) (wp_loadRI hS 59 _ rfl _ _ rfl 2 (row_of rfl) _ (by with_reducible assumption) (by with_reducible assumption) ?_); refine put_move ?_; go_step) | (refine wpl (by kernel_rfl) (wp_loadRO hS 59 _ rfl _ _ rfl 2 (row_of rfl) _ _ _ _ _ (by (repeat (first | with_reducible exact Pull.head | apply Pull.tail))) (by omega) ?_); refine put_move ?_; go_step) | (refine wpl (by kernel_rfl) (wp_loadA hS 59 _ rfl _ rfl 2 (row_of rfl) _ (by (repeat (first | with_reducible exact Pull.head | apply Pull.tail))) ?_); refine put_move ?_; go_step) | (refine wpl (by kernel_rfl) (wp_loadG hS 59 _ rfl _ rfl 2 (row_of rfl) _ (by (repeat (first | with_reducible exact Pull.head | apply Pull.tail))) (by rfl) ?_); refine put_move ?_; go_step) | (refine wpl (by kernel_rfl) (wp_loadRW hS 59 _ rfl _ _ rfl 2 (row_of rfl) _ (by with_reducible assumption) (by rfl) ?_); refine put_move ?_; go_step))
      | ((fail_if_success (with_reducible show wpList _ _ _ (_ :: _) _ _)); go_step))
  all_goals (go_ret2; exact ⟨rfl, hS.1⟩)
end Go.Proofs.Ytbihmbkkoidnbaa
