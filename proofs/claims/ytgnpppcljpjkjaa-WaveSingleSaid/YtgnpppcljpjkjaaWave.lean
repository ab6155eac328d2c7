/- The walks of package wave. -/
import Derived.Test.YtgnpppcljpjkjaaRet
import Derived.Test.YtgnpppcljpjkjaaContains
namespace Go.Proofs.Ytgnpppcljpjkjaa
open Go.RowKit
set_option linter.unusedVariables false
theorem bl82_0_1_2_3_4_5_6_7_8 (m0 : Int) (m1 : Int) (m2 : Int) (m3 : Int) (m4 : Int) (m5 : Int) (m6 : Int) (m7 : Int) (m8 : Int) (w : World) : (Instr.build 82 #[(0, .int .i64 m0), (1, .int .i64 m1), (2, .int .i64 m2), (3, .int .i64 m3), (4, .int .i64 m4), (5, .int .i64 m5), (6, .int .i64 m6), (7, .int .i64 m7), (8, .int .i64 m8)]).run Try.prog w = .ok (.agg #[.int .i64 m0, .int .i64 m1, .int .i64 m2, .int .i64 m3, .int .i64 m4, .int .i64 m5, .int .i64 m6, .int .i64 m7, .int .i64 m8]) w := by kernel_rfl
theorem bl31_ (w : World) : (Instr.build 31 #[]).run Try.prog w = .ok (.agg (iv (List.replicate 64 0))) w := by kernel_rfl
def tq (k : Int) : Int := nth [4096, 4017, 3784, 3406, 2896, 2276, 1567, 799, 0] k.toNat
def turnV (k : Int) : Int := if 16 < k then (if 8 < 32 - k then - tq (16 - (32 - k)) else tq (32 - k)) else if 8 < k then - tq (16 - k) else tq k
def basV (u x : Int) : Int := if u = 0 then 2896 else turnV (u * (2 * x + 1) % 32)
theorem tq_bd (k : Int) : -4096 ≤ tq k ∧ tq k ≤ 4096 := by
  unfold tq
  have : ∀ l : List Int, (∀ x ∈ l, -4096 ≤ x ∧ x ≤ 4096) → ∀ i, -4096 ≤ nth l i ∧ nth l i ≤ 4096 := fun l hl i => by
    by_cases hi : i < l.length
    · have := hl _ (List.getElem_mem hi)
      simpa [nth, List.getD, hi] using this
    · rw [nth_out l i (by omega)]; omega
  exact this _ (by decide) _
theorem turnV_bd (k : Int) : -4096 ≤ turnV k ∧ turnV k ≤ 4096 := by
  have h1 := tq_bd (16 - (32 - k))
  have h2 := tq_bd (32 - k)
  have h3 := tq_bd (16 - k)
  have h4 := tq_bd k
  unfold turnV
  split
  · split <;> omega
  · split <;> omega
theorem basV_bd (u x : Int) : -4096 ≤ basV u x ∧ basV u x ≤ 4096 := by
  unfold basV
  split
  · omega
  · exact turnV_bd _
theorem turn_low (w0 : World) (k : Int) (h : 0 ≤ k ∧ k ≤ 8) : Calls Try.prog 51 #[.int .i64 k] w0 fun e w => e = .returned (.int .i64 (tq k)) ∧ Ext w0 w := by
  have hS := St.start w0
  obtain rfl | rfl | rfl | rfl | rfl | rfl | rfl | rfl | rfl : k = 0 ∨ k = 1 ∨ k = 2 ∨ k = 3 ∨ k = 4 ∨ k = 5 ∨ k = 6 ∨ k = 7 ∨ k = 8 := by omega
  all_goals
    go_enter Try.func51, Try.ntmps51
    repeat' (first
      | go_skip
      | go_big_skip
      | ((with_reducible show wpList _ _ _ (⟨_, .move _, _, _, _, _⟩ :: _) _ _); (first | go_big_want | go_step); go_step)
      | ((with_reducible show wpList _ _ _ (⟨_, .assign _, _, _, _, _⟩ :: _) _ _); (first | go_big_want | go_step); go_step)
      | ((with_reducible show wpList _ _ _ (⟨_, .pick _ _ _, _, _, _, _⟩ :: _) _ _); first | (refine wplPickT rfl (by kernel_rfl) ?_; go_step) | (refine wplPickF rfl (by kernel_rfl) ?_; go_step))
      | ((with_reducible show wpList _ _ _ (⟨some 4, .build 82 _, _, _, _, _⟩ :: _) _ _); first | (refine wplV _ (V.build (vs := [(0, _), (1, _), (2, _), (3, _), (4, _), (5, _), (6, _), (7, _), (8, _)]) rfl (bl82_0_1_2_3_4_5_6_7_8 _ _ _ _ _ _ _ _ _)) (by kernel_rfl) ?_; go_step))
      | ((with_reducible show wpList _ _ _ (⟨_, .binOp .gtr _ _ _ _, _, _, _, _⟩ :: _) _ _); first | (refine wplV _ (V.gtr rfl rfl) (by kernel_rfl) ?_; go_step))
      | ((with_reducible show wpList _ _ _ (⟨_, .binOp .sub _ _ _ _, _, _, _, _⟩ :: _) _ _); first | (refine wplV _ (V.subI rfl rfl (by omega)) (by kernel_rfl) ?_; go_step) | (refine wplV _ (V.subR (by decide) rfl rfl) (by kernel_rfl) ?_; go_step))
      | ((with_reducible show wpList _ _ _ (⟨_, .unOp .neg _ _, _, _, _, _⟩ :: _) _ _); first | (refine wplV _ (V.neg rfl (by omega)) (by kernel_rfl) ?_; go_step) | (refine wplV _ (V.negR rfl) (by kernel_rfl) ?_; go_step))
      | ((with_reducible show wpList _ _ _ (⟨some 19, .indexAddr 82 _ _, _, _, _, _⟩ :: _) _ _); first | (refine wplV _ (V.indexAr Try.underlying82 isz3 rfl rfl (by (repeat (first | exact IsN.auto | apply IsN.add | apply IsN.mul | apply IsN.div | apply IsN.mod | apply IsN.min | apply IsN.max | apply IsN.sub | (with_reducible show (_ : Nat) ≤ _; omega) | exact IsN.toNat (by omega)))) (by omega) (Nat.mul_one _) (by first | with_reducible exact Nat.zero_add _ | with_reducible exact Nat.add_zero _ | exact rfl)) (by kernel_rfl) ?_; go_step))
      | ((with_reducible show wpList _ _ _ (⟨some 3, .alloc 82, _, _, _, _⟩ :: _) _ _); first | (refine wpl (by kernel_rfl) ?_; apply wp_alloc (o := ⟨some 3, _, _, _, _, _⟩) hS 82 rfl (.agg #[.int .i64 0, .int .i64 0, .int .i64 0, .int .i64 0, .int .i64 0, .int .i64 0, .int .i64 0, .int .i64 0, .int .i64 0]) [.int .i64 0, .int .i64 0, .int .i64 0, .int .i64 0, .int .i64 0, .int .i64 0, .int .i64 0, .int .i64 0, .int .i64 0] (fun w => Try.zeroValue82 w) rfl; clear hS; intro g3 w hS; refine put_move ?_; go_step))
      | ((with_reducible show wpList _ _ _ (⟨_, .store 82 _ _, _, _, _, _⟩ :: _) _ _); first | (refine wpl (by kernel_rfl) ?_; apply wp_storeA hS 82 _ _ rfl _ rfl 9 (row_of rfl) _ _; (case hp => (repeat (first | with_reducible exact Pull.head | apply Pull.tail))); (case hy => rfl); (case hm => (repeat (first | assumption | exact Len.rep | apply Len.set))); (case hd => exact rfl); clear hS; intro w hS) | (refine wpl (by kernel_rfl) ?_; apply wp_storeG hS 82 _ _ rfl _ rfl 9 (row_of rfl) _ _; (case hp => (repeat (first | with_reducible exact Pull.head | apply Pull.tail))); (case hy => rfl); (case hn => rfl); (case hn' => rfl); (case hv => rfl); (case hd => exact rfl); clear hS; intro w hS))
      | ((with_reducible show wpList _ _ _ (⟨_, .load 3 _, _, _, _, _⟩ :: _) _ _); first | (refine wpl (by kernel_rfl) ?_; apply wp_load1A hS 3 _ rfl _ _ rfl (one_of rfl) _ _; (case hp => (repeat (first | with_reducible exact Pull.head | apply Pull.tail))); (case hi => omega); refine put_move ?_; go_step) | (refine wpl (by kernel_rfl) ?_; apply wp_load1OI hS 3 _ rfl _ _ rfl (one_of rfl) _ _ _ _ _; (case hp => (repeat (first | with_reducible exact Pull.head | apply Pull.tail))); (case hi => omega); refine put_move ?_; go_step) | (refine wpl (by kernel_rfl) ?_; apply wp_load1 hS 3 _ rfl _ _ rfl (one_of rfl) _; (case hp => (repeat (first | with_reducible exact Pull.head | apply Pull.tail))); (case hc => rfl); refine put_move ?_; go_step) | (refine wpl (by kernel_rfl) ?_; apply wp_load1O hS 3 _ rfl _ _ rfl (one_of rfl) _ _ _ _ _; (case hp => (repeat (first | with_reducible exact Pull.head | apply Pull.tail))); (case hv => with_reducible assumption); refine put_move ?_; go_step) | (refine wpl (by kernel_rfl) ?_; apply wp_loadW hS 3 _ rfl _ rfl (one_of rfl) _; (case hc => with_reducible assumption); refine put_move ?_; go_step) | (refine wpl (by kernel_rfl) ?_; apply wp_load1R hS 3 _ rfl _ _ _ rfl (one_of rfl) _ _; (case hl => with_reducible assumption); (case hr => with_reducible assumption); (case hf => omega); refine put_move ?_; go_step) | (refine wpl (by kernel_rfl) ?_; apply wp_load1R0 hS 3 _ rfl _ _ rfl (one_of rfl) _ _; (case hl => with_reducible assumption); (case hr => with_reducible assumption); (case hf => omega); refine put_move ?_; go_step))
      | ((fail_if_success (with_reducible show wpList _ _ _ (_ :: _) _ _)); go_step))
    go_ret
    exact ⟨rfl, hS.1⟩
theorem turn_mid (w0 : World) (k : Int) (h : 0 ≤ k ∧ k ≤ 16) : Calls Try.prog 51 #[.int .i64 k] w0 fun e w => e = .returned (.int .i64 (if 8 < k then - tq (16 - k) else tq k)) ∧ Ext w0 w := by
  by_cases h8 : 8 < k
  · rw [if_pos h8]
    have hS := St.start w0
    have hb := tq_bd (16 - k)
    go_enter Try.func51, Try.ntmps51
    repeat' (first
      | ((with_reducible show wpList _ _ _ (⟨_, .call ⟨.value (.func 51), _, _⟩, _, _, _, _⟩ :: _) _ _); refine wpl_call (f := 51) Try.call51 rfl ?_; refine ⟨_, (turn_low _ (16 - k) (by omega)), ?_⟩; rintro e w ⟨rfl, hE⟩; replace hS := hS.ext hE; clear hE; refine ⟨_, rfl, ?_⟩; refine put_move ?_; go_step)
      | go_skip
      | go_big_skip
      | ((with_reducible show wpList _ _ _ (⟨_, .move _, _, _, _, _⟩ :: _) _ _); (first | go_big_want | go_step); go_step)
      | ((with_reducible show wpList _ _ _ (⟨_, .assign _, _, _, _, _⟩ :: _) _ _); (first | go_big_want | go_step); go_step)
      | ((with_reducible show wpList _ _ _ (⟨_, .pick _ _ _, _, _, _, _⟩ :: _) _ _); first | (refine wplPickT rfl (by kernel_rfl) ?_; go_step) | (refine wplPickF rfl (by kernel_rfl) ?_; go_step))
      | ((with_reducible show wpList _ _ _ (⟨some 4, .build 82 _, _, _, _, _⟩ :: _) _ _); first | (refine wplV _ (V.build (vs := [(0, _), (1, _), (2, _), (3, _), (4, _), (5, _), (6, _), (7, _), (8, _)]) rfl (bl82_0_1_2_3_4_5_6_7_8 _ _ _ _ _ _ _ _ _)) (by kernel_rfl) ?_; go_step))
      | ((with_reducible show wpList _ _ _ (⟨_, .binOp .gtr _ _ _ _, _, _, _, _⟩ :: _) _ _); first | (refine wplV _ (V.gtr rfl rfl) (by kernel_rfl) ?_; go_step))
      | ((with_reducible show wpList _ _ _ (⟨_, .binOp .sub _ _ _ _, _, _, _, _⟩ :: _) _ _); first | (refine wplV _ (V.subI rfl rfl (by omega)) (by kernel_rfl) ?_; go_step) | (refine wplV _ (V.subR (by decide) rfl rfl) (by kernel_rfl) ?_; go_step))
      | ((with_reducible show wpList _ _ _ (⟨_, .unOp .neg _ _, _, _, _, _⟩ :: _) _ _); first | (refine wplV _ (V.neg rfl (by omega)) (by kernel_rfl) ?_; go_step) | (refine wplV _ (V.negR rfl) (by kernel_rfl) ?_; go_step))
      | ((with_reducible show wpList _ _ _ (⟨some 19, .indexAddr 82 _ _, _, _, _, _⟩ :: _) _ _); first | (refine wplV _ (V.indexAr Try.underlying82 isz3 rfl rfl (by (repeat (first | exact IsN.auto | apply IsN.add | apply IsN.mul | apply IsN.div | apply IsN.mod | apply IsN.min | apply IsN.max | apply IsN.sub | (with_reducible show (_ : Nat) ≤ _; omega) | exact IsN.toNat (by omega)))) (by omega) (Nat.mul_one _) (by first | with_reducible exact Nat.zero_add _ | with_reducible exact Nat.add_zero _ | exact rfl)) (by kernel_rfl) ?_; go_step))
      | ((with_reducible show wpList _ _ _ (⟨some 3, .alloc 82, _, _, _, _⟩ :: _) _ _); first | (refine wpl (by kernel_rfl) ?_; apply wp_alloc (o := ⟨some 3, _, _, _, _, _⟩) hS 82 rfl (.agg #[.int .i64 0, .int .i64 0, .int .i64 0, .int .i64 0, .int .i64 0, .int .i64 0, .int .i64 0, .int .i64 0, .int .i64 0]) [.int .i64 0, .int .i64 0, .int .i64 0, .int .i64 0, .int .i64 0, .int .i64 0, .int .i64 0, .int .i64 0, .int .i64 0] (fun w => Try.zeroValue82 w) rfl; clear hS; intro g3 w hS; refine put_move ?_; go_step))
      | ((with_reducible show wpList _ _ _ (⟨_, .store 82 _ _, _, _, _, _⟩ :: _) _ _); first | (refine wpl (by kernel_rfl) ?_; apply wp_storeA hS 82 _ _ rfl _ rfl 9 (row_of rfl) _ _; (case hp => (repeat (first | with_reducible exact Pull.head | apply Pull.tail))); (case hy => rfl); (case hm => (repeat (first | assumption | exact Len.rep | apply Len.set))); (case hd => exact rfl); clear hS; intro w hS) | (refine wpl (by kernel_rfl) ?_; apply wp_storeG hS 82 _ _ rfl _ rfl 9 (row_of rfl) _ _; (case hp => (repeat (first | with_reducible exact Pull.head | apply Pull.tail))); (case hy => rfl); (case hn => rfl); (case hn' => rfl); (case hv => rfl); (case hd => exact rfl); clear hS; intro w hS))
      | ((with_reducible show wpList _ _ _ (⟨_, .load 3 _, _, _, _, _⟩ :: _) _ _); first | (refine wpl (by kernel_rfl) ?_; apply wp_load1A hS 3 _ rfl _ _ rfl (one_of rfl) _ _; (case hp => (repeat (first | with_reducible exact Pull.head | apply Pull.tail))); (case hi => omega); refine put_move ?_; go_step) | (refine wpl (by kernel_rfl) ?_; apply wp_load1OI hS 3 _ rfl _ _ rfl (one_of rfl) _ _ _ _ _; (case hp => (repeat (first | with_reducible exact Pull.head | apply Pull.tail))); (case hi => omega); refine put_move ?_; go_step) | (refine wpl (by kernel_rfl) ?_; apply wp_load1 hS 3 _ rfl _ _ rfl (one_of rfl) _; (case hp => (repeat (first | with_reducible exact Pull.head | apply Pull.tail))); (case hc => rfl); refine put_move ?_; go_step) | (refine wpl (by kernel_rfl) ?_; apply wp_load1O hS 3 _ rfl _ _ rfl (one_of rfl) _ _ _ _ _; (case hp => (repeat (first | with_reducible exact Pull.head | apply Pull.tail))); (case hv => with_reducible assumption); refine put_move ?_; go_step) | (refine wpl (by kernel_rfl) ?_; apply wp_loadW hS 3 _ rfl _ rfl (one_of rfl) _; (case hc => with_reducible assumption); refine put_move ?_; go_step) | (refine wpl (by kernel_rfl) ?_; apply wp_load1R hS 3 _ rfl _ _ _ rfl (one_of rfl) _ _; (case hl => with_reducible assumption); (case hr => with_reducible assumption); (case hf => omega); refine put_move ?_; go_step) | (refine wpl (by kernel_rfl) ?_; apply wp_load1R0 hS 3 _ rfl _ _ rfl (one_of rfl) _ _; (case hl => with_reducible assumption); (case hr => with_reducible assumption); (case hf => omega); refine put_move ?_; go_step))
      | ((fail_if_success (with_reducible show wpList _ _ _ (_ :: _) _ _)); go_step))
    go_ret
    exact ⟨rfl, hS.1⟩
  · rw [if_neg h8]
    exact turn_low w0 k (by omega)
theorem turn_any (w0 : World) (k : Int) (h : 0 ≤ k ∧ k ≤ 31) : Calls Try.prog 51 #[.int .i64 k] w0 fun e w => e = .returned (.int .i64 (turnV k)) ∧ Ext w0 w := by
  unfold turnV
  by_cases h16 : 16 < k
  · rw [if_pos h16]
    have hS := St.start w0
    obtain ⟨tv, hV⟩ : ∃ tv, (if 8 < 32 - k then - tq (16 - (32 - k)) else tq (32 - k)) = tv := ⟨_, rfl⟩
    have HV := hid hV
    rw [hV]
    clear hV
    go_enter Try.func51, Try.ntmps51
    repeat' (first
      | ((with_reducible show wpList _ _ _ (⟨_, .call ⟨.value (.func 51), _, _⟩, _, _, _, _⟩ :: _) _ _); refine wpl_call (f := 51) Try.call51 rfl ?_; refine ⟨_, (turn_mid _ (32 - k) (by omega)), ?_⟩; rintro e w ⟨rfl, hE⟩; replace hS := hS.ext hE; clear hE; rw [HV.out]; refine ⟨_, rfl, ?_⟩; refine put_move ?_; go_step)
      | go_skip
      | go_big_skip
      | ((with_reducible show wpList _ _ _ (⟨_, .move _, _, _, _, _⟩ :: _) _ _); (first | go_big_want | go_step); go_step)
      | ((with_reducible show wpList _ _ _ (⟨_, .assign _, _, _, _, _⟩ :: _) _ _); (first | go_big_want | go_step); go_step)
      | ((with_reducible show wpList _ _ _ (⟨_, .pick _ _ _, _, _, _, _⟩ :: _) _ _); first | (refine wplPickT rfl (by kernel_rfl) ?_; go_step) | (refine wplPickF rfl (by kernel_rfl) ?_; go_step))
      | ((with_reducible show wpList _ _ _ (⟨some 4, .build 82 _, _, _, _, _⟩ :: _) _ _); first | (refine wplV _ (V.build (vs := [(0, _), (1, _), (2, _), (3, _), (4, _), (5, _), (6, _), (7, _), (8, _)]) rfl (bl82_0_1_2_3_4_5_6_7_8 _ _ _ _ _ _ _ _ _)) (by kernel_rfl) ?_; go_step))
      | ((with_reducible show wpList _ _ _ (⟨_, .binOp .gtr _ _ _ _, _, _, _, _⟩ :: _) _ _); first | (refine wplV _ (V.gtr rfl rfl) (by kernel_rfl) ?_; go_step))
      | ((with_reducible show wpList _ _ _ (⟨_, .binOp .sub _ _ _ _, _, _, _, _⟩ :: _) _ _); first | (refine wplV _ (V.subI rfl rfl (by omega)) (by kernel_rfl) ?_; go_step) | (refine wplV _ (V.subR (by decide) rfl rfl) (by kernel_rfl) ?_; go_step))
      | ((with_reducible show wpList _ _ _ (⟨_, .unOp .neg _ _, _, _, _, _⟩ :: _) _ _); first | (refine wplV _ (V.neg rfl (by omega)) (by kernel_rfl) ?_; go_step) | (refine wplV _ (V.negR rfl) (by kernel_rfl) ?_; go_step))
      | ((with_reducible show wpList _ _ _ (⟨some 19, .indexAddr 82 _ _, _, _, _, _⟩ :: _) _ _); first | (refine wplV _ (V.indexAr Try.underlying82 isz3 rfl rfl (by (repeat (first | exact IsN.auto | apply IsN.add | apply IsN.mul | apply IsN.div | apply IsN.mod | apply IsN.min | apply IsN.max | apply IsN.sub | (with_reducible show (_ : Nat) ≤ _; omega) | exact IsN.toNat (by omega)))) (by omega) (Nat.mul_one _) (by first | with_reducible exact Nat.zero_add _ | with_reducible exact Nat.add_zero _ | exact rfl)) (by kernel_rfl) ?_; go_step))
      | ((with_reducible show wpList _ _ _ (⟨some 3, .alloc 82, _, _, _, _⟩ :: _) _ _); first | (refine wpl (by kernel_rfl) ?_; apply wp_alloc (o := ⟨some 3, _, _, _, _, _⟩) hS 82 rfl (.agg #[.int .i64 0, .int .i64 0, .int .i64 0, .int .i64 0, .int .i64 0, .int .i64 0, .int .i64 0, .int .i64 0, .int .i64 0]) [.int .i64 0, .int .i64 0, .int .i64 0, .int .i64 0, .int .i64 0, .int .i64 0, .int .i64 0, .int .i64 0, .int .i64 0] (fun w => Try.zeroValue82 w) rfl; clear hS; intro g3 w hS; refine put_move ?_; go_step))
      | ((with_reducible show wpList _ _ _ (⟨_, .store 82 _ _, _, _, _, _⟩ :: _) _ _); first | (refine wpl (by kernel_rfl) ?_; apply wp_storeA hS 82 _ _ rfl _ rfl 9 (row_of rfl) _ _; (case hp => (repeat (first | with_reducible exact Pull.head | apply Pull.tail))); (case hy => rfl); (case hm => (repeat (first | assumption | exact Len.rep | apply Len.set))); (case hd => exact rfl); clear hS; intro w hS) | (refine wpl (by kernel_rfl) ?_; apply wp_storeG hS 82 _ _ rfl _ rfl 9 (row_of rfl) _ _; (case hp => (repeat (first | with_reducible exact Pull.head | apply Pull.tail))); (case hy => rfl); (case hn => rfl); (case hn' => rfl); (case hv => rfl); (case hd => exact rfl); clear hS; intro w hS))
      | ((with_reducible show wpList _ _ _ (⟨_, .load 3 _, _, _, _, _⟩ :: _) _ _); first | (refine wpl (by kernel_rfl) ?_; apply wp_load1A hS 3 _ rfl _ _ rfl (one_of rfl) _ _; (case hp => (repeat (first | with_reducible exact Pull.head | apply Pull.tail))); (case hi => omega); refine put_move ?_; go_step) | (refine wpl (by kernel_rfl) ?_; apply wp_load1OI hS 3 _ rfl _ _ rfl (one_of rfl) _ _ _ _ _; (case hp => (repeat (first | with_reducible exact Pull.head | apply Pull.tail))); (case hi => omega); refine put_move ?_; go_step) | (refine wpl (by kernel_rfl) ?_; apply wp_load1 hS 3 _ rfl _ _ rfl (one_of rfl) _; (case hp => (repeat (first | with_reducible exact Pull.head | apply Pull.tail))); (case hc => rfl); refine put_move ?_; go_step) | (refine wpl (by kernel_rfl) ?_; apply wp_load1O hS 3 _ rfl _ _ rfl (one_of rfl) _ _ _ _ _; (case hp => (repeat (first | with_reducible exact Pull.head | apply Pull.tail))); (case hv => with_reducible assumption); refine put_move ?_; go_step) | (refine wpl (by kernel_rfl) ?_; apply wp_loadW hS 3 _ rfl _ rfl (one_of rfl) _; (case hc => with_reducible assumption); refine put_move ?_; go_step) | (refine wpl (by kernel_rfl) ?_; apply wp_load1R hS 3 _ rfl _ _ _ rfl (one_of rfl) _ _; (case hl => with_reducible assumption); (case hr => with_reducible assumption); (case hf => omega); refine put_move ?_; go_step) | (refine wpl (by kernel_rfl) ?_; apply wp_load1R0 hS 3 _ rfl _ _ rfl (one_of rfl) _ _; (case hl => with_reducible assumption); (case hr => with_reducible assumption); (case hf => omega); refine put_move ?_; go_step))
      | ((fail_if_success (with_reducible show wpList _ _ _ (_ :: _) _ _)); go_step))
    go_ret
    exact ⟨rfl, hS.1⟩
  · rw [if_neg h16]
    exact turn_mid w0 k (by omega)
theorem basis_any (w0 : World) (u x : Int) (hu : 0 ≤ u ∧ u ≤ 7) (hx : 0 ≤ x ∧ x ≤ 7) : Calls Try.prog 39 #[.int .i64 u, .int .i64 x] w0 fun e w => e = .returned (.int .i64 (basV u x)) ∧ Ext w0 w := by
  have hS := St.start w0
  unfold basV
  by_cases h0 : u = 0
  · subst h0
    rw [if_pos rfl]
    go_enter Try.func39, Try.ntmps39
    repeat' (first
      | go_skip
      | go_big_skip
      | ((with_reducible show wpList _ _ _ (⟨_, .move _, _, _, _, _⟩ :: _) _ _); (first | go_big_want | go_step); go_step)
      | ((with_reducible show wpList _ _ _ (⟨_, .assign _, _, _, _, _⟩ :: _) _ _); (first | go_big_want | go_step); go_step)
      | ((with_reducible show wpList _ _ _ (⟨_, .pick _ _ _, _, _, _, _⟩ :: _) _ _); first | (refine wplPickT rfl (by kernel_rfl) ?_; go_step) | (refine wplPickF rfl (by kernel_rfl) ?_; go_step))
      | ((with_reducible show wpList _ _ _ (⟨_, .binOp .eql 3 _ _ _, _, _, _, _⟩ :: _) _ _); first | (refine wplV _ (V.eql rfl rfl) (by kernel_rfl) ?_; go_step))
      | ((with_reducible show wpList _ _ _ (⟨_, .binOp .mul _ _ _ _, _, _, _, _⟩ :: _) _ _); first | (refine wplV _ (V.mulI rfl rfl (by omega)) (by kernel_rfl) ?_; go_step) | (refine wplV _ (V.mulR (by decide) rfl rfl) (by kernel_rfl) ?_; go_step))
      | ((with_reducible show wpList _ _ _ (⟨_, .binOp .add _ _ _ _, _, _, _, _⟩ :: _) _ _); first | (refine wplV _ (V.addI rfl rfl (by omega)) (by kernel_rfl) ?_; go_step) | (refine wplV _ (V.addR (by decide) rfl rfl) (by kernel_rfl) ?_; go_step))
      | ((with_reducible show wpList _ _ _ (⟨_, .binOp .rem _ _ _ _, _, _, _, _⟩ :: _) _ _); first | (refine wplV _ (V.rem rfl rfl (by omega) (by omega)) (by kernel_rfl) ?_; go_step) | (refine wplV _ (V.remT rfl rfl (by omega)) (by kernel_rfl) ?_; go_step))
      | ((fail_if_success (with_reducible show wpList _ _ _ (_ :: _) _ _)); go_step))
    go_ret
    exact ⟨rfl, hS.1⟩
  · rw [if_neg h0]
    obtain ⟨k0, k1⟩ := mulb u (2 * x + 1) 7 15 (by omega) (by omega)
    have k2 : 0 ≤ u * (2 * x + 1) := Int.mul_nonneg (by omega) (by omega)
    obtain ⟨p, hp⟩ : ∃ p, u * (2 * x + 1) = p := ⟨_, rfl⟩
    rw [hp] at k0 k1 k2 ⊢
    go_enter Try.func39, Try.ntmps39
    repeat' (first
      | ((with_reducible show wpList _ _ _ (⟨some 11, .binOp .mul _ _ _ _, _, _, _, _⟩ :: _) _ _); first | (refine wplV (.int _ (p)) (V.as (V.mulI rfl rfl (by omega)) (by omega)) rfl ?_; go_step) | (refine wplV (.int _ (p)) (V.as (V.mulR (by decide) rfl rfl) (by omega)) rfl ?_; go_step))
      | ((with_reducible show wpList _ _ _ (⟨_, .call ⟨.value (.func 51), _, _⟩, _, _, _, _⟩ :: _) _ _); refine wpl_call (f := 51) Try.call51 rfl ?_; refine ⟨_, (turn_any _ (p % 32) (by omega)), ?_⟩; rintro e w ⟨rfl, hE⟩; replace hS := hS.ext hE; clear hE; refine ⟨_, rfl, ?_⟩; refine put_move ?_; go_step)
      | go_skip
      | go_big_skip
      | ((with_reducible show wpList _ _ _ (⟨_, .move _, _, _, _, _⟩ :: _) _ _); (first | go_big_want | go_step); go_step)
      | ((with_reducible show wpList _ _ _ (⟨_, .assign _, _, _, _, _⟩ :: _) _ _); (first | go_big_want | go_step); go_step)
      | ((with_reducible show wpList _ _ _ (⟨_, .pick _ _ _, _, _, _, _⟩ :: _) _ _); first | (refine wplPickT rfl (by kernel_rfl) ?_; go_step) | (refine wplPickF rfl (by kernel_rfl) ?_; go_step))
      | ((with_reducible show wpList _ _ _ (⟨_, .binOp .eql 3 _ _ _, _, _, _, _⟩ :: _) _ _); first | (refine wplV _ (V.eql rfl rfl) (by kernel_rfl) ?_; go_step))
      | ((with_reducible show wpList _ _ _ (⟨_, .binOp .mul _ _ _ _, _, _, _, _⟩ :: _) _ _); first | (refine wplV _ (V.mulI rfl rfl (by omega)) (by kernel_rfl) ?_; go_step) | (refine wplV _ (V.mulR (by decide) rfl rfl) (by kernel_rfl) ?_; go_step))
      | ((with_reducible show wpList _ _ _ (⟨_, .binOp .add _ _ _ _, _, _, _, _⟩ :: _) _ _); first | (refine wplV _ (V.addI rfl rfl (by omega)) (by kernel_rfl) ?_; go_step) | (refine wplV _ (V.addR (by decide) rfl rfl) (by kernel_rfl) ?_; go_step))
      | ((with_reducible show wpList _ _ _ (⟨_, .binOp .rem _ _ _ _, _, _, _, _⟩ :: _) _ _); first | (refine wplV _ (V.rem rfl rfl (by omega) (by omega)) (by kernel_rfl) ?_; go_step) | (refine wplV _ (V.remT rfl rfl (by omega)) (by kernel_rfl) ?_; go_step))
      | ((fail_if_success (with_reducible show wpList _ _ _ (_ :: _) _ _)); go_step))
    go_ret
    exact ⟨rfl, hS.1⟩
theorem Basis_any (w0 : World) (u x : Int) (hu : 0 ≤ u ∧ u ≤ 7) (hx : 0 ≤ x ∧ x ≤ 7) : Calls Try.prog 21 #[.int .i64 u, .int .i64 x] w0 fun e w => e = .returned (.tuple #[.int .i64 (basV u x), .int .i64 0]) ∧ Ext w0 w := by
  have hS := St.start w0
  go_enter Try.func21, Try.ntmps21
  repeat' (first
    | ((with_reducible show wpList _ _ _ (⟨_, .call ⟨.value (.func 39), _, _⟩, _, _, _, _⟩ :: _) _ _); refine wpl_call (f := 39) Try.call39 rfl ?_; refine ⟨_, (basis_any _ u x (by omega) (by omega)), ?_⟩; rintro e w ⟨rfl, hE⟩; replace hS := hS.ext hE; clear hE; refine ⟨_, rfl, ?_⟩; refine put_move ?_; go_step)
    | go_skip
    | go_big_skip
    | ((with_reducible show wpList _ _ _ (⟨_, .move _, _, _, _, _⟩ :: _) _ _); (first | go_big_want | go_step); go_step)
    | ((with_reducible show wpList _ _ _ (⟨_, .assign _, _, _, _, _⟩ :: _) _ _); (first | go_big_want | go_step); go_step)
    | ((with_reducible show wpList _ _ _ (⟨_, .pick _ _ _, _, _, _, _⟩ :: _) _ _); first | (refine wplPickT rfl (by kernel_rfl) ?_; go_step) | (refine wplPickF rfl (by kernel_rfl) ?_; go_step))
    | ((with_reducible show wpList _ _ _ (⟨some 7, .binOp .lss _ _ _ _, _, _, _, _⟩ :: _) _ _); first | (refine wplD _ (V.lss rfl rfl) (by kernel_rfl) (fun hB => ?_) (fun hB => ?_) <;> (try (have hF : False := (by omega); cases hF)) <;> go_step) | (refine wplB _ (V.lss rfl rfl) (by kernel_rfl) (fun hB => ?_) (fun hB => ?_) <;> go_step))
    | ((with_reducible show wpList _ _ _ (⟨some 10, .binOp .gtr _ _ _ _, _, _, _, _⟩ :: _) _ _); first | (refine wplD _ (V.gtr rfl rfl) (by kernel_rfl) (fun hB => ?_) (fun hB => ?_) <;> (try (have hF : False := (by omega); cases hF)) <;> go_step) | (refine wplB _ (V.gtr rfl rfl) (by kernel_rfl) (fun hB => ?_) (fun hB => ?_) <;> go_step))
    | ((with_reducible show wpList _ _ _ (⟨some 14, .binOp .lss _ _ _ _, _, _, _, _⟩ :: _) _ _); first | (refine wplD _ (V.lss rfl rfl) (by kernel_rfl) (fun hB => ?_) (fun hB => ?_) <;> (try (have hF : False := (by omega); cases hF)) <;> go_step) | (refine wplB _ (V.lss rfl rfl) (by kernel_rfl) (fun hB => ?_) (fun hB => ?_) <;> go_step))
    | ((with_reducible show wpList _ _ _ (⟨_, .binOp .gtr _ _ _ _, _, _, _, _⟩ :: _) _ _); first | (refine wplV _ (V.gtr rfl rfl) (by kernel_rfl) ?_; go_step))
    | ((fail_if_success (with_reducible show wpList _ _ _ (_ :: _) _ _)); go_step))
  go_ret2
  exact ⟨rfl, hS.1⟩
end Go.Proofs.Ytgnpppcljpjkjaa
