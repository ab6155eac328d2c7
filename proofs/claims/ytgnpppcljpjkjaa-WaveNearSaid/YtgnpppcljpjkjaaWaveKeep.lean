/- What the laws on waves share: ones, across, the closed fact. -/
import Derived.Test.YtgnpppcljpjkjaaWaveMath
import Derived.Test.YtgnpppcljpjkjaaOpen
import Derived.Test.YtgnpppcljpjkjaaOpenBlock
namespace Go.Proofs.Ytgnpppcljpjkjaa
open Go.RowKit
set_option linter.unusedVariables false
theorem ones_any (w0 : World) (n : Int) : Calls Try.prog 22 #[.int .i64 n] w0 fun e w => e = .returned (.agg (iv (List.replicate 64 n))) ∧ Ext w0 w := by
  have hS := St.start w0
  go_enter Try.func22, Try.ntmps22
  repeat' (first
    | go_skip
    | go_big_skip
    | ((with_reducible show wpList _ _ _ (⟨_, .move _, _, _, _, _⟩ :: _) _ _); (first | go_big_want | go_step); go_step)
    | ((with_reducible show wpList _ _ _ (⟨_, .assign _, _, _, _, _⟩ :: _) _ _); (first | go_big_want | go_step); go_step)
    | ((with_reducible show wpList _ _ _ (⟨_, .pick _ _ _, _, _, _, _⟩ :: _) _ _); first | (refine wplPickT rfl (by kernel_rfl) ?_; go_step) | (refine wplPickF rfl (by kernel_rfl) ?_; go_step))
    | ((with_reducible show wpList _ _ _ (⟨some 2, .alloc 31, _, _, _, _⟩ :: _) _ _); first | (refine wpl (by kernel_rfl) ?_; apply wp_allocA (o := ⟨some 2, _, _, _, _, _⟩) hS 31 rfl (List.replicate 64 0) 64 List.length_replicate za31; clear hS; intro g2 w hS; refine put_move ?_; go_step))
    | ((fail_if_success (with_reducible show wpList _ _ _ (_ :: _) _ _)); go_step))
  go_loopg [4] 64 (fun gk kv w => ∃ (i : Nat) (o : List Int), gk + i = 64 ∧ kv = .int .i64 i ∧ (∀ p, p < i → nth o p = n) ∧ St w0 w [arr g2 64 o])
  case atStart => exact ⟨0, _, rfl, rfl, fun p hp => by omega, hS.sub (by (repeat (first | exact Sub.nil | with_reducible exact Sub.refl | (refine Sub.cons (by (repeat (first | with_reducible exact Pull.head | apply Pull.tail))) ?_) | apply Sub.skip)))⟩
  case round =>
    clear hS
    obtain ⟨i, o, hi, rfl, ho, hS⟩ := hrel
    have HO := hid ho
    clear ho
    have hol := (hS.arr (g := g2) (n := 64) (by (repeat (first | with_reducible exact Pull.head | apply Pull.tail)))).2
    by_cases hlt : i < 64
    · skip
      repeat' (first
        | go_skip
        | go_big_skip
        | ((with_reducible show wpList _ _ _ (⟨_, .move _, _, _, _, _⟩ :: _) _ _); (first | go_big_want | go_step); go_step)
        | ((with_reducible show wpList _ _ _ (⟨_, .assign _, _, _, _, _⟩ :: _) _ _); (first | go_big_want | go_step); go_step)
        | ((with_reducible show wpList _ _ _ (⟨_, .pick _ _ _, _, _, _, _⟩ :: _) _ _); first | (refine wplPickT rfl (by kernel_rfl) ?_; go_step) | (refine wplPickF rfl (by kernel_rfl) ?_; go_step))
        | ((with_reducible show wpList _ _ _ (⟨_, .binOp .lss _ _ _ _, _, _, _, _⟩ :: _) _ _); first | (refine wplV _ (V.lss rfl rfl) (by kernel_rfl) ?_; go_step))
        | ((with_reducible show wpList _ _ _ (⟨some 9, .indexAddr 31 _ _, _, _, _, _⟩ :: _) _ _); first | (refine wplV _ (V.indexAr Try.underlying31 isz3 rfl rfl (by (repeat (first | exact IsN.auto | apply IsN.add | apply IsN.mul | apply IsN.div | apply IsN.mod | apply IsN.min | apply IsN.max | apply IsN.sub | (with_reducible show (_ : Nat) ≤ _; omega) | exact IsN.toNat (by omega)))) (by omega) (Nat.mul_one _) (by first | with_reducible exact Nat.zero_add _ | with_reducible exact Nat.add_zero _ | exact rfl)) (by kernel_rfl) ?_; go_step))
        | ((with_reducible show wpList _ _ _ (⟨_, .binOp .add _ _ _ _, _, _, _, _⟩ :: _) _ _); first | (refine wplV _ (V.addI rfl rfl (by omega)) (by kernel_rfl) ?_; go_step) | (refine wplV _ (V.addR (by decide) rfl rfl) (by kernel_rfl) ?_; go_step))
        | ((with_reducible show wpList _ _ _ (⟨_, .store 3 _ _, _, _, _, _⟩ :: _) _ _); first | (refine wpl (by kernel_rfl) ?_; apply wp_store1A hS 3 _ _ rfl _ _ rfl (one_of rfl) _ _; (case hp => (repeat (first | with_reducible exact Pull.head | apply Pull.tail))); (case hy => rfl); (case hi => omega); (case hd => exact rfl); clear hS; intro w hS) | (refine wpl (by kernel_rfl) ?_; apply wp_store1 hS 3 _ _ rfl _ _ rfl (one_of rfl) _ _; (case hp => (repeat (first | with_reducible exact Pull.head | apply Pull.tail))); (case hy => (first | exact IsV.int rfl | exact IsV.bool rfl | exact IsV.slice rfl | exact IsV.pointer rfl | exact IsV.string rfl | exact IsV.map rfl | exact IsV.func rfl)); (case hv => rfl); (case hc => (repeat (first | with_reducible exact SetAt.head | apply SetAt.tail))); (case hd => exact rfl); clear hS; intro w hS) | (refine wpl (by kernel_rfl) ?_; apply wp_store1OI hS 3 _ _ rfl _ _ rfl (one_of rfl) _ _ _ _ _; (case hp => (repeat (first | with_reducible exact Pull.head | apply Pull.tail))); (case hy => rfl); (case hi => omega); (case hd => exact rfl); clear hS; intro w hS) | (refine wpl (by kernel_rfl) ?_; apply wp_store1O hS 3 _ _ rfl _ _ rfl (one_of rfl) _ _ _ _ _; (case hp => (repeat (first | with_reducible exact Pull.head | apply Pull.tail))); (case hy => (first | exact IsV.int rfl | exact IsV.bool rfl | exact IsV.slice rfl | exact IsV.pointer rfl | exact IsV.string rfl | exact IsV.map rfl | exact IsV.func rfl)); (case hv => rfl); (case hi => omega); (case hd => exact rfl); clear hS; intro w hS))
        | ((fail_if_success (with_reducible show wpList _ _ _ (_ :: _) _ _)); go_step))
      go_roundg (gk - 1)
      case measure => omega
      case rel =>
        refine ⟨i + 1, _, by omega, by go_num, fun p hp => ?_, hS.sub (by (repeat (first | exact Sub.nil | with_reducible exact Sub.refl | (refine Sub.cons (by (repeat (first | with_reducible exact Pull.head | apply Pull.tail))) ?_) | apply Sub.skip)))⟩
        rw [nth_set o i p _ (by omega)]
        split
        · rfl
        · exact HO.out p (by have h9 : p < i + 1 := hp; omega)
    · obtain rfl : i = 64 := by omega
      have lo : Len o 64 := hol
      have hw : o = List.replicate 64 n := list_ext (by rw [hol]; simp) fun p hp => by rw [HO.out p (by omega), nth_rep _ _ _ (by omega)]
      have HW := hid hw
      clear hw
      repeat' (first
        | go_skip
        | go_big_skip
        | ((with_reducible show wpList _ _ _ (⟨_, .move _, _, _, _, _⟩ :: _) _ _); (first | go_big_want | go_step); go_step)
        | ((with_reducible show wpList _ _ _ (⟨_, .assign _, _, _, _, _⟩ :: _) _ _); (first | go_big_want | go_step); go_step)
        | ((with_reducible show wpList _ _ _ (⟨_, .pick _ _ _, _, _, _, _⟩ :: _) _ _); first | (refine wplPickT rfl (by kernel_rfl) ?_; go_step) | (refine wplPickF rfl (by kernel_rfl) ?_; go_step))
        | ((with_reducible show wpList _ _ _ (⟨_, .binOp .lss _ _ _ _, _, _, _, _⟩ :: _) _ _); first | (refine wplV _ (V.lss rfl rfl) (by kernel_rfl) ?_; go_step))
        | ((with_reducible show wpList _ _ _ (⟨some 9, .indexAddr 31 _ _, _, _, _, _⟩ :: _) _ _); first | (refine wplV _ (V.indexAr Try.underlying31 isz3 rfl rfl (by (repeat (first | exact IsN.auto | apply IsN.add | apply IsN.mul | apply IsN.div | apply IsN.mod | apply IsN.min | apply IsN.max | apply IsN.sub | (with_reducible show (_ : Nat) ≤ _; omega) | exact IsN.toNat (by omega)))) (by omega) (Nat.mul_one _) (by first | with_reducible exact Nat.zero_add _ | with_reducible exact Nat.add_zero _ | exact rfl)) (by kernel_rfl) ?_; go_step))
        | ((with_reducible show wpList _ _ _ (⟨_, .binOp .add _ _ _ _, _, _, _, _⟩ :: _) _ _); first | (refine wplV _ (V.addI rfl rfl (by omega)) (by kernel_rfl) ?_; go_step) | (refine wplV _ (V.addR (by decide) rfl rfl) (by kernel_rfl) ?_; go_step))
        | ((with_reducible show wpList _ _ _ (⟨_, .store 3 _ _, _, _, _, _⟩ :: _) _ _); first | (refine wpl (by kernel_rfl) ?_; apply wp_store1A hS 3 _ _ rfl _ _ rfl (one_of rfl) _ _; (case hp => (repeat (first | with_reducible exact Pull.head | apply Pull.tail))); (case hy => rfl); (case hi => omega); (case hd => exact rfl); clear hS; intro w hS) | (refine wpl (by kernel_rfl) ?_; apply wp_store1 hS 3 _ _ rfl _ _ rfl (one_of rfl) _ _; (case hp => (repeat (first | with_reducible exact Pull.head | apply Pull.tail))); (case hy => (first | exact IsV.int rfl | exact IsV.bool rfl | exact IsV.slice rfl | exact IsV.pointer rfl | exact IsV.string rfl | exact IsV.map rfl | exact IsV.func rfl)); (case hv => rfl); (case hc => (repeat (first | with_reducible exact SetAt.head | apply SetAt.tail))); (case hd => exact rfl); clear hS; intro w hS) | (refine wpl (by kernel_rfl) ?_; apply wp_store1OI hS 3 _ _ rfl _ _ rfl (one_of rfl) _ _ _ _ _; (case hp => (repeat (first | with_reducible exact Pull.head | apply Pull.tail))); (case hy => rfl); (case hi => omega); (case hd => exact rfl); clear hS; intro w hS) | (refine wpl (by kernel_rfl) ?_; apply wp_store1O hS 3 _ _ rfl _ _ rfl (one_of rfl) _ _ _ _ _; (case hp => (repeat (first | with_reducible exact Pull.head | apply Pull.tail))); (case hy => (first | exact IsV.int rfl | exact IsV.bool rfl | exact IsV.slice rfl | exact IsV.pointer rfl | exact IsV.string rfl | exact IsV.map rfl | exact IsV.func rfl)); (case hv => rfl); (case hi => omega); (case hd => exact rfl); clear hS; intro w hS))
        | ((with_reducible show wpList _ _ _ (⟨_, .load 31 _, _, _, _, _⟩ :: _) _ _); first | (refine wpl (by kernel_rfl) ?_; apply wp_loadRI hS 31 _ rfl _ _ rfl 64 (row_of rfl) _; (case hl => with_reducible assumption); (case hr => with_reducible assumption); refine put_move ?_; go_step) | (refine wpl (by kernel_rfl) ?_; apply wp_loadRO hS 31 _ rfl _ _ rfl 64 (row_of rfl) _ _ _ _ _; (case hp => (repeat (first | with_reducible exact Pull.head | apply Pull.tail))); (case hi => omega); refine put_move ?_; go_step) | (refine wpl (by kernel_rfl) ?_; apply wp_loadA hS 31 _ rfl _ rfl 64 (row_of rfl) _; (case hp => (repeat (first | with_reducible exact Pull.head | apply Pull.tail))); refine put_move ?_; go_step) | (refine wpl (by kernel_rfl) ?_; apply wp_loadG hS 31 _ rfl _ rfl 64 (row_of rfl) _; (case hp => (repeat (first | with_reducible exact Pull.head | apply Pull.tail))); (case hn => rfl); refine put_move ?_; go_step) | (refine wpl (by kernel_rfl) ?_; apply wp_loadRW hS 31 _ rfl _ _ rfl 64 (row_of rfl) _; (case hc => with_reducible assumption); (case hn => rfl); refine put_move ?_; go_step))
        | ((with_reducible show wpList _ _ _ (⟨_, .store 31 _ _, _, _, _, _⟩ :: _) _ _); first | (refine wpl (by kernel_rfl) ?_; apply wp_storeA hS 31 _ _ rfl _ rfl 64 (row_of rfl) _ _; (case hp => (repeat (first | with_reducible exact Pull.head | apply Pull.tail))); (case hy => rfl); (case hm => (repeat (first | assumption | exact Len.rep | apply Len.set))); (case hd => exact rfl); clear hS; intro w hS) | (refine wpl (by kernel_rfl) ?_; apply wp_storeG hS 31 _ _ rfl _ rfl 64 (row_of rfl) _ _; (case hp => (repeat (first | with_reducible exact Pull.head | apply Pull.tail))); (case hy => rfl); (case hn => rfl); (case hn' => rfl); (case hv => rfl); (case hd => exact rfl); clear hS; intro w hS))
        | ((fail_if_success (with_reducible show wpList _ _ _ (_ :: _) _ _)); go_step))
      refine ret_one rfl (OneRes.arr hS rfl (row_of (n := 64) rfl) (by (repeat (first | with_reducible exact Pull.head | apply Pull.tail)))) rfl ?_
      exact ⟨by rw [HW.out], hS.1⟩
def acrL (b : List Int) : List Int := tab 64 fun p => nth b (p % 8 * 8 + p / 8)
theorem acr_any (w0 : World) (b : List Int) (hb : Len b 64) : Calls Try.prog 24 #[.agg (iv b)] w0 fun e w => e = .returned (.agg (iv (acrL b))) ∧ Ext w0 w := by
  have hS := St.start w0
  go_enter Try.func24, Try.ntmps24
  repeat' (first
    | go_skip
    | go_big_skip
    | ((with_reducible show wpList _ _ _ (⟨_, .move _, _, _, _, _⟩ :: _) _ _); (first | go_big_want | go_step); go_step)
    | ((with_reducible show wpList _ _ _ (⟨_, .assign _, _, _, _, _⟩ :: _) _ _); (first | go_big_want | go_step); go_step)
    | ((with_reducible show wpList _ _ _ (⟨_, .pick _ _ _, _, _, _, _⟩ :: _) _ _); first | (refine wplPickT rfl (by kernel_rfl) ?_; go_step) | (refine wplPickF rfl (by kernel_rfl) ?_; go_step))
    | ((with_reducible show wpList _ _ _ (⟨some 1, .box 31 _, _, _, _, _⟩ :: _) _ _); first | (refine wpl (by kernel_rfl) ?_; apply wp_boxA (o := ⟨some 1, _, _, _, _, _⟩) hS 31 _ rfl _ 64 rfl; (case hn => assumption); clear hS; intro g1 w hS; refine put_move ?_; go_step))
    | ((with_reducible show wpList _ _ _ (⟨some 2, .alloc 31, _, _, _, _⟩ :: _) _ _); first | (refine wpl (by kernel_rfl) ?_; apply wp_allocA (o := ⟨some 2, _, _, _, _, _⟩) hS 31 rfl (List.replicate 64 0) 64 List.length_replicate za31; clear hS; intro g2 w hS; refine put_move ?_; go_step))
    | ((with_reducible show wpList _ _ _ (⟨_, .load 31 _, _, _, _, _⟩ :: _) _ _); first | (refine wpl (by kernel_rfl) ?_; apply wp_loadRI hS 31 _ rfl _ _ rfl 64 (row_of rfl) _; (case hl => with_reducible assumption); (case hr => with_reducible assumption); refine put_move ?_; go_step) | (refine wpl (by kernel_rfl) ?_; apply wp_loadRO hS 31 _ rfl _ _ rfl 64 (row_of rfl) _ _ _ _ _; (case hp => (repeat (first | with_reducible exact Pull.head | apply Pull.tail))); (case hi => omega); refine put_move ?_; go_step) | (refine wpl (by kernel_rfl) ?_; apply wp_loadA hS 31 _ rfl _ rfl 64 (row_of rfl) _; (case hp => (repeat (first | with_reducible exact Pull.head | apply Pull.tail))); refine put_move ?_; go_step) | (refine wpl (by kernel_rfl) ?_; apply wp_loadG hS 31 _ rfl _ rfl 64 (row_of rfl) _; (case hp => (repeat (first | with_reducible exact Pull.head | apply Pull.tail))); (case hn => rfl); refine put_move ?_; go_step) | (refine wpl (by kernel_rfl) ?_; apply wp_loadRW hS 31 _ rfl _ _ rfl 64 (row_of rfl) _; (case hc => with_reducible assumption); (case hn => rfl); refine put_move ?_; go_step))
    | ((fail_if_success (with_reducible show wpList _ _ _ (_ :: _) _ _)); go_step))
  go_loopg [6] 64 (fun gk kv w => ∃ (i : Nat) (o : List Int), gk + i = 64 ∧ kv = .int .i64 i ∧ (∀ p, p < 64 → p % 8 * 8 + p / 8 < i → nth o p = nth b (p % 8 * 8 + p / 8)) ∧ St w0 w [arr g2 64 o])
  case atStart => exact ⟨0, _, rfl, rfl, fun p hp h => by omega, hS.sub (by (repeat (first | exact Sub.nil | with_reducible exact Sub.refl | (refine Sub.cons (by (repeat (first | with_reducible exact Pull.head | apply Pull.tail))) ?_) | apply Sub.skip)))⟩
  case round =>
    clear hS
    obtain ⟨i, o, hi, rfl, ho, hS⟩ := hrel
    have HO := hid ho
    clear ho
    have hol := (hS.arr (g := g2) (n := 64) (by (repeat (first | with_reducible exact Pull.head | apply Pull.tail)))).2
    by_cases hlt : i < 64
    · skip
      repeat' (first
        | go_skip
        | go_big_skip
        | ((with_reducible show wpList _ _ _ (⟨_, .move _, _, _, _, _⟩ :: _) _ _); (first | go_big_want | go_step); go_step)
        | ((with_reducible show wpList _ _ _ (⟨_, .assign _, _, _, _, _⟩ :: _) _ _); (first | go_big_want | go_step); go_step)
        | ((with_reducible show wpList _ _ _ (⟨_, .pick _ _ _, _, _, _, _⟩ :: _) _ _); first | (refine wplPickT rfl (by kernel_rfl) ?_; go_step) | (refine wplPickF rfl (by kernel_rfl) ?_; go_step))
        | ((with_reducible show wpList _ _ _ (⟨_, .binOp .lss _ _ _ _, _, _, _, _⟩ :: _) _ _); first | (refine wplV _ (V.lss rfl rfl) (by kernel_rfl) ?_; go_step))
        | ((with_reducible show wpList _ _ _ (⟨some 9, .index 31 _ _, _, _, _, _⟩ :: _) _ _); first | (refine wplV _ (V.indexIv Try.underlying31 Try.underlying3 isz3 rfl rfl (by (repeat (first | assumption | exact Len.rep | apply Len.set))) (by (repeat (first | exact IsN.auto | apply IsN.add | apply IsN.mul | apply IsN.div | apply IsN.mod | apply IsN.min | apply IsN.max | apply IsN.sub | (with_reducible show (_ : Nat) ≤ _; omega) | exact IsN.toNat (by omega)))) (by omega)) (by kernel_rfl) ?_; go_step))
        | ((with_reducible show wpList _ _ _ (⟨_, .binOp .rem _ _ _ _, _, _, _, _⟩ :: _) _ _); first | (refine wplV _ (V.rem rfl rfl (by omega) (by omega)) (by kernel_rfl) ?_; go_step) | (refine wplV _ (V.remT rfl rfl (by omega)) (by kernel_rfl) ?_; go_step))
        | ((with_reducible show wpList _ _ _ (⟨_, .binOp .mul _ _ _ _, _, _, _, _⟩ :: _) _ _); first | (refine wplV _ (V.mulI rfl rfl (by omega)) (by kernel_rfl) ?_; go_step) | (refine wplV _ (V.mulR (by decide) rfl rfl) (by kernel_rfl) ?_; go_step))
        | ((with_reducible show wpList _ _ _ (⟨_, .binOp .quo _ _ _ _, _, _, _, _⟩ :: _) _ _); first | (refine wplV _ (V.quo rfl rfl (by omega) (by omega)) (by kernel_rfl) ?_; go_step) | (refine wplV _ (V.quoT rfl rfl (by omega)) (by kernel_rfl) ?_; go_step))
        | ((with_reducible show wpList _ _ _ (⟨_, .binOp .add _ _ _ _, _, _, _, _⟩ :: _) _ _); first | (refine wplV _ (V.addI rfl rfl (by omega)) (by kernel_rfl) ?_; go_step) | (refine wplV _ (V.addR (by decide) rfl rfl) (by kernel_rfl) ?_; go_step))
        | ((with_reducible show wpList _ _ _ (⟨some 17, .indexAddr 31 _ _, _, _, _, _⟩ :: _) _ _); first | (refine wplV _ (V.indexAr Try.underlying31 isz3 rfl rfl (by (repeat (first | exact IsN.auto | apply IsN.add | apply IsN.mul | apply IsN.div | apply IsN.mod | apply IsN.min | apply IsN.max | apply IsN.sub | (with_reducible show (_ : Nat) ≤ _; omega) | exact IsN.toNat (by omega)))) (by omega) (Nat.mul_one _) (by first | with_reducible exact Nat.zero_add _ | with_reducible exact Nat.add_zero _ | exact rfl)) (by kernel_rfl) ?_; go_step))
        | ((with_reducible show wpList _ _ _ (⟨_, .store 3 _ _, _, _, _, _⟩ :: _) _ _); first | (refine wpl (by kernel_rfl) ?_; apply wp_store1A hS 3 _ _ rfl _ _ rfl (one_of rfl) _ _; (case hp => (repeat (first | with_reducible exact Pull.head | apply Pull.tail))); (case hy => rfl); (case hi => omega); (case hd => exact rfl); clear hS; intro w hS) | (refine wpl (by kernel_rfl) ?_; apply wp_store1 hS 3 _ _ rfl _ _ rfl (one_of rfl) _ _; (case hp => (repeat (first | with_reducible exact Pull.head | apply Pull.tail))); (case hy => (first | exact IsV.int rfl | exact IsV.bool rfl | exact IsV.slice rfl | exact IsV.pointer rfl | exact IsV.string rfl | exact IsV.map rfl | exact IsV.func rfl)); (case hv => rfl); (case hc => (repeat (first | with_reducible exact SetAt.head | apply SetAt.tail))); (case hd => exact rfl); clear hS; intro w hS) | (refine wpl (by kernel_rfl) ?_; apply wp_store1OI hS 3 _ _ rfl _ _ rfl (one_of rfl) _ _ _ _ _; (case hp => (repeat (first | with_reducible exact Pull.head | apply Pull.tail))); (case hy => rfl); (case hi => omega); (case hd => exact rfl); clear hS; intro w hS) | (refine wpl (by kernel_rfl) ?_; apply wp_store1O hS 3 _ _ rfl _ _ rfl (one_of rfl) _ _ _ _ _; (case hp => (repeat (first | with_reducible exact Pull.head | apply Pull.tail))); (case hy => (first | exact IsV.int rfl | exact IsV.bool rfl | exact IsV.slice rfl | exact IsV.pointer rfl | exact IsV.string rfl | exact IsV.map rfl | exact IsV.func rfl)); (case hv => rfl); (case hi => omega); (case hd => exact rfl); clear hS; intro w hS))
        | ((fail_if_success (with_reducible show wpList _ _ _ (_ :: _) _ _)); go_step))
      go_roundg (gk - 1)
      case measure => omega
      case rel =>
        refine ⟨i + 1, _, by omega, by go_num, fun p hp h => ?_, hS.sub (by (repeat (first | exact Sub.nil | with_reducible exact Sub.refl | (refine Sub.cons (by (repeat (first | with_reducible exact Pull.head | apply Pull.tail))) ?_) | apply Sub.skip)))⟩
        rw [nth_set o _ p _ (by omega)]
        split
        · rename_i e; congr 1; omega
        · rename_i e; exact HO.out p hp (by have h9 : p % 8 * 8 + p / 8 < i + 1 := h; omega)
    · obtain rfl : i = 64 := by omega
      have lo : Len o 64 := hol
      have hw : o = acrL b := tab_of hol fun p hp => HO.out p hp (by omega)
      have HW := hid hw
      clear hw
      repeat' (first
        | go_skip
        | go_big_skip
        | ((with_reducible show wpList _ _ _ (⟨_, .move _, _, _, _, _⟩ :: _) _ _); (first | go_big_want | go_step); go_step)
        | ((with_reducible show wpList _ _ _ (⟨_, .assign _, _, _, _, _⟩ :: _) _ _); (first | go_big_want | go_step); go_step)
        | ((with_reducible show wpList _ _ _ (⟨_, .pick _ _ _, _, _, _, _⟩ :: _) _ _); first | (refine wplPickT rfl (by kernel_rfl) ?_; go_step) | (refine wplPickF rfl (by kernel_rfl) ?_; go_step))
        | ((with_reducible show wpList _ _ _ (⟨_, .binOp .lss _ _ _ _, _, _, _, _⟩ :: _) _ _); first | (refine wplV _ (V.lss rfl rfl) (by kernel_rfl) ?_; go_step))
        | ((with_reducible show wpList _ _ _ (⟨some 9, .index 31 _ _, _, _, _, _⟩ :: _) _ _); first | (refine wplV _ (V.indexIv Try.underlying31 Try.underlying3 isz3 rfl rfl (by (repeat (first | assumption | exact Len.rep | apply Len.set))) (by (repeat (first | exact IsN.auto | apply IsN.add | apply IsN.mul | apply IsN.div | apply IsN.mod | apply IsN.min | apply IsN.max | apply IsN.sub | (with_reducible show (_ : Nat) ≤ _; omega) | exact IsN.toNat (by omega)))) (by omega)) (by kernel_rfl) ?_; go_step))
        | ((with_reducible show wpList _ _ _ (⟨_, .binOp .rem _ _ _ _, _, _, _, _⟩ :: _) _ _); first | (refine wplV _ (V.rem rfl rfl (by omega) (by omega)) (by kernel_rfl) ?_; go_step) | (refine wplV _ (V.remT rfl rfl (by omega)) (by kernel_rfl) ?_; go_step))
        | ((with_reducible show wpList _ _ _ (⟨_, .binOp .mul _ _ _ _, _, _, _, _⟩ :: _) _ _); first | (refine wplV _ (V.mulI rfl rfl (by omega)) (by kernel_rfl) ?_; go_step) | (refine wplV _ (V.mulR (by decide) rfl rfl) (by kernel_rfl) ?_; go_step))
        | ((with_reducible show wpList _ _ _ (⟨_, .binOp .quo _ _ _ _, _, _, _, _⟩ :: _) _ _); first | (refine wplV _ (V.quo rfl rfl (by omega) (by omega)) (by kernel_rfl) ?_; go_step) | (refine wplV _ (V.quoT rfl rfl (by omega)) (by kernel_rfl) ?_; go_step))
        | ((with_reducible show wpList _ _ _ (⟨_, .binOp .add _ _ _ _, _, _, _, _⟩ :: _) _ _); first | (refine wplV _ (V.addI rfl rfl (by omega)) (by kernel_rfl) ?_; go_step) | (refine wplV _ (V.addR (by decide) rfl rfl) (by kernel_rfl) ?_; go_step))
        | ((with_reducible show wpList _ _ _ (⟨some 17, .indexAddr 31 _ _, _, _, _, _⟩ :: _) _ _); first | (refine wplV _ (V.indexAr Try.underlying31 isz3 rfl rfl (by (repeat (first | exact IsN.auto | apply IsN.add | apply IsN.mul | apply IsN.div | apply IsN.mod | apply IsN.min | apply IsN.max | apply IsN.sub | (with_reducible show (_ : Nat) ≤ _; omega) | exact IsN.toNat (by omega)))) (by omega) (Nat.mul_one _) (by first | with_reducible exact Nat.zero_add _ | with_reducible exact Nat.add_zero _ | exact rfl)) (by kernel_rfl) ?_; go_step))
        | ((with_reducible show wpList _ _ _ (⟨_, .store 3 _ _, _, _, _, _⟩ :: _) _ _); first | (refine wpl (by kernel_rfl) ?_; apply wp_store1A hS 3 _ _ rfl _ _ rfl (one_of rfl) _ _; (case hp => (repeat (first | with_reducible exact Pull.head | apply Pull.tail))); (case hy => rfl); (case hi => omega); (case hd => exact rfl); clear hS; intro w hS) | (refine wpl (by kernel_rfl) ?_; apply wp_store1 hS 3 _ _ rfl _ _ rfl (one_of rfl) _ _; (case hp => (repeat (first | with_reducible exact Pull.head | apply Pull.tail))); (case hy => (first | exact IsV.int rfl | exact IsV.bool rfl | exact IsV.slice rfl | exact IsV.pointer rfl | exact IsV.string rfl | exact IsV.map rfl | exact IsV.func rfl)); (case hv => rfl); (case hc => (repeat (first | with_reducible exact SetAt.head | apply SetAt.tail))); (case hd => exact rfl); clear hS; intro w hS) | (refine wpl (by kernel_rfl) ?_; apply wp_store1OI hS 3 _ _ rfl _ _ rfl (one_of rfl) _ _ _ _ _; (case hp => (repeat (first | with_reducible exact Pull.head | apply Pull.tail))); (case hy => rfl); (case hi => omega); (case hd => exact rfl); clear hS; intro w hS) | (refine wpl (by kernel_rfl) ?_; apply wp_store1O hS 3 _ _ rfl _ _ rfl (one_of rfl) _ _ _ _ _; (case hp => (repeat (first | with_reducible exact Pull.head | apply Pull.tail))); (case hy => (first | exact IsV.int rfl | exact IsV.bool rfl | exact IsV.slice rfl | exact IsV.pointer rfl | exact IsV.string rfl | exact IsV.map rfl | exact IsV.func rfl)); (case hv => rfl); (case hi => omega); (case hd => exact rfl); clear hS; intro w hS))
        | ((with_reducible show wpList _ _ _ (⟨_, .load 31 _, _, _, _, _⟩ :: _) _ _); first | (refine wpl (by kernel_rfl) ?_; apply wp_loadRI hS 31 _ rfl _ _ rfl 64 (row_of rfl) _; (case hl => with_reducible assumption); (case hr => with_reducible assumption); refine put_move ?_; go_step) | (refine wpl (by kernel_rfl) ?_; apply wp_loadRO hS 31 _ rfl _ _ rfl 64 (row_of rfl) _ _ _ _ _; (case hp => (repeat (first | with_reducible exact Pull.head | apply Pull.tail))); (case hi => omega); refine put_move ?_; go_step) | (refine wpl (by kernel_rfl) ?_; apply wp_loadA hS 31 _ rfl _ rfl 64 (row_of rfl) _; (case hp => (repeat (first | with_reducible exact Pull.head | apply Pull.tail))); refine put_move ?_; go_step) | (refine wpl (by kernel_rfl) ?_; apply wp_loadG hS 31 _ rfl _ rfl 64 (row_of rfl) _; (case hp => (repeat (first | with_reducible exact Pull.head | apply Pull.tail))); (case hn => rfl); refine put_move ?_; go_step) | (refine wpl (by kernel_rfl) ?_; apply wp_loadRW hS 31 _ rfl _ _ rfl 64 (row_of rfl) _; (case hc => with_reducible assumption); (case hn => rfl); refine put_move ?_; go_step))
        | ((with_reducible show wpList _ _ _ (⟨_, .store 31 _ _, _, _, _, _⟩ :: _) _ _); first | (refine wpl (by kernel_rfl) ?_; apply wp_storeA hS 31 _ _ rfl _ rfl 64 (row_of rfl) _ _; (case hp => (repeat (first | with_reducible exact Pull.head | apply Pull.tail))); (case hy => rfl); (case hm => (repeat (first | assumption | exact Len.rep | apply Len.set))); (case hd => exact rfl); clear hS; intro w hS) | (refine wpl (by kernel_rfl) ?_; apply wp_storeG hS 31 _ _ rfl _ rfl 64 (row_of rfl) _ _; (case hp => (repeat (first | with_reducible exact Pull.head | apply Pull.tail))); (case hy => rfl); (case hn => rfl); (case hn' => rfl); (case hv => rfl); (case hd => exact rfl); clear hS; intro w hS))
        | ((fail_if_success (with_reducible show wpList _ _ _ (_ :: _) _ _)); go_step))
      refine ret_one rfl (OneRes.arr hS rfl (row_of (n := 64) rfl) (by (repeat (first | with_reducible exact Pull.head | apply Pull.tail)))) rfl ?_
      exact ⟨by rw [HW.out], hS.1⟩
theorem waved_any (w0 : World) : Calls Try.prog 18 #[] w0 fun e w => e = .returned (.bool true) ∧ Ext w0 w := by
  have hS := St.start w0
  have F1 := hid (show wvE (List.replicate 64 100) = 0 by decide +kernel)
  have F2 := hid (show basV 1 7 = -4017 by decide +kernel)
  obtain ⟨o, ho⟩ : ∃ o, wTo (List.replicate 64 100) = o := ⟨_, rfl⟩
  have F3 : nth o 0 = 800 := by rw [← ho]; decide +kernel
  have F4 : nth o 1 = 0 := by rw [← ho]; decide +kernel
  have hl : Len o 64 := ho ▸ wvR_len _ _
  have HO := hid ho
  clear ho
  go_enter Try.func18, Try.ntmps18
  repeat' (first
    | ((with_reducible show wpList _ _ _ (⟨_, .call ⟨.value (.func 22), _, _⟩, _, _, _, _⟩ :: _) _ _); refine wpl_call (f := 22) Try.call22 rfl ?_; refine ⟨_, (ones_any _ 100), ?_⟩; rintro e w ⟨rfl, hE⟩; replace hS := hS.ext hE; clear hE; refine ⟨_, rfl, ?_⟩; refine put_move ?_; go_step)
    | ((with_reducible show wpList _ _ _ (⟨_, .call ⟨.value (.func 19), _, _⟩, _, _, _, _⟩ :: _) _ _); refine wpl_call (f := 19) Try.call19 rfl ?_; refine ⟨_, (wTo_any _ (List.replicate 64 100) Len.rep), ?_⟩; rintro e w ⟨rfl, hE⟩; replace hS := hS.ext hE; clear hE; rw [F1.out, HO.out]; refine ⟨_, rfl, ?_⟩; refine put_move ?_; go_step)
    | ((with_reducible show wpList _ _ _ (⟨_, .call ⟨.value (.func 21), _, _⟩, _, _, _, _⟩ :: _) _ _); refine wpl_call (f := 21) Try.call21 rfl ?_; refine ⟨_, (Basis_any _ 1 7 (by omega) (by omega)), ?_⟩; rintro e w ⟨rfl, hE⟩; replace hS := hS.ext hE; clear hE; rw [F2.out]; refine ⟨_, rfl, ?_⟩; refine put_move ?_; go_step)
    | go_skip
    | go_big_skip
    | ((with_reducible show wpList _ _ _ (⟨_, .move _, _, _, _, _⟩ :: _) _ _); (first | go_big_want | go_step); go_step)
    | ((with_reducible show wpList _ _ _ (⟨_, .assign _, _, _, _, _⟩ :: _) _ _); (first | go_big_want | go_step); go_step)
    | ((with_reducible show wpList _ _ _ (⟨_, .pick _ _ _, _, _, _, _⟩ :: _) _ _); first | (refine wplPickT rfl (by kernel_rfl) ?_; go_step) | (refine wplPickF rfl (by kernel_rfl) ?_; go_step))
    | ((with_reducible show wpList _ _ _ (⟨some 15, .binOp .eql 25 _ _ _, _, _, _, _⟩ :: _) _ _); first | (refine wplD _ (V.eql rfl rfl) (by kernel_rfl) (fun hB => ?_) (fun hB => ?_) <;> (try (have hF : False := (by omega); cases hF)) <;> go_step) | (refine wplB _ (V.eql rfl rfl) (by kernel_rfl) (fun hB => ?_) (fun hB => ?_) <;> go_step))
    | ((with_reducible show wpList _ _ _ (⟨some 19, .binOp .eql 3 _ _ _, _, _, _, _⟩ :: _) _ _); first | (refine wplD _ (V.eql rfl rfl) (by kernel_rfl) (fun hB => ?_) (fun hB => ?_) <;> (try (have hF : False := (by omega); cases hF)) <;> go_step) | (refine wplB _ (V.eql rfl rfl) (by kernel_rfl) (fun hB => ?_) (fun hB => ?_) <;> go_step))
    | ((with_reducible show wpList _ _ _ (⟨some 24, .binOp .eql 3 _ _ _, _, _, _, _⟩ :: _) _ _); first | (refine wplD _ (V.eql rfl rfl) (by kernel_rfl) (fun hB => ?_) (fun hB => ?_) <;> (try (have hF : False := (by omega); cases hF)) <;> go_step) | (refine wplB _ (V.eql rfl rfl) (by kernel_rfl) (fun hB => ?_) (fun hB => ?_) <;> go_step))
    | ((with_reducible show wpList _ _ _ (⟨some 28, .binOp .eql 25 _ _ _, _, _, _, _⟩ :: _) _ _); first | (refine wplD _ (V.eql rfl rfl) (by kernel_rfl) (fun hB => ?_) (fun hB => ?_) <;> (try (have hF : False := (by omega); cases hF)) <;> go_step) | (refine wplB _ (V.eql rfl rfl) (by kernel_rfl) (fun hB => ?_) (fun hB => ?_) <;> go_step))
    | ((with_reducible show wpList _ _ _ (⟨_, .extract _ _, _, _, _, _⟩ :: _) _ _); first | (refine wplV _ (V.extract rfl rfl) (by kernel_rfl) ?_; go_step))
    | ((with_reducible show wpList _ _ _ (⟨some 17, .indexAddr 31 _ _, _, _, _, _⟩ :: _) _ _); first | (refine wplV _ (V.indexAr Try.underlying31 isz3 rfl rfl (show IsN 0 0 from rfl) (by omega) (show 0 * 1 = 0 from rfl) (by first | with_reducible exact Nat.zero_add _ | with_reducible exact Nat.add_zero _ | exact rfl)) (by kernel_rfl) ?_; go_step))
    | ((with_reducible show wpList _ _ _ (⟨some 22, .indexAddr 31 _ _, _, _, _, _⟩ :: _) _ _); first | (refine wplV _ (V.indexAr Try.underlying31 isz3 rfl rfl (show IsN 1 1 from rfl) (by omega) (show 1 * 1 = 1 from rfl) (by first | with_reducible exact Nat.zero_add _ | with_reducible exact Nat.add_zero _ | exact rfl)) (by kernel_rfl) ?_; go_step))
    | ((with_reducible show wpList _ _ _ (⟨_, .binOp .eql 3 _ _ _, _, _, _, _⟩ :: _) _ _); first | (refine wplV _ (V.eql rfl rfl) (by kernel_rfl) ?_; go_step))
    | ((with_reducible show wpList _ _ _ (⟨some 1, .alloc 31, _, _, _, _⟩ :: _) _ _); first | (refine wpl (by kernel_rfl) ?_; apply wp_allocA (o := ⟨some 1, _, _, _, _, _⟩) hS 31 rfl (List.replicate 64 0) 64 List.length_replicate za31; clear hS; intro g1 w hS; refine put_move ?_; go_step))
    | ((with_reducible show wpList _ _ _ (⟨_, .store 31 _ _, _, _, _, _⟩ :: _) _ _); first | (refine wpl (by kernel_rfl) ?_; apply wp_storeA hS 31 _ _ rfl _ rfl 64 (row_of rfl) _ _; (case hp => (repeat (first | with_reducible exact Pull.head | apply Pull.tail))); (case hy => rfl); (case hm => (repeat (first | assumption | exact Len.rep | apply Len.set))); (case hd => exact rfl); clear hS; intro w hS) | (refine wpl (by kernel_rfl) ?_; apply wp_storeG hS 31 _ _ rfl _ rfl 64 (row_of rfl) _ _; (case hp => (repeat (first | with_reducible exact Pull.head | apply Pull.tail))); (case hy => rfl); (case hn => rfl); (case hn' => rfl); (case hv => rfl); (case hd => exact rfl); clear hS; intro w hS))
    | ((with_reducible show wpList _ _ _ (⟨_, .load 3 _, _, _, _, _⟩ :: _) _ _); first | (refine wpl (by kernel_rfl) ?_; apply wp_load1A hS 3 _ rfl _ _ rfl (one_of rfl) _ _; (case hp => (repeat (first | with_reducible exact Pull.head | apply Pull.tail))); (case hi => omega); refine put_move ?_; go_step) | (refine wpl (by kernel_rfl) ?_; apply wp_load1OI hS 3 _ rfl _ _ rfl (one_of rfl) _ _ _ _ _; (case hp => (repeat (first | with_reducible exact Pull.head | apply Pull.tail))); (case hi => omega); refine put_move ?_; go_step) | (refine wpl (by kernel_rfl) ?_; apply wp_load1 hS 3 _ rfl _ _ rfl (one_of rfl) _; (case hp => (repeat (first | with_reducible exact Pull.head | apply Pull.tail))); (case hc => rfl); refine put_move ?_; go_step) | (refine wpl (by kernel_rfl) ?_; apply wp_load1O hS 3 _ rfl _ _ rfl (one_of rfl) _ _ _ _ _; (case hp => (repeat (first | with_reducible exact Pull.head | apply Pull.tail))); (case hv => with_reducible assumption); refine put_move ?_; go_step) | (refine wpl (by kernel_rfl) ?_; apply wp_loadW hS 3 _ rfl _ rfl (one_of rfl) _; (case hc => with_reducible assumption); refine put_move ?_; go_step) | (refine wpl (by kernel_rfl) ?_; apply wp_load1R hS 3 _ rfl _ _ _ rfl (one_of rfl) _ _; (case hl => with_reducible assumption); (case hr => with_reducible assumption); (case hf => omega); refine put_move ?_; go_step) | (refine wpl (by kernel_rfl) ?_; apply wp_load1R0 hS 3 _ rfl _ _ rfl (one_of rfl) _ _; (case hl => with_reducible assumption); (case hr => with_reducible assumption); (case hf => omega); refine put_move ?_; go_step))
    | ((fail_if_success (with_reducible show wpList _ _ _ (_ :: _) _ _)); go_step))
  all_goals (go_ret; first | exact ⟨rfl, hS.1⟩ | exact ⟨ret_bool (by simp), hS.1⟩)
theorem wvR_bd (cf : Int → Int → Int) (hc : ∀ i k : Int, -4096 ≤ cf i k ∧ cf i k ≤ 4096) (b : List Int) (i : Nat) : -43000000000000 ≤ nth (wvR cf b) i ∧ nth (wvR cf b) i ≤ 43000000000000 := by
  cases h : wvOk b
  · rw [nth_wvR0 _ _ h]; omega
  · by_cases hi : i < 64
    · rw [wvR, if_pos h, nth_tab _ _ _ hi, wvV]
      have h1 := alL_bd (alL b cf) cf hc _ (alL_bd b cf hc 40000 (ok_bd h)) i
      exact rnd_bounds _ _ 43000000000000 (by omega) (by omega) (by omega)
    · have := wvR_len cf b; rw [nth_out _ _ (by rw [this.out]; omega)]; omega
theorem wvOk_cases (b : List Int) : wvOk b = true ∧ wvE b = 0 ∨ wvOk b = false ∧ wvE b = 1 := by
  unfold wvE; cases h : wvOk b
  · exact .inr ⟨rfl, rfl⟩
  · exact .inl ⟨rfl, rfl⟩
end Go.Proofs.Ytgnpppcljpjkjaa
