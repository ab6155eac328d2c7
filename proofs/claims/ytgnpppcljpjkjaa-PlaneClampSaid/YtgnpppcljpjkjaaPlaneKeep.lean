/- The closed fact of the laws on planes. -/
import Derived.Test.YtgnpppcljpjkjaaPlane2
namespace Go.Proofs.Ytgnpppcljpjkjaa
open Go.RowKit
set_option linter.unusedVariables false
/-- Cut, where all is in its bounds. -/
theorem cutOk_any (w0 : World) (ad : Option Addr) (n c : Nat) (l : List Int) (m h : Int) (K : Nat) (hm64 : -9223372036854775808 ≤ m ∧ m ≤ 9223372036854775807) (hn : n ≤ 100000) (hv : Sl w0 1 (.slice ad n c) n (l.map (Value.int .i64))) (hE : cutE l n m h = 0) (hK : manyN m h = K) :
    Calls Try.prog 17 #[.slice ad n c, .int .i64 m, .int .i64 h] w0 fun e w => ∃ ad c, e = .returned (.tuple #[.slice ad K c, .int .i64 0]) ∧ St w0 w [own 31 64 ad K c ((cutL l m h).map (Value.int .i64))] :=
  (cut_any w0 ad n c l m h hm64 hn hv rfl).mono fun e w ⟨ad2, c2, h1, h2⟩ => by
    rw [if_pos hE, hE, hK] at h1
    rw [if_pos hE, if_pos hE, hK] at h2
    exact ⟨ad2, c2, h1, h2⟩
theorem Many_ok (w0 : World) (m n : Int) (hok : 1 ≤ m ∧ m ≤ 64 ∧ 1 ≤ n ∧ n ≤ 64) (K : Int) (hK : (m + 7) / 8 * ((n + 7) / 8) = K) : Calls Try.prog 31 #[.int .i64 m, .int .i64 n] w0 fun e w' => e = .returned (.tuple #[.int .i64 K, .int .i64 0]) ∧ Ext w0 w' :=
  (Many_any w0 m n).mono fun e w ⟨h1, h2⟩ => by rw [if_pos hok, if_pos hok, hK] at h1; exact ⟨h1, h2⟩
theorem planed_any (w0 : World) : Calls Try.prog 15 #[] w0 fun e w' => e = .returned (.bool true) ∧ Ext w0 w' := by
  have hS := St.start w0
  have F1 := hid (show cutE [5] 1 1 1 = 0 by decide +kernel)
  have F2 := hid (show manyN 1 1 = 1 by decide +kernel)
  obtain ⟨o, ho⟩ : ∃ o, cutL [5] 1 1 = o := ⟨_, rfl⟩
  have F3 : nth o 63 = -123 := by rw [← ho]; decide +kernel
  have HO := hid ho
  clear ho
  go_enter Try.func15, Try.ntmps15
  repeat' (first
    | ((with_reducible show wpList _ _ _ (⟨_, .call ⟨.value (.func 17), _, _⟩, _, _, _, _⟩ :: _) _ _); refine wpl_call (f := 17) Try.call17 rfl ?_; refine ⟨_, (cutOk_any _ _ 1 _ [5] 1 1 1 (by omega) (by omega) (show Sl _ 1 _ 1 [.int .i64 5] from hS.slBlk (n := 1) (by (repeat (first | with_reducible exact Pull.head | apply Pull.tail))) (by rfl) (by decide)) F1.out F2.out), ?_⟩; rintro e w ⟨ad, c, rfl, hS2⟩; replace hS := hS.call1 hS2; clear hS2; rw [HO.out] at hS; refine ⟨_, rfl, ?_⟩; refine put_move ?_; go_step)
    | ((with_reducible show wpList _ _ _ (⟨_, .call ⟨.value (.func 31), _, _⟩, _, _, _, _⟩ :: _) _ _); refine wpl_call (f := 31) Try.call31 rfl ?_; refine ⟨_, (Many_ok _ 9 8 (by omega) 2 (by decide)), ?_⟩; rintro e w ⟨rfl, hE⟩; replace hS := hS.ext hE; clear hE; refine ⟨_, rfl, ?_⟩; refine put_move ?_; go_step)
    | go_skip
    | go_big_skip
    | ((with_reducible show wpList _ _ _ (⟨_, .move _, _, _, _, _⟩ :: _) _ _); (first | go_big_want | go_step); go_step)
    | ((with_reducible show wpList _ _ _ (⟨_, .assign _, _, _, _, _⟩ :: _) _ _); (first | go_big_want | go_step); go_step)
    | ((with_reducible show wpList _ _ _ (⟨_, .pick _ _ _, _, _, _, _⟩ :: _) _ _); first | (refine wplPickT rfl (by kernel_rfl) ?_; go_step) | (refine wplPickF rfl (by kernel_rfl) ?_; go_step))
    | ((with_reducible show wpList _ _ _ (⟨some 15, .binOp .eql 25 _ _ _, _, _, _, _⟩ :: _) _ _); first | (refine wplD _ (V.eql rfl rfl) (by kernel_rfl) (fun hB => ?_) (fun hB => ?_) <;> (try (have hF : False := (by omega); cases hF)) <;> go_step) | (refine wplB _ (V.eql rfl rfl) (by kernel_rfl) (fun hB => ?_) (fun hB => ?_) <;> go_step))
    | ((with_reducible show wpList _ _ _ (⟨some 19, .binOp .eql 3 _ _ _, _, _, _, _⟩ :: _) _ _); first | (refine wplD _ (V.eql rfl rfl) (by kernel_rfl) (fun hB => ?_) (fun hB => ?_) <;> (try (have hF : False := (by omega); cases hF)) <;> go_step) | (refine wplB _ (V.eql rfl rfl) (by kernel_rfl) (fun hB => ?_) (fun hB => ?_) <;> go_step))
    | ((with_reducible show wpList _ _ _ (⟨some 26, .binOp .eql 3 _ _ _, _, _, _, _⟩ :: _) _ _); first | (refine wplD _ (V.eql rfl rfl) (by kernel_rfl) (fun hB => ?_) (fun hB => ?_) <;> (try (have hF : False := (by omega); cases hF)) <;> go_step) | (refine wplB _ (V.eql rfl rfl) (by kernel_rfl) (fun hB => ?_) (fun hB => ?_) <;> go_step))
    | ((with_reducible show wpList _ _ _ (⟨some 30, .binOp .eql 25 _ _ _, _, _, _, _⟩ :: _) _ _); first | (refine wplD _ (V.eql rfl rfl) (by kernel_rfl) (fun hB => ?_) (fun hB => ?_) <;> (try (have hF : False := (by omega); cases hF)) <;> go_step) | (refine wplB _ (V.eql rfl rfl) (by kernel_rfl) (fun hB => ?_) (fun hB => ?_) <;> go_step))
    | ((with_reducible show wpList _ _ _ (⟨_, .extract _ _, _, _, _, _⟩ :: _) _ _); first | (refine wplV _ (V.extract rfl rfl) (by kernel_rfl) ?_; go_step))
    | ((with_reducible show wpList _ _ _ (⟨_, .call ⟨.builtin .len, _, _⟩, _, _, _, _⟩ :: _) _ _); first | (refine wplV _ (V.len Try.underlying22 rfl) (by kernel_rfl) ?_; go_step))
    | ((with_reducible show wpList _ _ _ (⟨some 23, .indexAddr 22 _ _, _, _, _, _⟩ :: _) _ _); first | (refine wplV _ (V.indexSl Try.underlying22 isz31 rfl rfl (show IsN 0 0 from rfl) (by omega) (show 0 * 64 = 0 from rfl) (by first | with_reducible exact Nat.zero_add _ | with_reducible exact Nat.add_zero _ | exact rfl)) (by kernel_rfl) ?_; go_step) | (refine wpl_indexS (by with_reducible assumption) Try.underlying22 isz31 rfl rfl (show IsN 0 0 from rfl) (by omega) rfl ?_; intro b23 o23 hl23 hc23; go_step) | (refine wpl_indexW (by with_reducible assumption) Try.underlying22 isz31 rfl rfl (show IsN 0 0 from rfl) (by omega) rfl ?_; intro b23 o23 hc23; go_step) | (refine wpl_indexO hS rfl (by (repeat (first | with_reducible exact Pull.head | apply Pull.tail))) Try.underlying22 isz31 rfl (show IsN 0 0 from rfl) (by omega) (show 0 * 64 = 0 from rfl) rfl ?_; (first | (rintro b23 rfl) | (intro b23 hb23; cases hb23)); go_step))
    | ((with_reducible show wpList _ _ _ (⟨some 24, .indexAddr 31 _ _, _, _, _, _⟩ :: _) _ _); first | (refine wplV _ (V.indexAr Try.underlying31 isz3 rfl rfl (show IsN 63 63 from rfl) (by omega) (show 63 * 1 = 63 from rfl) (by first | with_reducible exact Nat.zero_add _ | with_reducible exact Nat.add_zero _ | exact rfl)) (by kernel_rfl) ?_; go_step))
    | ((with_reducible show wpList _ _ _ (⟨_, .binOp .eql 3 _ _ _, _, _, _, _⟩ :: _) _ _); first | (refine wplV _ (V.eql rfl rfl) (by kernel_rfl) ?_; go_step))
    | ((with_reducible show wpList _ _ _ (⟨some 6, .buildSlice 24 _ _, _, _, _, _⟩ :: _) _ _); first | (refine wpl (by kernel_rfl) ?_; apply wp_buildSlice1 (o := ⟨some 6, _, _, _, _, _⟩) hS 24 1 _ rfl 3 1 8 el24 _ _; (case hvs => (repeat (first | exact Parts.nil | (apply Parts.agg; (rfl); (rfl)) | (apply Parts.one; (first | exact IsV.int rfl | exact IsV.bool rfl | exact IsV.slice rfl | exact IsV.pointer rfl | exact IsV.string rfl | exact IsV.map rfl | exact IsV.func rfl); (rfl); (rfl))))); (case hn => rfl); (case hn0 => decide); (case hns => decide); clear hS; intro g6 w hS; refine put_move ?_; go_step))
    | ((with_reducible show wpList _ _ _ (⟨_, .load 3 _, _, _, _, _⟩ :: _) _ _); first | (refine wpl (by kernel_rfl) ?_; apply wp_load1A hS 3 _ rfl _ _ rfl (one_of rfl) _ _; (case hp => (repeat (first | with_reducible exact Pull.head | apply Pull.tail))); (case hi => omega); refine put_move ?_; go_step) | (refine wpl (by kernel_rfl) ?_; apply wp_load1OI hS 3 _ rfl _ _ rfl (one_of rfl) _ _ _ _ _; (case hp => (repeat (first | with_reducible exact Pull.head | apply Pull.tail))); (case hi => omega); refine put_move ?_; go_step) | (refine wpl (by kernel_rfl) ?_; apply wp_load1 hS 3 _ rfl _ _ rfl (one_of rfl) _; (case hp => (repeat (first | with_reducible exact Pull.head | apply Pull.tail))); (case hc => rfl); refine put_move ?_; go_step) | (refine wpl (by kernel_rfl) ?_; apply wp_load1O hS 3 _ rfl _ _ rfl (one_of rfl) _ _ _ _ _; (case hp => (repeat (first | with_reducible exact Pull.head | apply Pull.tail))); (case hv => with_reducible assumption); refine put_move ?_; go_step) | (refine wpl (by kernel_rfl) ?_; apply wp_loadW hS 3 _ rfl _ rfl (one_of rfl) _; (case hc => with_reducible assumption); refine put_move ?_; go_step) | (refine wpl (by kernel_rfl) ?_; apply wp_load1R hS 3 _ rfl _ _ _ rfl (one_of rfl) _ _; (case hl => with_reducible assumption); (case hr => with_reducible assumption); (case hf => omega); refine put_move ?_; go_step) | (refine wpl (by kernel_rfl) ?_; apply wp_load1R0 hS 3 _ rfl _ _ rfl (one_of rfl) _ _; (case hl => with_reducible assumption); (case hr => with_reducible assumption); (case hf => omega); refine put_move ?_; go_step))
    | ((fail_if_success (with_reducible show wpList _ _ _ (_ :: _) _ _)); go_step))
  all_goals (go_ret; first | exact ⟨rfl, hS.1⟩ | (exfalso; omega) | exact ⟨ret_bool (decide_eq_true (by omega)), hS.1⟩)
end Go.Proofs.Ytgnpppcljpjkjaa
