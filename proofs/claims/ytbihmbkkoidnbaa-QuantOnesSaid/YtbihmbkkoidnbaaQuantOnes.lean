/- The law QuantOnes: its walk, and the statement. -/
import Derived.Test.YtbihmbkkoidnbaaScale
import Derived.Test.YtbihmbkkoidnbaaOpen
import Derived.Test.YtbihmbkkoidnbaaDraw2
namespace Go.Proofs.Ytbihmbkkoidnbaa
open Go.ChangeShapes Go.WideShapes Go.ChangeAt Go.RowKit
set_option linter.unusedVariables false
theorem sc_100 (n : Int) (h0 : 1 ≤ n) (h1 : n ≤ 255) : sc n 100 = n := by
  unfold sc
  rw [rnd_mul n 100 (by omega)]
  omega
theorem scR_100 (q : List Int) (hq : q.length = 64) (hk : qOk q = true) : scR q 100 = q := by
  rw [scR, if_pos ⟨hk, by omega, by omega⟩]
  apply List.ext_getElem (by simp)
  intro i h1 h2
  have := (allIn_iff _ _ _).1 hk i h2
  simp only [nth, List.getD, List.getElem?_eq_getElem h2, Option.getD_some] at this
  rw [List.getElem_map]
  exact sc_100 _ this.1 this.2
theorem rnd_one (n : Int) : rnd n 1 = n := by have := rnd_mul n 1 (by omega); rwa [Int.mul_one] at this
/-- '!=' of blocks, as an operation. -/
theorem wp_neqBlock {w : World} {Q : Exit → Act → World → Prop} {K : Act → World → Prop} {o : Oper} {a : Act} (x y : Operand) (u : TypeId) (ho : o.op = .binOp .neq 23 x y u) (l m : List Int) (hx : a.eval x = .agg (iv l)) (hy : a.eval y = .agg (iv m))
    (hl : Len l 64) (hm : Len m 64) (r : Bool) (hr : (!(l == m)) = r) (h : K (a.put o.dst (.bool r)) w) : o.wp Try.prog a w K Q := by
  have hq := eqBlock w l m hl hm (l == m) rfl
  unfold Oper.wp execOp
  rw [ho]
  simp only [hx, hy]
  simp [go_sem, hq]
  rw [← hr] at h
  exact h
theorem ones_ok : qOk (rep 1) = true := by decide +kernel
/-- What a block is after Down by 1. -/
theorem ones_down (b : List Int) (hb : b.length = 64) (h : downE b (rep 1) = 0) (i : Nat) (hi : i < 64) (h1 : max (nth b i) (-(nth b i)) ≤ 2047) : nth (downR b (rep 1)) i = nth b i := by
  rcases downE_cases b (rep 1) with ⟨-, -, hin, hr⟩ | ⟨hd, -⟩
  · rw [hr, zip2_get _ _ _ hb (rep_len 1) i hi, rep_get 1 i hi, dn, rnd_one]; omega
  · omega
theorem ones_in (b : List Int) (hb : b.length = 64) (h : downE b (rep 1) = 0) (i : Nat) : -40000 ≤ nth b i ∧ nth b i ≤ 40000 := by
  by_cases hi : i < 64
  case neg => have : nth b i = 0 := by simp [nth, List.getD, List.getElem?_eq_none (show b.length ≤ i by omega)]
              omega
  rcases downE_cases b (rep 1) with ⟨-, -, hin, hr⟩ | ⟨hd, -⟩
  · exact (allIn_iff _ _ _).1 hin i (by omega)
  · omega
def scN (q : List Int) : Int := scE q 100
def ckN (q : List Int) : Int := if qOk q then 0 else 1
theorem sc_ck (q : List Int) (hq : q.length = 64) : (scN q = 0 ∧ ckN q = 0 ∧ scR q 100 = q) ∨ (scN q = 1 ∧ ckN q = 1) := by
  unfold scN ckN
  by_cases hk : qOk q = true
  · left; exact ⟨by rw [scE, if_pos ⟨hk, by omega, by omega⟩], by rw [if_pos hk], scR_100 q hq hk⟩
  · right; exact ⟨by rw [scE, if_neg (fun h => hk h.1)], by rw [if_neg hk]⟩
set_option maxRecDepth 100000 in
set_option maxHeartbeats 4000000 in
theorem QuantOnes_walk {H : Type} {enc : TypeId × Value → H} {d0 d1 : DataW H} {p0 p1 : List MemPlace} {v0 v1 : Value} {base : Nat} (W : World)
    (o0 : Value.okWide Try.prog W .any base 23 v0) (h0 : DataW.Trod enc Try.prog W 0 (fun _ => true) true 23 v0 d0 p0) (lt0 : ∀ x ∈ p0, x.block < W.heap.size)
    (o1 : Value.okWide Try.prog W .any base 23 v1) (h1 : DataW.Trod enc Try.prog W 0 (fun _ => true) true 23 v1 d1 p1) (lt1 : ∀ x ∈ p1, x.block < W.heap.size)
    :
    Calls Try.prog 7 #[v0, v1] W fun e w' => e = .returned (.bool true) ∧ Ext W w' := by
  obtain ⟨b, hb, rfl, hbd⟩ := op_block o0
  obtain ⟨q, hq, rfl, hqd⟩ := op_block o1
  clear o0 h0 lt0 o1 h1 lt1
  have lb : Len b 64 := hb
  have lq : Len q 64 := hq
  have ld : Len (downR b (rep 1)) 64 := downR_len b _ hb (rep_len 1)
  have ls : Len (scR q 100) 64 := scR_len q 100 hq
  have HB := hid hb
  have HQ := hid hq
  have hS := St.start W
  have hc := sc_ck q hq
  have HR : Hid (scN q = 0 → scR q 100 = q) := fun h => by rcases hc with h1 | h1 <;> first | exact h1.2.2 | omega
  replace hc : scN q = 0 ∧ ckN q = 0 ∨ scN q = 1 ∧ ckN q = 1 := hc.imp (fun h => ⟨h.1, h.2.1⟩) id
  have HS : Hid (scE q 100 = scN q) := rfl
  have HK : Hid ((if qOk q = true then (0 : Int) else 1) = ckN q) := rfl
  generalize scN q = sc at *
  generalize ckN q = ck at *
  clear hb hq hqd hbd
  obtain ⟨de, hde⟩ : ∃ de, downE b (rep 1) = de := ⟨_, rfl⟩
  have HD := hid hde
  clear hde
  go_enter Try.func7, Try.ntmps7
  repeat' (first
    | ((with_reducible show wpList _ _ _ (⟨_, .call ⟨.value (.func 15), _, _⟩, _, _, _, _⟩ :: _) _ _); refine wpl_call (f := 15) Try.call15 rfl ?_; refine ⟨_, (coarse_any _), ?_⟩; rintro e w ⟨rfl, hE⟩; replace hS := hS.ext hE; clear hE; refine ⟨_, rfl, ?_⟩; refine put_move ?_; go_step)
    | go_skip
    | ((with_reducible show wpList _ _ _ (⟨_, _, _, _, _, some _⟩ :: _) _ _); (fail_if_success go_big_want); refine wplSkip rfl ?_; go_step)
    | ((with_reducible show wpList _ _ _ (⟨_, .move _, _, _, _, _⟩ :: _) _ _); (first | go_big_want | go_step); go_step)
    | ((with_reducible show wpList _ _ _ (⟨_, .assign _, _, _, _, _⟩ :: _) _ _); (first | go_big_want | go_step); go_step)
    | ((with_reducible show wpList _ _ _ (⟨_, .pick _ _ _, _, _, _, _⟩ :: _) _ _); first | (refine wplPickT rfl rfl ?_; go_step) | (refine wplPickF rfl rfl ?_; go_step))
    | ((with_reducible show wpList _ _ _ (⟨some 25, .binOp .eql 27 _ _ _, _, _, _, _⟩ :: _) _ _); first | (refine wplD _ (V.eql rfl rfl) rfl (fun h => ?_) (fun h => ?_) <;> (try (exfalso; omega)) <;> go_step) | (refine wplB _ (V.eql rfl rfl) rfl (fun h => ?_) (fun h => ?_) <;> go_step))
    | ((with_reducible show wpList _ _ _ (⟨some 50, .binOp .leq _ _ _ _, _, _, _, _⟩ :: _) _ _); first | (refine wplD _ (V.leq rfl rfl) rfl (fun h => ?_) (fun h => ?_) <;> (try (exfalso; omega)) <;> go_step) | (refine wplB _ (V.leq rfl rfl) rfl (fun h => ?_) (fun h => ?_) <;> go_step))
    | ((with_reducible show wpList _ _ _ (⟨_, .unOp .not _ _, _, _, _, _⟩ :: _) _ _); first | (refine wplV _ (V.notD rfl) rfl ?_; go_step) | (refine wplV _ (V.not rfl) rfl ?_; go_step))
    | ((with_reducible show wpList _ _ _ (⟨_, .extract _ _, _, _, _, _⟩ :: _) _ _); first | (refine wplV _ (V.extract rfl rfl) rfl ?_; go_step))
    | ((with_reducible show wpList _ _ _ (⟨_, .binOp .eql 27 _ _ _, _, _, _, _⟩ :: _) _ _); first | (refine wplV _ (V.eql rfl rfl) rfl ?_; go_step))
    | ((with_reducible show wpList _ _ _ (⟨_, .binOp .neq 4 _ _ _, _, _, _, _⟩ :: _) _ _); first | (refine wplV _ (V.neqBD Try.underlying4 rfl rfl) rfl ?_; go_step) | (refine wplV _ (V.neqB Try.underlying4 rfl rfl) rfl ?_; go_step))
    | ((with_reducible show wpList _ _ _ (⟨_, .binOp .neq 27 _ _ _, _, _, _, _⟩ :: _) _ _); first | (refine wplV _ (V.neq rfl rfl) rfl ?_; go_step))
    | ((with_reducible show wpList _ _ _ (⟨_, .binOp .lss _ _ _ _, _, _, _, _⟩ :: _) _ _); first | (refine wplV _ (V.lss rfl rfl) rfl ?_; go_step))
    | ((with_reducible show wpList _ _ _ (⟨some 45, .index 23 _ _, _, _, _, _⟩ :: _) _ _); first | (refine wplV _ (V.indexIv Try.underlying23 Try.underlying3 isz3 rfl rfl (by assumption) (by (repeat (first | with_reducible exact IsN.cast | apply IsN.add | apply IsN.mul | apply IsN.div | apply IsN.mod | with_reducible exact IsN.l1 |  with_reducible exact IsN.l2 |  with_reducible exact IsN.l3 |  with_reducible exact IsN.l4 |  with_reducible exact IsN.l8 |  with_reducible exact IsN.l16 |  with_reducible exact IsN.l7 |  with_reducible exact IsN.l0 |  with_reducible exact IsN.l5 |  with_reducible exact IsN.l6 |  with_reducible exact IsN.l9 |  with_reducible exact IsN.l10 |  with_reducible exact IsN.l11 |  with_reducible exact IsN.l12 |  with_reducible exact IsN.l13 |  with_reducible exact IsN.l14 |  with_reducible exact IsN.l15 |  with_reducible exact IsN.l63 |  with_reducible exact IsN.l64 |  with_reducible exact IsN.l127 |  with_reducible exact IsN.l128 |  with_reducible exact IsN.l255 |  with_reducible exact IsN.l256 | apply IsN.add | apply IsN.mul | apply IsN.div | apply IsN.mod | apply IsN.min | apply IsN.max | (refine IsN.sub ?_ ?_ (by omega)) | exact IsN.toNat (by omega)))) (by omega)) rfl ?_; go_step))
    | ((with_reducible show wpList _ _ _ (⟨_, .unOp .neg _ _, _, _, _, _⟩ :: _) _ _); first | (refine wplV _ (V.neg rfl (by omega)) rfl ?_; go_step))
    | ((with_reducible show wpList _ _ _ (⟨_, .call ⟨.builtin .max, _, _⟩, _, _, _, _⟩ :: _) _ _); first | (refine wplV _ (V.max rfl rfl) rfl ?_; go_step))
    | ((with_reducible show wpList _ _ _ (⟨some 53, .indexAddr 23 _ _, _, _, _, _⟩ :: _) _ _); first | (refine wplV _ (V.indexAr Try.underlying23 isz3 rfl rfl (by (repeat (first | with_reducible exact IsN.cast | apply IsN.add | apply IsN.mul | apply IsN.div | apply IsN.mod | with_reducible exact IsN.l1 |  with_reducible exact IsN.l2 |  with_reducible exact IsN.l3 |  with_reducible exact IsN.l4 |  with_reducible exact IsN.l8 |  with_reducible exact IsN.l16 |  with_reducible exact IsN.l7 |  with_reducible exact IsN.l0 |  with_reducible exact IsN.l5 |  with_reducible exact IsN.l6 |  with_reducible exact IsN.l9 |  with_reducible exact IsN.l10 |  with_reducible exact IsN.l11 |  with_reducible exact IsN.l12 |  with_reducible exact IsN.l13 |  with_reducible exact IsN.l14 |  with_reducible exact IsN.l15 |  with_reducible exact IsN.l63 |  with_reducible exact IsN.l64 |  with_reducible exact IsN.l127 |  with_reducible exact IsN.l128 |  with_reducible exact IsN.l255 |  with_reducible exact IsN.l256 | apply IsN.add | apply IsN.mul | apply IsN.div | apply IsN.mod | apply IsN.min | apply IsN.max | (refine IsN.sub ?_ ?_ (by omega)) | exact IsN.toNat (by omega)))) (by omega) (Nat.mul_one _) (by first | with_reducible exact Nat.zero_add _ | with_reducible exact Nat.add_zero _ | exact rfl)) rfl ?_; go_step))
    | ((with_reducible show wpList _ _ _ (⟨_, .binOp .neq 3 _ _ _, _, _, _, _⟩ :: _) _ _); first | (refine wplV _ (V.neq rfl rfl) rfl ?_; go_step))
    | ((with_reducible show wpList _ _ _ (⟨_, .binOp .add _ _ _ _, _, _, _, _⟩ :: _) _ _); first | (refine wplV _ (V.addI rfl rfl (by omega)) rfl ?_; go_step) | (refine wplV _ (V.addR (by decide) rfl rfl) rfl ?_; go_step))
    | ((with_reducible show wpList _ _ _ (⟨some 2, .box 23 _, _, _, _, _⟩ :: _) _ _); first | (refine wpl rfl (wp_boxA (o := ⟨some 2, _, _, _, _, _⟩) hS 23 _ rfl _ 64 rfl (by assumption) ?_); clear hS; intro g2 w hS; refine put_move ?_; go_step))
    | ((with_reducible show wpList _ _ _ (⟨some 3, .box 23 _, _, _, _, _⟩ :: _) _ _); first | (refine wpl rfl (wp_boxA (o := ⟨some 3, _, _, _, _, _⟩) hS 23 _ rfl _ 64 rfl (by assumption) ?_); clear hS; intro g3 w hS; refine put_move ?_; go_step))
    | ((with_reducible show wpList _ _ _ (⟨_, .load 23 _, _, _, _, _⟩ :: _) _ _); first | (refine wpl rfl (wp_loadA hS 23 _ rfl _ rfl 64 (row_of rfl) _ (by (repeat (first | with_reducible exact Pull.head | apply Pull.tail))) ?_); refine put_move ?_; go_step) | (refine wpl rfl (wp_loadG hS 23 _ rfl _ rfl 64 (row_of rfl) _ (by (repeat (first | with_reducible exact Pull.head | apply Pull.tail))) (by rfl) ?_); refine put_move ?_; go_step) | (refine wpl rfl (wp_loadRW hS 23 _ rfl _ _ rfl 64 (row_of rfl) _ (by with_reducible assumption) (by rfl) ?_); refine put_move ?_; go_step))
    | ((with_reducible show wpList _ _ _ (⟨some 5, .alloc 23, _, _, _, _⟩ :: _) _ _); first | (refine wpl rfl (wp_allocA (o := ⟨some 5, _, _, _, _, _⟩) hS 23 rfl (List.replicate 64 0) 64 List.length_replicate za23 ?_); clear hS; intro g5 w hS; refine put_move ?_; go_step))
    | ((with_reducible show wpList _ _ _ (⟨_, .store 23 _ _, _, _, _, _⟩ :: _) _ _); first | (refine wpl rfl (wp_storeA hS 23 _ _ rfl _ rfl 64 (row_of rfl) _ _ (by (repeat (first | with_reducible exact Pull.head | apply Pull.tail))) (by rfl) (by assumption) rfl ?_); clear hS; intro w hS) | (refine wpl rfl (wp_storeG hS 23 _ _ rfl _ rfl 64 (row_of rfl) _ _ (by (repeat (first | with_reducible exact Pull.head | apply Pull.tail))) (by rfl) (by rfl) (by rfl) (by rfl) rfl ?_); clear hS; intro w hS))
    | ((with_reducible show wpList _ _ _ (⟨some 7, .alloc 23, _, _, _, _⟩ :: _) _ _); first | (refine wpl rfl (wp_allocA (o := ⟨some 7, _, _, _, _, _⟩) hS 23 rfl (List.replicate 64 0) 64 List.length_replicate za23 ?_); clear hS; intro g7 w hS; refine put_move ?_; go_step))
    | ((with_reducible show wpList _ _ _ (⟨_, .load 3 _, _, _, _, _⟩ :: _) _ _); first | (refine wpl rfl (wp_load1A hS 3 _ rfl _ _ rfl (one_of rfl) _ _ (by (repeat (first | with_reducible exact Pull.head | apply Pull.tail))) (by omega) ?_); refine put_move ?_; go_step) | (refine wpl rfl (wp_load1 hS 3 _ rfl _ _ rfl (one_of rfl) _ (by (repeat (first | with_reducible exact Pull.head | apply Pull.tail))) _ (by rfl) ?_); refine put_move ?_; go_step) | (refine wpl rfl (wp_load1O hS 3 _ rfl _ _ rfl (one_of rfl) _ _ _ _ _ (by (repeat (first | with_reducible exact Pull.head | apply Pull.tail))) _ (by with_reducible assumption) ?_); refine put_move ?_; go_step) | (refine wpl rfl (wp_loadW hS 3 _ rfl _ rfl (one_of rfl) _ (by with_reducible assumption) ?_); refine put_move ?_; go_step))
    | ((fail_if_success (with_reducible show wpList _ _ _ (_ :: _) _ _)); go_step))
  apply wp_join1 (rs := fun g5 => [arr g5 64 (downR b (rep 1)), arr g2 64 b, arr g3 64 q])
  · skip
    refine drawn_lit [2, 7] (fun w => St W w [arr g2 64 b]) (by kernel_rfl) ?_
    replace hS := hS.drew
    apply takeS 0 (by (repeat (first | with_reducible exact AtL.head | apply AtL.tail))) (by kernel_rfl) (by kernel_rfl) (by kernel_rfl) (fun _ _ _ _ h => nomatch h.1) [2, 3, 4, 5, 7, 8] (by kernel_rfl) (hS.sub (by (repeat (first | exact Sub.nil | with_reducible exact Sub.refl | (refine Sub.cons (by (repeat (first | with_reducible exact Pull.head | apply Pull.tail))) ?_) | apply Sub.skip))))
    case hfr => intro w hS; (first | (refine wpl rfl (wp_loadA hS 23 _ rfl _ rfl 64 (row_of rfl) _ (by (repeat (first | with_reducible exact Pull.head | apply Pull.tail))) ?_); refine put_move ?_; go_step) | (refine wpl rfl (wp_loadG hS 23 _ rfl _ rfl 64 (row_of rfl) _ (by (repeat (first | with_reducible exact Pull.head | apply Pull.tail))) (by rfl) ?_); refine put_move ?_; go_step) | (refine wpl rfl (wp_loadRW hS 23 _ rfl _ _ rfl 64 (row_of rfl) _ (by with_reducible assumption) (by rfl) ?_); refine put_move ?_; go_step)); refine wpList_nil ?_; exact ⟨rfl, rfl⟩
    case hd => rfl
    refine branch [1, 6] (by kernel_rfl) (by simp) (.cons (by (repeat (first | with_reducible exact AtL.head | apply AtL.tail))) rfl ?_ (.cons (by (repeat (first | with_reducible exact AtL.head | apply AtL.tail))) rfl ?_ (.nil)))
    focus
      refine wp_callF (f := 18) rfl Try.call18 (ones_any _ 1) ?_; rintro e w ⟨rfl, hE⟩; replace hS := hS.ext hE; clear hE; refine ⟨_, rfl, ?_⟩
      refine ⟨fun _ _ => hS.sub (by (repeat (first | exact Sub.nil | with_reducible exact Sub.refl | (refine Sub.cons (by (repeat (first | with_reducible exact Pull.head | apply Pull.tail))) ?_) | apply Sub.skip))), ?_⟩
      refine drawn_move ?_
      go_step
      refine branch [2, 6] (by kernel_rfl) (by simp) (.cons (by (repeat (first | with_reducible exact AtL.head | apply AtL.tail))) rfl ?_ (.cons (by (repeat (first | with_reducible exact AtL.head | apply AtL.tail))) rfl ?_ (.nil)))
      focus
        refine wp_callF (f := 17) rfl Try.call17 (down_any _ b (rep 1) HB.out (rep_len 1)) ?_; rintro e w ⟨rfl, hE⟩; replace hS := hS.ext hE; clear hE; rw [HD.out]; refine ⟨_, rfl, ?_⟩
        refine ⟨fun h => absurd (by decide) h, ?_⟩
        refine drawn_move ?_
        go_step
        refine takeM 3 _ (by (repeat (first | with_reducible exact AtL.head | apply AtL.tail))) (by kernel_rfl) (by kernel_rfl) (by kernel_rfl) (fun _ _ _ _ h => nomatch h.1) rfl ?_
        go_step
        first | (refine takeV 4 _ (by (repeat (first | with_reducible exact AtL.head | apply AtL.tail))) (by kernel_rfl) (by kernel_rfl) (by kernel_rfl) (fun _ _ _ _ h => nomatch h.1) (V.extract rfl rfl) rfl ?_)
        go_step
        first | (refine takeV 5 _ (by (repeat (first | with_reducible exact AtL.head | apply AtL.tail))) (by kernel_rfl) (by kernel_rfl) (by kernel_rfl) (fun _ _ _ _ h => nomatch h.1) (V.extract rfl rfl) rfl ?_)
        go_step
        refine branch1 6 (by (repeat (first | with_reducible exact AtL.head | apply AtL.tail))) rfl (by kernel_rfl) ?_
        first | (refine wp_allocA (o := ⟨some 5, _, _, _, _, _⟩) hS 23 rfl (List.replicate 64 0) 64 List.length_replicate za23 ?_; clear hS; intro g5 w hS)
        refine ⟨fun _ _ => hS.sub (by (repeat (first | exact Sub.nil | with_reducible exact Sub.refl | (refine Sub.cons (by (repeat (first | with_reducible exact Pull.head | apply Pull.tail))) ?_) | apply Sub.skip))), ?_⟩
        refine drawn_move ?_
        go_step
        refine branch1 7 (by (repeat (first | with_reducible exact AtL.head | apply AtL.tail))) rfl (by kernel_rfl) ?_
        first | (refine wp_storeA hS 23 _ _ rfl _ rfl 64 (row_of rfl) _ _ (by (repeat (first | with_reducible exact Pull.head | apply Pull.tail))) (by rfl) (by assumption) rfl ?_; clear hS; intro w hS) | (refine wp_storeG hS 23 _ _ rfl _ rfl 64 (row_of rfl) _ _ (by (repeat (first | with_reducible exact Pull.head | apply Pull.tail))) (by rfl) (by rfl) (by rfl) (by rfl) rfl ?_; clear hS; intro w hS)
        refine ⟨fun h => absurd (by decide) h, ?_⟩
        refine takeA 8 _ (by (repeat (first | with_reducible exact AtL.head | apply AtL.tail))) (by kernel_rfl) (by kernel_rfl) (by kernel_rfl) (fun _ _ _ _ h => nomatch h.1) rfl ?_
        go_step
        refine drawn_done (by kernel_rfl) ?_ _
        exact ⟨rfl, g5, rfl, hS.sub (by (repeat (first | exact Sub.nil | with_reducible exact Sub.refl | (refine Sub.cons (by (repeat (first | with_reducible exact Pull.head | apply Pull.tail))) ?_) | apply Sub.skip)))⟩
      rotate_left 1
      focus
        first | (refine wp_allocA (o := ⟨some 5, _, _, _, _, _⟩) hS 23 rfl (List.replicate 64 0) 64 List.length_replicate za23 ?_; clear hS; intro g5 w hS)
        refine ⟨fun _ _ => hS.sub (by (repeat (first | exact Sub.nil | with_reducible exact Sub.refl | (refine Sub.cons (by (repeat (first | with_reducible exact Pull.head | apply Pull.tail))) ?_) | apply Sub.skip))), ?_⟩
        refine drawn_move ?_
        go_step
        refine branch1 2 (by (repeat (first | with_reducible exact AtL.head | apply AtL.tail))) rfl (by kernel_rfl) ?_
        refine wp_callF (f := 17) rfl Try.call17 (down_any _ b (rep 1) HB.out (rep_len 1)) ?_; rintro e w ⟨rfl, hE⟩; replace hS := hS.ext hE; clear hE; rw [HD.out]; refine ⟨_, rfl, ?_⟩
        refine ⟨fun h => absurd (by decide) h, ?_⟩
        refine drawn_move ?_
        go_step
        refine takeM 3 _ (by (repeat (first | with_reducible exact AtL.head | apply AtL.tail))) (by kernel_rfl) (by kernel_rfl) (by kernel_rfl) (fun _ _ _ _ h => nomatch h.1) rfl ?_
        go_step
        first | (refine takeV 4 _ (by (repeat (first | with_reducible exact AtL.head | apply AtL.tail))) (by kernel_rfl) (by kernel_rfl) (by kernel_rfl) (fun _ _ _ _ h => nomatch h.1) (V.extract rfl rfl) rfl ?_)
        go_step
        first | (refine takeV 5 _ (by (repeat (first | with_reducible exact AtL.head | apply AtL.tail))) (by kernel_rfl) (by kernel_rfl) (by kernel_rfl) (fun _ _ _ _ h => nomatch h.1) (V.extract rfl rfl) rfl ?_)
        go_step
        refine branch1 7 (by (repeat (first | with_reducible exact AtL.head | apply AtL.tail))) rfl (by kernel_rfl) ?_
        first | (refine wp_storeA hS 23 _ _ rfl _ rfl 64 (row_of rfl) _ _ (by (repeat (first | with_reducible exact Pull.head | apply Pull.tail))) (by rfl) (by assumption) rfl ?_; clear hS; intro w hS) | (refine wp_storeG hS 23 _ _ rfl _ rfl 64 (row_of rfl) _ _ (by (repeat (first | with_reducible exact Pull.head | apply Pull.tail))) (by rfl) (by rfl) (by rfl) (by rfl) rfl ?_; clear hS; intro w hS)
        refine ⟨fun h => absurd (by decide) h, ?_⟩
        refine takeA 8 _ (by (repeat (first | with_reducible exact AtL.head | apply AtL.tail))) (by kernel_rfl) (by kernel_rfl) (by kernel_rfl) (fun _ _ _ _ h => nomatch h.1) rfl ?_
        go_step
        refine drawn_done (by kernel_rfl) ?_ _
        exact ⟨rfl, g5, rfl, hS.sub (by (repeat (first | exact Sub.nil | with_reducible exact Sub.refl | (refine Sub.cons (by (repeat (first | with_reducible exact Pull.head | apply Pull.tail))) ?_) | apply Sub.skip)))⟩
      rotate_left 1
    rotate_left 2
    focus
      first | (refine wp_allocA (o := ⟨some 5, _, _, _, _, _⟩) hS 23 rfl (List.replicate 64 0) 64 List.length_replicate za23 ?_; clear hS; intro g5 w hS)
      refine ⟨fun _ _ => hS.sub (by (repeat (first | exact Sub.nil | with_reducible exact Sub.refl | (refine Sub.cons (by (repeat (first | with_reducible exact Pull.head | apply Pull.tail))) ?_) | apply Sub.skip))), ?_⟩
      refine drawn_move ?_
      go_step
      refine branch1 1 (by (repeat (first | with_reducible exact AtL.head | apply AtL.tail))) rfl (by kernel_rfl) ?_
      refine wp_callF (f := 18) rfl Try.call18 (ones_any _ 1) ?_; rintro e w ⟨rfl, hE⟩; replace hS := hS.ext hE; clear hE; refine ⟨_, rfl, ?_⟩
      refine ⟨fun _ _ => hS.sub (by (repeat (first | exact Sub.nil | with_reducible exact Sub.refl | (refine Sub.cons (by (repeat (first | with_reducible exact Pull.head | apply Pull.tail))) ?_) | apply Sub.skip))), ?_⟩
      refine drawn_move ?_
      go_step
      refine branch1 2 (by (repeat (first | with_reducible exact AtL.head | apply AtL.tail))) rfl (by kernel_rfl) ?_
      refine wp_callF (f := 17) rfl Try.call17 (down_any _ b (rep 1) HB.out (rep_len 1)) ?_; rintro e w ⟨rfl, hE⟩; replace hS := hS.ext hE; clear hE; rw [HD.out]; refine ⟨_, rfl, ?_⟩
      refine ⟨fun h => absurd (by decide) h, ?_⟩
      refine drawn_move ?_
      go_step
      refine takeM 3 _ (by (repeat (first | with_reducible exact AtL.head | apply AtL.tail))) (by kernel_rfl) (by kernel_rfl) (by kernel_rfl) (fun _ _ _ _ h => nomatch h.1) rfl ?_
      go_step
      first | (refine takeV 4 _ (by (repeat (first | with_reducible exact AtL.head | apply AtL.tail))) (by kernel_rfl) (by kernel_rfl) (by kernel_rfl) (fun _ _ _ _ h => nomatch h.1) (V.extract rfl rfl) rfl ?_)
      go_step
      first | (refine takeV 5 _ (by (repeat (first | with_reducible exact AtL.head | apply AtL.tail))) (by kernel_rfl) (by kernel_rfl) (by kernel_rfl) (fun _ _ _ _ h => nomatch h.1) (V.extract rfl rfl) rfl ?_)
      go_step
      refine branch1 7 (by (repeat (first | with_reducible exact AtL.head | apply AtL.tail))) rfl (by kernel_rfl) ?_
      first | (refine wp_storeA hS 23 _ _ rfl _ rfl 64 (row_of rfl) _ _ (by (repeat (first | with_reducible exact Pull.head | apply Pull.tail))) (by rfl) (by assumption) rfl ?_; clear hS; intro w hS) | (refine wp_storeG hS 23 _ _ rfl _ rfl 64 (row_of rfl) _ _ (by (repeat (first | with_reducible exact Pull.head | apply Pull.tail))) (by rfl) (by rfl) (by rfl) (by rfl) rfl ?_; clear hS; intro w hS)
      refine ⟨fun h => absurd (by decide) h, ?_⟩
      refine takeA 8 _ (by (repeat (first | with_reducible exact AtL.head | apply AtL.tail))) (by kernel_rfl) (by kernel_rfl) (by kernel_rfl) (fun _ _ _ _ h => nomatch h.1) rfl ?_
      go_step
      refine drawn_done (by kernel_rfl) ?_ _
      exact ⟨rfl, g5, rfl, hS.sub (by (repeat (first | exact Sub.nil | with_reducible exact Sub.refl | (refine Sub.cons (by (repeat (first | with_reducible exact Pull.head | apply Pull.tail))) ?_) | apply Sub.skip)))⟩
    rotate_left 1
  · clear hS; intro g5 w hS
    repeat' (first
      | ((with_reducible show wpList _ _ _ (⟨_, .call ⟨.value (.func 20), _, _⟩, _, _, _, _⟩ :: _) _ _); refine wpl_call (f := 20) Try.call20 rfl ?_; refine ⟨_, (scale_any _ q 100 HQ.out), ?_⟩; rintro e w ⟨rfl, hE⟩; replace hS := hS.ext hE; clear hE; rw [HS.out]; refine ⟨_, rfl, ?_⟩; refine put_move ?_; go_step)
      | ((with_reducible show wpList _ _ _ (⟨_, .call ⟨.value (.func 21), _, _⟩, _, _, _, _⟩ :: _) _ _); refine wpl_call (f := 21) Try.call21 rfl ?_; refine ⟨_, (qcheck_any _ q HQ.out), ?_⟩; rintro e w ⟨rfl, hE⟩; replace hS := hS.ext hE; clear hE; rw [HK.out]; refine ⟨_, rfl, ?_⟩; refine put_move ?_; go_step)
      | ((with_reducible show wpList _ _ _ (⟨some 29, _, _, _, _, _⟩ :: _) _ _); refine wpl rfl (wp_neqBlock _ _ _ rfl _ _ rfl rfl (by assumption) lq false (by rw [HR.out (by assumption)]; simp) ?_); refine put_move ?_; go_step)
      | go_skip
      | ((with_reducible show wpList _ _ _ (⟨_, _, _, _, _, some _⟩ :: _) _ _); (fail_if_success go_big_want); refine wplSkip rfl ?_; go_step)
      | ((with_reducible show wpList _ _ _ (⟨_, .move _, _, _, _, _⟩ :: _) _ _); (first | go_big_want | go_step); go_step)
      | ((with_reducible show wpList _ _ _ (⟨_, .assign _, _, _, _, _⟩ :: _) _ _); (first | go_big_want | go_step); go_step)
      | ((with_reducible show wpList _ _ _ (⟨_, .pick _ _ _, _, _, _, _⟩ :: _) _ _); first | (refine wplPickT rfl rfl ?_; go_step) | (refine wplPickF rfl rfl ?_; go_step))
      | ((with_reducible show wpList _ _ _ (⟨some 25, .binOp .eql 27 _ _ _, _, _, _, _⟩ :: _) _ _); first | (refine wplD _ (V.eql rfl rfl) rfl (fun h => ?_) (fun h => ?_) <;> (try (exfalso; omega)) <;> go_step) | (refine wplB _ (V.eql rfl rfl) rfl (fun h => ?_) (fun h => ?_) <;> go_step))
      | ((with_reducible show wpList _ _ _ (⟨some 50, .binOp .leq _ _ _ _, _, _, _, _⟩ :: _) _ _); first | (refine wplD _ (V.leq rfl rfl) rfl (fun h => ?_) (fun h => ?_) <;> (try (exfalso; omega)) <;> go_step) | (refine wplB _ (V.leq rfl rfl) rfl (fun h => ?_) (fun h => ?_) <;> go_step))
      | ((with_reducible show wpList _ _ _ (⟨_, .unOp .not _ _, _, _, _, _⟩ :: _) _ _); first | (refine wplV _ (V.notD rfl) rfl ?_; go_step) | (refine wplV _ (V.not rfl) rfl ?_; go_step))
      | ((with_reducible show wpList _ _ _ (⟨_, .extract _ _, _, _, _, _⟩ :: _) _ _); first | (refine wplV _ (V.extract rfl rfl) rfl ?_; go_step))
      | ((with_reducible show wpList _ _ _ (⟨_, .binOp .eql 27 _ _ _, _, _, _, _⟩ :: _) _ _); first | (refine wplV _ (V.eql rfl rfl) rfl ?_; go_step))
      | ((with_reducible show wpList _ _ _ (⟨_, .binOp .neq 4 _ _ _, _, _, _, _⟩ :: _) _ _); first | (refine wplV _ (V.neqBD Try.underlying4 rfl rfl) rfl ?_; go_step) | (refine wplV _ (V.neqB Try.underlying4 rfl rfl) rfl ?_; go_step))
      | ((with_reducible show wpList _ _ _ (⟨_, .binOp .neq 27 _ _ _, _, _, _, _⟩ :: _) _ _); first | (refine wplV _ (V.neq rfl rfl) rfl ?_; go_step))
      | ((with_reducible show wpList _ _ _ (⟨_, .binOp .lss _ _ _ _, _, _, _, _⟩ :: _) _ _); first | (refine wplV _ (V.lss rfl rfl) rfl ?_; go_step))
      | ((with_reducible show wpList _ _ _ (⟨some 45, .index 23 _ _, _, _, _, _⟩ :: _) _ _); first | (refine wplV _ (V.indexIv Try.underlying23 Try.underlying3 isz3 rfl rfl (by assumption) (by (repeat (first | with_reducible exact IsN.cast | apply IsN.add | apply IsN.mul | apply IsN.div | apply IsN.mod | with_reducible exact IsN.l1 |  with_reducible exact IsN.l2 |  with_reducible exact IsN.l3 |  with_reducible exact IsN.l4 |  with_reducible exact IsN.l8 |  with_reducible exact IsN.l16 |  with_reducible exact IsN.l7 |  with_reducible exact IsN.l0 |  with_reducible exact IsN.l5 |  with_reducible exact IsN.l6 |  with_reducible exact IsN.l9 |  with_reducible exact IsN.l10 |  with_reducible exact IsN.l11 |  with_reducible exact IsN.l12 |  with_reducible exact IsN.l13 |  with_reducible exact IsN.l14 |  with_reducible exact IsN.l15 |  with_reducible exact IsN.l63 |  with_reducible exact IsN.l64 |  with_reducible exact IsN.l127 |  with_reducible exact IsN.l128 |  with_reducible exact IsN.l255 |  with_reducible exact IsN.l256 | apply IsN.add | apply IsN.mul | apply IsN.div | apply IsN.mod | apply IsN.min | apply IsN.max | (refine IsN.sub ?_ ?_ (by omega)) | exact IsN.toNat (by omega)))) (by omega)) rfl ?_; go_step))
      | ((with_reducible show wpList _ _ _ (⟨_, .unOp .neg _ _, _, _, _, _⟩ :: _) _ _); first | (refine wplV _ (V.neg rfl (by omega)) rfl ?_; go_step))
      | ((with_reducible show wpList _ _ _ (⟨_, .call ⟨.builtin .max, _, _⟩, _, _, _, _⟩ :: _) _ _); first | (refine wplV _ (V.max rfl rfl) rfl ?_; go_step))
      | ((with_reducible show wpList _ _ _ (⟨some 53, .indexAddr 23 _ _, _, _, _, _⟩ :: _) _ _); first | (refine wplV _ (V.indexAr Try.underlying23 isz3 rfl rfl (by (repeat (first | with_reducible exact IsN.cast | apply IsN.add | apply IsN.mul | apply IsN.div | apply IsN.mod | with_reducible exact IsN.l1 |  with_reducible exact IsN.l2 |  with_reducible exact IsN.l3 |  with_reducible exact IsN.l4 |  with_reducible exact IsN.l8 |  with_reducible exact IsN.l16 |  with_reducible exact IsN.l7 |  with_reducible exact IsN.l0 |  with_reducible exact IsN.l5 |  with_reducible exact IsN.l6 |  with_reducible exact IsN.l9 |  with_reducible exact IsN.l10 |  with_reducible exact IsN.l11 |  with_reducible exact IsN.l12 |  with_reducible exact IsN.l13 |  with_reducible exact IsN.l14 |  with_reducible exact IsN.l15 |  with_reducible exact IsN.l63 |  with_reducible exact IsN.l64 |  with_reducible exact IsN.l127 |  with_reducible exact IsN.l128 |  with_reducible exact IsN.l255 |  with_reducible exact IsN.l256 | apply IsN.add | apply IsN.mul | apply IsN.div | apply IsN.mod | apply IsN.min | apply IsN.max | (refine IsN.sub ?_ ?_ (by omega)) | exact IsN.toNat (by omega)))) (by omega) (Nat.mul_one _) (by first | with_reducible exact Nat.zero_add _ | with_reducible exact Nat.add_zero _ | exact rfl)) rfl ?_; go_step))
      | ((with_reducible show wpList _ _ _ (⟨_, .binOp .neq 3 _ _ _, _, _, _, _⟩ :: _) _ _); first | (refine wplV _ (V.neq rfl rfl) rfl ?_; go_step))
      | ((with_reducible show wpList _ _ _ (⟨_, .binOp .add _ _ _ _, _, _, _, _⟩ :: _) _ _); first | (refine wplV _ (V.addI rfl rfl (by omega)) rfl ?_; go_step) | (refine wplV _ (V.addR (by decide) rfl rfl) rfl ?_; go_step))
      | ((with_reducible show wpList _ _ _ (⟨some 2, .box 23 _, _, _, _, _⟩ :: _) _ _); first | (refine wpl rfl (wp_boxA (o := ⟨some 2, _, _, _, _, _⟩) hS 23 _ rfl _ 64 rfl (by assumption) ?_); clear hS; intro g2 w hS; refine put_move ?_; go_step))
      | ((with_reducible show wpList _ _ _ (⟨some 3, .box 23 _, _, _, _, _⟩ :: _) _ _); first | (refine wpl rfl (wp_boxA (o := ⟨some 3, _, _, _, _, _⟩) hS 23 _ rfl _ 64 rfl (by assumption) ?_); clear hS; intro g3 w hS; refine put_move ?_; go_step))
      | ((with_reducible show wpList _ _ _ (⟨_, .load 23 _, _, _, _, _⟩ :: _) _ _); first | (refine wpl rfl (wp_loadA hS 23 _ rfl _ rfl 64 (row_of rfl) _ (by (repeat (first | with_reducible exact Pull.head | apply Pull.tail))) ?_); refine put_move ?_; go_step) | (refine wpl rfl (wp_loadG hS 23 _ rfl _ rfl 64 (row_of rfl) _ (by (repeat (first | with_reducible exact Pull.head | apply Pull.tail))) (by rfl) ?_); refine put_move ?_; go_step) | (refine wpl rfl (wp_loadRW hS 23 _ rfl _ _ rfl 64 (row_of rfl) _ (by with_reducible assumption) (by rfl) ?_); refine put_move ?_; go_step))
      | ((with_reducible show wpList _ _ _ (⟨some 5, .alloc 23, _, _, _, _⟩ :: _) _ _); first | (refine wpl rfl (wp_allocA (o := ⟨some 5, _, _, _, _, _⟩) hS 23 rfl (List.replicate 64 0) 64 List.length_replicate za23 ?_); clear hS; intro g5 w hS; refine put_move ?_; go_step))
      | ((with_reducible show wpList _ _ _ (⟨_, .store 23 _ _, _, _, _, _⟩ :: _) _ _); first | (refine wpl rfl (wp_storeA hS 23 _ _ rfl _ rfl 64 (row_of rfl) _ _ (by (repeat (first | with_reducible exact Pull.head | apply Pull.tail))) (by rfl) (by assumption) rfl ?_); clear hS; intro w hS) | (refine wpl rfl (wp_storeG hS 23 _ _ rfl _ rfl 64 (row_of rfl) _ _ (by (repeat (first | with_reducible exact Pull.head | apply Pull.tail))) (by rfl) (by rfl) (by rfl) (by rfl) rfl ?_); clear hS; intro w hS))
      | ((with_reducible show wpList _ _ _ (⟨some 7, .alloc 23, _, _, _, _⟩ :: _) _ _); first | (refine wpl rfl (wp_allocA (o := ⟨some 7, _, _, _, _, _⟩) hS 23 rfl (List.replicate 64 0) 64 List.length_replicate za23 ?_); clear hS; intro g7 w hS; refine put_move ?_; go_step))
      | ((with_reducible show wpList _ _ _ (⟨_, .load 3 _, _, _, _, _⟩ :: _) _ _); first | (refine wpl rfl (wp_load1A hS 3 _ rfl _ _ rfl (one_of rfl) _ _ (by (repeat (first | with_reducible exact Pull.head | apply Pull.tail))) (by omega) ?_); refine put_move ?_; go_step) | (refine wpl rfl (wp_load1 hS 3 _ rfl _ _ rfl (one_of rfl) _ (by (repeat (first | with_reducible exact Pull.head | apply Pull.tail))) _ (by rfl) ?_); refine put_move ?_; go_step) | (refine wpl rfl (wp_load1O hS 3 _ rfl _ _ rfl (one_of rfl) _ _ _ _ _ (by (repeat (first | with_reducible exact Pull.head | apply Pull.tail))) _ (by with_reducible assumption) ?_); refine put_move ?_; go_step) | (refine wpl rfl (wp_loadW hS 3 _ rfl _ rfl (one_of rfl) _ (by with_reducible assumption) ?_); refine put_move ?_; go_step))
      | ((fail_if_success (with_reducible show wpList _ _ _ (_ :: _) _ _)); go_step))
    all_goals (try (go_ret; first | exact ⟨rfl, hS.1⟩ | (exfalso; omega)))
    all_goals (
      go_loopg [42] 64 (fun gk kv w => ∃ (i : Nat), gk + i = 64 ∧ kv = .int .i64 i ∧ St W w [arr g5 64 (downR b (rep 1))])
      case atStart => exact ⟨0, rfl, rfl, hS.sub (by (repeat (first | exact Sub.nil | with_reducible exact Sub.refl | (refine Sub.cons (by (repeat (first | with_reducible exact Pull.head | apply Pull.tail))) ?_) | apply Sub.skip)))⟩
      case round =>
        clear hS
        obtain ⟨i, hi, rfl, hS⟩ := hrel
        have H1 := hid (ones_down b HB.out (by rw [HD.out]; omega) i)
        have k1 := ones_in b HB.out (by rw [HD.out]; omega) i
        repeat' (first
          | go_skip
          | ((with_reducible show wpList _ _ _ (⟨_, _, _, _, _, some _⟩ :: _) _ _); (fail_if_success go_big_want); refine wplSkip rfl ?_; go_step)
          | ((with_reducible show wpList _ _ _ (⟨_, .move _, _, _, _, _⟩ :: _) _ _); (first | go_big_want | go_step); go_step)
          | ((with_reducible show wpList _ _ _ (⟨_, .assign _, _, _, _, _⟩ :: _) _ _); (first | go_big_want | go_step); go_step)
          | ((with_reducible show wpList _ _ _ (⟨_, .pick _ _ _, _, _, _, _⟩ :: _) _ _); first | (refine wplPickT rfl rfl ?_; go_step) | (refine wplPickF rfl rfl ?_; go_step))
          | ((with_reducible show wpList _ _ _ (⟨some 25, .binOp .eql 27 _ _ _, _, _, _, _⟩ :: _) _ _); first | (refine wplD _ (V.eql rfl rfl) rfl (fun h => ?_) (fun h => ?_) <;> (try (exfalso; omega)) <;> go_step) | (refine wplB _ (V.eql rfl rfl) rfl (fun h => ?_) (fun h => ?_) <;> go_step))
          | ((with_reducible show wpList _ _ _ (⟨some 50, .binOp .leq _ _ _ _, _, _, _, _⟩ :: _) _ _); first | (refine wplD _ (V.leq rfl rfl) rfl (fun h => ?_) (fun h => ?_) <;> (try (exfalso; omega)) <;> go_step) | (refine wplB _ (V.leq rfl rfl) rfl (fun h => ?_) (fun h => ?_) <;> go_step))
          | ((with_reducible show wpList _ _ _ (⟨_, .unOp .not _ _, _, _, _, _⟩ :: _) _ _); first | (refine wplV _ (V.notD rfl) rfl ?_; go_step) | (refine wplV _ (V.not rfl) rfl ?_; go_step))
          | ((with_reducible show wpList _ _ _ (⟨_, .extract _ _, _, _, _, _⟩ :: _) _ _); first | (refine wplV _ (V.extract rfl rfl) rfl ?_; go_step))
          | ((with_reducible show wpList _ _ _ (⟨_, .binOp .eql 27 _ _ _, _, _, _, _⟩ :: _) _ _); first | (refine wplV _ (V.eql rfl rfl) rfl ?_; go_step))
          | ((with_reducible show wpList _ _ _ (⟨_, .binOp .neq 4 _ _ _, _, _, _, _⟩ :: _) _ _); first | (refine wplV _ (V.neqBD Try.underlying4 rfl rfl) rfl ?_; go_step) | (refine wplV _ (V.neqB Try.underlying4 rfl rfl) rfl ?_; go_step))
          | ((with_reducible show wpList _ _ _ (⟨_, .binOp .neq 27 _ _ _, _, _, _, _⟩ :: _) _ _); first | (refine wplV _ (V.neq rfl rfl) rfl ?_; go_step))
          | ((with_reducible show wpList _ _ _ (⟨_, .binOp .lss _ _ _ _, _, _, _, _⟩ :: _) _ _); first | (refine wplV _ (V.lss rfl rfl) rfl ?_; go_step))
          | ((with_reducible show wpList _ _ _ (⟨some 45, .index 23 _ _, _, _, _, _⟩ :: _) _ _); first | (refine wplV _ (V.indexIv Try.underlying23 Try.underlying3 isz3 rfl rfl (by assumption) (by (repeat (first | with_reducible exact IsN.cast | apply IsN.add | apply IsN.mul | apply IsN.div | apply IsN.mod | with_reducible exact IsN.l1 |  with_reducible exact IsN.l2 |  with_reducible exact IsN.l3 |  with_reducible exact IsN.l4 |  with_reducible exact IsN.l8 |  with_reducible exact IsN.l16 |  with_reducible exact IsN.l7 |  with_reducible exact IsN.l0 |  with_reducible exact IsN.l5 |  with_reducible exact IsN.l6 |  with_reducible exact IsN.l9 |  with_reducible exact IsN.l10 |  with_reducible exact IsN.l11 |  with_reducible exact IsN.l12 |  with_reducible exact IsN.l13 |  with_reducible exact IsN.l14 |  with_reducible exact IsN.l15 |  with_reducible exact IsN.l63 |  with_reducible exact IsN.l64 |  with_reducible exact IsN.l127 |  with_reducible exact IsN.l128 |  with_reducible exact IsN.l255 |  with_reducible exact IsN.l256 | apply IsN.add | apply IsN.mul | apply IsN.div | apply IsN.mod | apply IsN.min | apply IsN.max | (refine IsN.sub ?_ ?_ (by omega)) | exact IsN.toNat (by omega)))) (by omega)) rfl ?_; go_step))
          | ((with_reducible show wpList _ _ _ (⟨_, .unOp .neg _ _, _, _, _, _⟩ :: _) _ _); first | (refine wplV _ (V.neg rfl (by omega)) rfl ?_; go_step))
          | ((with_reducible show wpList _ _ _ (⟨_, .call ⟨.builtin .max, _, _⟩, _, _, _, _⟩ :: _) _ _); first | (refine wplV _ (V.max rfl rfl) rfl ?_; go_step))
          | ((with_reducible show wpList _ _ _ (⟨some 53, .indexAddr 23 _ _, _, _, _, _⟩ :: _) _ _); first | (refine wplV _ (V.indexAr Try.underlying23 isz3 rfl rfl (by (repeat (first | with_reducible exact IsN.cast | apply IsN.add | apply IsN.mul | apply IsN.div | apply IsN.mod | with_reducible exact IsN.l1 |  with_reducible exact IsN.l2 |  with_reducible exact IsN.l3 |  with_reducible exact IsN.l4 |  with_reducible exact IsN.l8 |  with_reducible exact IsN.l16 |  with_reducible exact IsN.l7 |  with_reducible exact IsN.l0 |  with_reducible exact IsN.l5 |  with_reducible exact IsN.l6 |  with_reducible exact IsN.l9 |  with_reducible exact IsN.l10 |  with_reducible exact IsN.l11 |  with_reducible exact IsN.l12 |  with_reducible exact IsN.l13 |  with_reducible exact IsN.l14 |  with_reducible exact IsN.l15 |  with_reducible exact IsN.l63 |  with_reducible exact IsN.l64 |  with_reducible exact IsN.l127 |  with_reducible exact IsN.l128 |  with_reducible exact IsN.l255 |  with_reducible exact IsN.l256 | apply IsN.add | apply IsN.mul | apply IsN.div | apply IsN.mod | apply IsN.min | apply IsN.max | (refine IsN.sub ?_ ?_ (by omega)) | exact IsN.toNat (by omega)))) (by omega) (Nat.mul_one _) (by first | with_reducible exact Nat.zero_add _ | with_reducible exact Nat.add_zero _ | exact rfl)) rfl ?_; go_step))
          | ((with_reducible show wpList _ _ _ (⟨_, .binOp .neq 3 _ _ _, _, _, _, _⟩ :: _) _ _); first | (refine wplV _ (V.neq rfl rfl) rfl ?_; go_step))
          | ((with_reducible show wpList _ _ _ (⟨_, .binOp .add _ _ _ _, _, _, _, _⟩ :: _) _ _); first | (refine wplV _ (V.addI rfl rfl (by omega)) rfl ?_; go_step) | (refine wplV _ (V.addR (by decide) rfl rfl) rfl ?_; go_step))
          | ((with_reducible show wpList _ _ _ (⟨some 2, .box 23 _, _, _, _, _⟩ :: _) _ _); first | (refine wpl rfl (wp_boxA (o := ⟨some 2, _, _, _, _, _⟩) hS 23 _ rfl _ 64 rfl (by assumption) ?_); clear hS; intro g2 w hS; refine put_move ?_; go_step))
          | ((with_reducible show wpList _ _ _ (⟨some 3, .box 23 _, _, _, _, _⟩ :: _) _ _); first | (refine wpl rfl (wp_boxA (o := ⟨some 3, _, _, _, _, _⟩) hS 23 _ rfl _ 64 rfl (by assumption) ?_); clear hS; intro g3 w hS; refine put_move ?_; go_step))
          | ((with_reducible show wpList _ _ _ (⟨_, .load 23 _, _, _, _, _⟩ :: _) _ _); first | (refine wpl rfl (wp_loadA hS 23 _ rfl _ rfl 64 (row_of rfl) _ (by (repeat (first | with_reducible exact Pull.head | apply Pull.tail))) ?_); refine put_move ?_; go_step) | (refine wpl rfl (wp_loadG hS 23 _ rfl _ rfl 64 (row_of rfl) _ (by (repeat (first | with_reducible exact Pull.head | apply Pull.tail))) (by rfl) ?_); refine put_move ?_; go_step) | (refine wpl rfl (wp_loadRW hS 23 _ rfl _ _ rfl 64 (row_of rfl) _ (by with_reducible assumption) (by rfl) ?_); refine put_move ?_; go_step))
          | ((with_reducible show wpList _ _ _ (⟨some 5, .alloc 23, _, _, _, _⟩ :: _) _ _); first | (refine wpl rfl (wp_allocA (o := ⟨some 5, _, _, _, _, _⟩) hS 23 rfl (List.replicate 64 0) 64 List.length_replicate za23 ?_); clear hS; intro g5 w hS; refine put_move ?_; go_step))
          | ((with_reducible show wpList _ _ _ (⟨_, .store 23 _ _, _, _, _, _⟩ :: _) _ _); first | (refine wpl rfl (wp_storeA hS 23 _ _ rfl _ rfl 64 (row_of rfl) _ _ (by (repeat (first | with_reducible exact Pull.head | apply Pull.tail))) (by rfl) (by assumption) rfl ?_); clear hS; intro w hS) | (refine wpl rfl (wp_storeG hS 23 _ _ rfl _ rfl 64 (row_of rfl) _ _ (by (repeat (first | with_reducible exact Pull.head | apply Pull.tail))) (by rfl) (by rfl) (by rfl) (by rfl) rfl ?_); clear hS; intro w hS))
          | ((with_reducible show wpList _ _ _ (⟨some 7, .alloc 23, _, _, _, _⟩ :: _) _ _); first | (refine wpl rfl (wp_allocA (o := ⟨some 7, _, _, _, _, _⟩) hS 23 rfl (List.replicate 64 0) 64 List.length_replicate za23 ?_); clear hS; intro g7 w hS; refine put_move ?_; go_step))
          | ((with_reducible show wpList _ _ _ (⟨_, .load 3 _, _, _, _, _⟩ :: _) _ _); first | (refine wpl rfl (wp_load1A hS 3 _ rfl _ _ rfl (one_of rfl) _ _ (by (repeat (first | with_reducible exact Pull.head | apply Pull.tail))) (by omega) ?_); refine put_move ?_; go_step) | (refine wpl rfl (wp_load1 hS 3 _ rfl _ _ rfl (one_of rfl) _ (by (repeat (first | with_reducible exact Pull.head | apply Pull.tail))) _ (by rfl) ?_); refine put_move ?_; go_step) | (refine wpl rfl (wp_load1O hS 3 _ rfl _ _ rfl (one_of rfl) _ _ _ _ _ (by (repeat (first | with_reducible exact Pull.head | apply Pull.tail))) _ (by with_reducible assumption) ?_); refine put_move ?_; go_step) | (refine wpl rfl (wp_loadW hS 3 _ rfl _ rfl (one_of rfl) _ (by with_reducible assumption) ?_); refine put_move ?_; go_step))
          | ((fail_if_success (with_reducible show wpList _ _ _ (_ :: _) _ _)); go_step))
        all_goals first
          | (go_ret; first | exact ⟨rfl, hS.1⟩ | (exfalso; have := H1.out (by omega) (by omega); omega))
          | (go_roundg (gk - 1)
             case measure => omega
             case rel => exact ⟨i + 1, by omega, by go_num, hS.sub (by (repeat (first | exact Sub.nil | with_reducible exact Sub.refl | (refine Sub.cons (by (repeat (first | with_reducible exact Pull.head | apply Pull.tail))) ?_) | apply Sub.skip)))⟩))
end Go.Proofs.Ytbihmbkkoidnbaa
