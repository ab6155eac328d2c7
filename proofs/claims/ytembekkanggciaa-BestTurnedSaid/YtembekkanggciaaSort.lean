/- The walks of slices.SortStableFunc over packs: insertion, rotation, SymMerge. -/
import Derived.Test.YtembekkanggciaaRec
namespace Go.Proofs.Ytembekkanggciaa
set_option maxRecDepth 100000
open Go.RowKit
set_option linter.unusedVariables false
def cmpv (x y : Int) : Int := if x < y then -1 else if y < x then 1 else 0
theorem isNaN_any (w : World) (x : Int) : Calls Try.prog 34 #[.int .i64 x] w fun e w' => e = .returned (.bool false) ∧ Ext w w' := by
  have hS := St.start w
  go_enter Try.func34, Try.ntmps34
  repeat' (first
    | ((with_reducible show wpList _ _ _ (⟨_, .move _, _, _, _, _⟩ :: _) _ _); (first | go_big_want | go_step); go_step)
    | ((with_reducible show wpList _ _ _ (⟨_, .assign _, _, _, _, _⟩ :: _) _ _); (first | go_big_want | go_step); go_step)
    | ((with_reducible show wpList _ _ _ (⟨_, .binOp .neq 3 _ _ _, _, _, _, _⟩ :: _) _ _); (refine wplV _ (V.neq rfl rfl) (by kernel_rfl) ?_; go_step))
    | ((fail_if_success (with_reducible show wpList _ _ _ (_ :: _) _ _)); go_step))
  all_goals go_ret
  all_goals exact ⟨by simp, hS.1⟩
theorem compare_any (w : World) (x y : Int) : Calls Try.prog 28 #[.int .i64 x, .int .i64 y] w fun e w' => e = .returned (.int .i64 (cmpv x y)) ∧ Ext w w' := by
  have hS := St.start w
  go_enter Try.func28, Try.ntmps28
  repeat' (first
    | ((with_reducible show wpList _ _ _ (⟨_, .call ⟨.value (.func 34), _, _⟩, _, _, _, _⟩ :: _) _ _); refine wpl_call (f := 34) Try.call34 (by kernel_rfl) ?_; refine ⟨_, (isNaN_any _ _), ?_⟩; rintro e w ⟨rfl, hE2⟩; replace hS := hS.ext hE2; clear hE2; refine ⟨_, rfl, ?_⟩; refine put_move ?_; go_step)
    | ((with_reducible show wpList _ _ _ (⟨_, .move _, _, _, _, _⟩ :: _) _ _); (first | go_big_want | go_step); go_step)
    | ((with_reducible show wpList _ _ _ (⟨_, .assign _, _, _, _, _⟩ :: _) _ _); (first | go_big_want | go_step); go_step)
    | ((with_reducible show wpList _ _ _ (⟨_, .binOp .lss _ _ _ _, _, _, _, _⟩ :: _) _ _); (refine wplV _ (V.lss rfl rfl) (by kernel_rfl) ?_; go_step))
    | ((with_reducible show wpList _ _ _ (⟨_, .binOp .gtr _ _ _ _, _, _, _, _⟩ :: _) _ _); (refine wplV _ (V.gtr rfl rfl) (by kernel_rfl) ?_; go_step))
    | ((fail_if_success (with_reducible show wpList _ _ _ (_ :: _) _ _)); go_step))
  all_goals go_ret
  all_goals (refine ⟨?_, hS.1⟩; unfold cmpv; first | (rw [if_pos (by omega)]; rfl) | (rw [if_neg (by omega), if_pos (by omega)]; rfl) | (rw [if_neg (by omega), if_neg (by omega)]; rfl))
theorem byWeight_any (w : World) (p q : PkV) : Calls Try.prog 20 #[.agg (pkE p).toArray, .agg (pkE q).toArray] w fun e w' => e = .returned (.int .i64 (cmpv p.w q.w)) ∧ Ext w w' := by
  have hS := St.start w
  obtain ⟨x, ap, np, cp⟩ := p
  obtain ⟨y, aq, nq, cq⟩ := q
  simp only [pkE]
  go_enter Try.func20, Try.ntmps20
  repeat' (first
    | ((with_reducible show wpList _ _ _ (⟨_, .call ⟨.value (.func 28), _, _⟩, _, _, _, _⟩ :: _) _ _); refine wpl_call (f := 28) Try.call28 (by kernel_rfl) ?_; refine ⟨_, (compare_any _ _ _), ?_⟩; rintro e w ⟨rfl, hE2⟩; replace hS := hS.ext hE2; clear hE2; refine ⟨_, rfl, ?_⟩; refine put_move ?_; go_step)
    | ((with_reducible show wpList _ _ _ (⟨_, .assign _, _, _, _, _⟩ :: _) _ _); (first | go_big_want | go_step); go_step)
    | ((with_reducible show wpList _ _ _ (⟨_, .fieldAddr 48 _ 0, _, _, _, _⟩ :: _) _ _); (refine wplV _ (V.fieldAddr fo48_0 rfl (by first | with_reducible exact Nat.zero_add _ | with_reducible exact Nat.add_zero _ | exact rfl)) (by kernel_rfl) ?_; go_step))
    | ((with_reducible show wpList _ _ _ (⟨some 2, .box 48 _, _, _, _, _⟩ :: _) _ _); (refine wpl (by kernel_rfl) ?_; apply wp_boxG (o := ⟨some 2, _, _, _, _, _⟩) hS 48 _ rfl _ rfl; clear hS; intro g2 w hS; refine put_move ?_; go_step))
    | ((with_reducible show wpList _ _ _ (⟨some 3, .box 48 _, _, _, _, _⟩ :: _) _ _); (refine wpl (by kernel_rfl) ?_; apply wp_boxG (o := ⟨some 3, _, _, _, _, _⟩) hS 48 _ rfl _ rfl; clear hS; intro g3 w hS; refine put_move ?_; go_step))
    | ((with_reducible show wpList _ _ _ (⟨_, .load 3 _, _, _, _, _⟩ :: _) _ _); (refine wpl (by kernel_rfl) ?_; apply wp_load1 hS 3 _ rfl _ _ rfl (one_of rfl) _; (case hp => (repeat (first | with_reducible exact Pull.head | apply Pull.tail))); (case hc => rfl); refine put_move ?_; go_step))
    | ((fail_if_success (with_reducible show wpList _ _ _ (_ :: _) _ _)); go_step))
  all_goals go_ret
  all_goals exact ⟨rfl, hS.1⟩
/-- The packs of the call's own. -/
abbrev pks (g n c : Nat) (P : List PkV) : Res := own 48 2 (some ⟨g, 0, none⟩) n c (P.flatMap pkE)
theorem swapRange_any (W w0 : World) (rs rs' : List Res) (g n c a b k : Nat) (P : List PkV) (hS : St W w0 rs) (hp : Pull (pks g n c P) rs rs') (hab : a + k ≤ b) (hb : b + k ≤ n) (hn : n ≤ 1000000) (K : Value) :
    Calls Try.prog 36 #[.slice (some ⟨g, 0, none⟩) n c, .int .i64 a, .int .i64 b, .int .i64 k, K] w0 fun e w => e = .returned (.tuple #[]) ∧ ∃ Q, Swr a b k P Q ∧ St W w (pks g n c Q :: rs') := by
  replace hS := hS.pull hp
  have he := pkE_len
  have h1e := pkE_one
  have hPl := own_recs hS Pull.head pkE_len (by decide)
  go_enter Try.func36, Try.ntmps36
  repeat' (first
    | ((with_reducible show wpList _ _ _ (⟨_, .assign _, _, _, _, _⟩ :: _) _ _); (first | go_big_want | go_step); go_step)
    | ((fail_if_success (with_reducible show wpList _ _ _ (_ :: _) _ _)); go_step))
  go_loopg [10] k (fun gk iv w => ∃ (i : Nat) (Q : List PkV), gk + i = k ∧ iv = .int .i64 i ∧ Swr a b i P Q ∧ St W w (pks g n c Q :: rs'))
  case atStart => exact ⟨0, P, by omega, rfl, Swr.refl a b P, hS⟩
  case round =>
    clear hS
    obtain ⟨i, Q, hi, rfl, hQ, hS⟩ := hrel
    by_cases hlt : i < k
    · have hQ2 := hQ.step (by omega) (by omega)
      have HQ := hid hQ2
      clear hQ hQ2
      repeat' (first
        | ((with_reducible show wpList _ _ _ (⟨_, .move _, _, _, _, _⟩ :: _) _ _); (first | go_big_want | go_step); go_step)
        | ((with_reducible show wpList _ _ _ (⟨some 13, .binOp .lss _ _ _ _, _, _, _, _⟩ :: _) _ _); (refine wplV _ (V.lss rfl rfl) (by kernel_rfl) ?_; go_step))
        | ((fail_if_success (with_reducible show wpList _ _ _ (_ :: _) _ _)); go_step))
      refine drawn_lit [21, 23] (fun w => St W w (pks g n c Q :: rs')) (by kernel_rfl) ?_
      replace hS := hS.drew
      focus
        refine takeM 0 _ (by (repeat (first | with_reducible exact AtL.head | apply AtL.tail))) (by kernel_rfl) (by kernel_rfl) (by kernel_rfl) (by exact fun _ _ _ _ h => h) rfl ?_
        go_step
        refine takeM 1 _ (by (repeat (first | with_reducible exact AtL.head | apply AtL.tail))) (by kernel_rfl) (by kernel_rfl) (by kernel_rfl) (by exact fun _ _ _ _ h => h) rfl ?_
        go_step
        refine takeM 2 _ (by (repeat (first | with_reducible exact AtL.head | apply AtL.tail))) (by kernel_rfl) (by kernel_rfl) (by kernel_rfl) (by exact fun _ _ _ _ h => h) rfl ?_
        go_step
        (refine takeV 3 (.int _ (((a + i : Nat) : Int))) (by (repeat (first | with_reducible exact AtL.head | apply AtL.tail))) (by kernel_rfl) (by kernel_rfl) (by kernel_rfl) (by exact fun _ _ _ _ h => h) (V.as (V.addI rfl rfl (by omega)) (by omega)) rfl ?_)
        go_step
        refine takeM 4 _ (by (repeat (first | with_reducible exact AtL.head | apply AtL.tail))) (by kernel_rfl) (by kernel_rfl) (by kernel_rfl) (by exact fun _ _ _ _ h => h) rfl ?_
        go_step
        refine takeM 5 _ (by (repeat (first | with_reducible exact AtL.head | apply AtL.tail))) (by kernel_rfl) (by kernel_rfl) (by kernel_rfl) (by exact fun _ _ _ _ h => h) rfl ?_
        go_step
        refine takeM 6 _ (by (repeat (first | with_reducible exact AtL.head | apply AtL.tail))) (by kernel_rfl) (by kernel_rfl) (by kernel_rfl) (by exact fun _ _ _ _ h => h) rfl ?_
        go_step
        (refine takeV 7 (.int _ (((b + i : Nat) : Int))) (by (repeat (first | with_reducible exact AtL.head | apply AtL.tail))) (by kernel_rfl) (by kernel_rfl) (by kernel_rfl) (by exact fun _ _ _ _ h => h) (V.as (V.addI rfl rfl (by omega)) (by omega)) rfl ?_)
        go_step
        refine takeM 8 _ (by (repeat (first | with_reducible exact AtL.head | apply AtL.tail))) (by kernel_rfl) (by kernel_rfl) (by kernel_rfl) (by exact fun _ _ _ _ h => h) rfl ?_
        go_step
        refine takeM 9 _ (by (repeat (first | with_reducible exact AtL.head | apply AtL.tail))) (by kernel_rfl) (by kernel_rfl) (by kernel_rfl) (by exact fun _ _ _ _ h => h) rfl ?_
        go_step
        refine takeM 10 _ (by (repeat (first | with_reducible exact AtL.head | apply AtL.tail))) (by kernel_rfl) (by kernel_rfl) (by kernel_rfl) (by exact fun _ _ _ _ h => h) rfl ?_
        go_step
        (refine takeV 11 (.int _ (((b + i : Nat) : Int))) (by (repeat (first | with_reducible exact AtL.head | apply AtL.tail))) (by kernel_rfl) (by kernel_rfl) (by kernel_rfl) (by exact fun _ _ _ _ h => h) (V.as (V.addI rfl rfl (by omega)) (by omega)) rfl ?_)
        go_step
        (refine takeV 12 _ (by (repeat (first | with_reducible exact AtL.head | apply AtL.tail))) (by kernel_rfl) (by kernel_rfl) (by kernel_rfl) (by exact fun _ _ _ _ h => h) (V.indexSl Try.underlying49 isz48 rfl rfl (by (repeat (first | exact IsN.auto | with_reducible apply IsN.add | with_reducible apply IsN.sub | with_reducible apply IsN.mul | with_reducible apply IsN.div | with_reducible apply IsN.mod | with_reducible apply IsN.min | with_reducible apply IsN.max | (with_reducible show (_ : Nat) ≤ _; omega) | exact IsN.toNat (by omega)))) (by omega) rfl (by first | with_reducible exact Nat.zero_add _ | with_reducible exact Nat.add_zero _ | exact rfl)) rfl ?_)
        go_step
        apply takeS 13 (by (repeat (first | with_reducible exact AtL.head | apply AtL.tail))) (by kernel_rfl) (by kernel_rfl) (by kernel_rfl) (by exact fun _ _ _ _ h => h) [20, 21, 22, 23] (by kernel_rfl) (hS.sub (by (repeat (first | exact Sub.nil | with_reducible exact Sub.refl | (apply Sub.cons; (case p => (repeat (first | with_reducible exact Pull.head | apply Pull.tail)))) | apply Sub.skip))))
        case hfr => intro w hS; ((refine wpl (by kernel_rfl) ?_; apply wp_loadE hS 48 _ rfl _ _ rfl 2 (row_of rfl) _ _ _ _ _; (case hp => (repeat (first | with_reducible exact Pull.head | apply Pull.tail))); (case inst => infer_instance); (case he => with_reducible assumption); (case hq => exact rfl); (case hj => omega); refine put_move ?_; go_step)); refine wpList_nil ?_; exact ⟨rfl, rfl⟩
        case hd => rfl
        refine takeM 14 _ (by (repeat (first | with_reducible exact AtL.head | apply AtL.tail))) (by kernel_rfl) (by kernel_rfl) (by kernel_rfl) (by exact fun _ _ _ _ h => h) rfl ?_
        go_step
        refine takeM 15 _ (by (repeat (first | with_reducible exact AtL.head | apply AtL.tail))) (by kernel_rfl) (by kernel_rfl) (by kernel_rfl) (by exact fun _ _ _ _ h => h) rfl ?_
        go_step
        refine takeM 16 _ (by (repeat (first | with_reducible exact AtL.head | apply AtL.tail))) (by kernel_rfl) (by kernel_rfl) (by kernel_rfl) (by exact fun _ _ _ _ h => h) rfl ?_
        go_step
        (refine takeV 17 (.int _ (((a + i : Nat) : Int))) (by (repeat (first | with_reducible exact AtL.head | apply AtL.tail))) (by kernel_rfl) (by kernel_rfl) (by kernel_rfl) (by exact fun _ _ _ _ h => h) (V.as (V.addI rfl rfl (by omega)) (by omega)) rfl ?_)
        go_step
        (refine takeV 18 _ (by (repeat (first | with_reducible exact AtL.head | apply AtL.tail))) (by kernel_rfl) (by kernel_rfl) (by kernel_rfl) (by exact fun _ _ _ _ h => h) (V.indexSl Try.underlying49 isz48 rfl rfl (by (repeat (first | exact IsN.auto | with_reducible apply IsN.add | with_reducible apply IsN.sub | with_reducible apply IsN.mul | with_reducible apply IsN.div | with_reducible apply IsN.mod | with_reducible apply IsN.min | with_reducible apply IsN.max | (with_reducible show (_ : Nat) ≤ _; omega) | exact IsN.toNat (by omega)))) (by omega) rfl (by first | with_reducible exact Nat.zero_add _ | with_reducible exact Nat.add_zero _ | exact rfl)) rfl ?_)
        go_step
        apply takeS 19 (by (repeat (first | with_reducible exact AtL.head | apply AtL.tail))) (by kernel_rfl) (by kernel_rfl) (by kernel_rfl) (by exact fun _ _ _ _ h => h) [20, 21, 22, 23] (by kernel_rfl) (hS.sub (by (repeat (first | exact Sub.nil | with_reducible exact Sub.refl | (apply Sub.cons; (case p => (repeat (first | with_reducible exact Pull.head | apply Pull.tail)))) | apply Sub.skip))))
        case hfr => intro w hS; ((refine wpl (by kernel_rfl) ?_; apply wp_loadE hS 48 _ rfl _ _ rfl 2 (row_of rfl) _ _ _ _ _; (case hp => (repeat (first | with_reducible exact Pull.head | apply Pull.tail))); (case inst => infer_instance); (case he => with_reducible assumption); (case hq => exact rfl); (case hj => omega); refine put_move ?_; go_step)); refine wpList_nil ?_; exact ⟨rfl, rfl⟩
        case hd => rfl
        (refine takeV 20 _ (by (repeat (first | with_reducible exact AtL.head | apply AtL.tail))) (by kernel_rfl) (by kernel_rfl) (by kernel_rfl) (by exact fun _ _ _ _ h => h) (V.indexSl Try.underlying49 isz48 rfl rfl (by (repeat (first | exact IsN.auto | with_reducible apply IsN.add | with_reducible apply IsN.sub | with_reducible apply IsN.mul | with_reducible apply IsN.div | with_reducible apply IsN.mod | with_reducible apply IsN.min | with_reducible apply IsN.max | (with_reducible show (_ : Nat) ≤ _; omega) | exact IsN.toNat (by omega)))) (by omega) rfl (by first | with_reducible exact Nat.zero_add _ | with_reducible exact Nat.add_zero _ | exact rfl)) rfl ?_)
        go_step
        refine branch1 21 (by (repeat (first | with_reducible exact AtL.head | apply AtL.tail))) rfl (by kernel_rfl) ?_
        (apply wp_storeE hS 48 _ _ rfl _ _ rfl 2 (row_of rfl) _ _ _ _ _; (case hp => (repeat (first | with_reducible exact Pull.head | apply Pull.tail))); (case inst => infer_instance); (case he => with_reducible assumption); (case hone => with_reducible assumption); (case hq => exact rfl); (case hj => omega); (case hy => exact rfl); (case hd => exact rfl); clear hS; intro w hS)
        refine ⟨fun h => absurd (by decide) h, ?_⟩
        (refine takeV 22 _ (by (repeat (first | with_reducible exact AtL.head | apply AtL.tail))) (by kernel_rfl) (by kernel_rfl) (by kernel_rfl) (by exact fun _ _ _ _ h => h) (V.indexSl Try.underlying49 isz48 rfl rfl (by (repeat (first | exact IsN.auto | with_reducible apply IsN.add | with_reducible apply IsN.sub | with_reducible apply IsN.mul | with_reducible apply IsN.div | with_reducible apply IsN.mod | with_reducible apply IsN.min | with_reducible apply IsN.max | (with_reducible show (_ : Nat) ≤ _; omega) | exact IsN.toNat (by omega)))) (by omega) rfl (by first | with_reducible exact Nat.zero_add _ | with_reducible exact Nat.add_zero _ | exact rfl)) rfl ?_)
        go_step
        refine branch1 23 (by (repeat (first | with_reducible exact AtL.head | apply AtL.tail))) rfl (by kernel_rfl) ?_
        (apply wp_storeE hS 48 _ _ rfl _ _ rfl 2 (row_of rfl) _ _ _ _ _; (case hp => (repeat (first | with_reducible exact Pull.head | apply Pull.tail))); (case inst => infer_instance); (case he => with_reducible assumption); (case hone => with_reducible assumption); (case hq => exact rfl); (case hj => omega); (case hy => exact rfl); (case hd => exact rfl); clear hS; intro w hS)
        refine ⟨fun h => absurd (by decide) h, ?_⟩
        refine drawn_done (by kernel_rfl) ?_ _
      repeat' (first
        | ((with_reducible show wpList _ _ _ (⟨_, .move _, _, _, _, _⟩ :: _) _ _); (first | go_big_want | go_step); go_step)
        | ((with_reducible show wpList _ _ _ (⟨_, .assign _, _, _, _, _⟩ :: _) _ _); (first | go_big_want | go_step); go_step)
        | ((with_reducible show wpList _ _ _ (⟨some 15, .binOp .add _ _ _ _, _, _, _, _⟩ :: _) _ _); (refine wplV _ (V.addI rfl rfl (by omega)) (by kernel_rfl) ?_; go_step))
        | ((fail_if_success (with_reducible show wpList _ _ _ (_ :: _) _ _)); go_step))
      go_roundg (gk - 1)
      case measure => omega
      case rel => exact ⟨i + 1, swp Q (a + i) (b + i), by omega, by go_num, HQ.out, hS⟩
    · obtain rfl : i = k := by omega
      repeat' (first
        | ((with_reducible show wpList _ _ _ (⟨_, .move _, _, _, _, _⟩ :: _) _ _); (first | go_big_want | go_step); go_step)
        | ((with_reducible show wpList _ _ _ (⟨some 13, .binOp .lss _ _ _ _, _, _, _, _⟩ :: _) _ _); (refine wplV _ (V.lss rfl rfl) (by kernel_rfl) ?_; go_step))
        | ((fail_if_success (with_reducible show wpList _ _ _ (_ :: _) _ _)); go_step))
      go_end0
      exact ⟨rfl, Q, hQ, hS⟩
theorem rotate_any (W w0 : World) (rs rs' : List Res) (g n c a m b : Nat) (P : List PkV) (hS : St W w0 rs) (hp : Pull (pks g n c P) rs rs') (ham : a < m) (hmb : m < b) (hb : b ≤ n) (hn : n ≤ 1000000) (K : Value) :
    Calls Try.prog 35 #[.slice (some ⟨g, 0, none⟩) n c, .int .i64 a, .int .i64 m, .int .i64 b, K] w0 fun e w => e = .returned (.tuple #[]) ∧ ∃ Q, Rot a m b P Q ∧ St W w (pks g n c Q :: rs') := by
  replace hS := hS.pull hp
  have hPl := own_recs hS Pull.head pkE_len (by decide)
  obtain ⟨A0, U0, V0, B0, hP, hA0, hU0, hV0⟩ : ∃ A U Y B : List PkV, P = A ++ (U ++ (Y ++ B)) ∧ A.length = a ∧ U.length = m - a ∧ Y.length = b - m :=
    ⟨P.take a, (P.drop a).take (m - a), ((P.drop a).drop (m - a)).take (b - m), ((P.drop a).drop (m - a)).drop (b - m), by rw [List.take_append_drop, List.take_append_drop, List.take_append_drop], by simp; omega, by simp; omega, by simp; omega⟩
  have HG : Hid (∀ Q, Q = A0 ++ (V0 ++ (U0 ++ B0)) → Rot a m b P Q) := fun Q h => ⟨A0, U0, V0, B0, hP, h, hA0, hU0, hV0⟩
  obtain ⟨T, hT⟩ : ∃ T, A0 ++ (V0 ++ (U0 ++ B0)) = T := ⟨_, rfl⟩
  rw [hT] at HG
  rw [hP] at hS hPl
  clear hP hp
  go_enter Try.func35, Try.ntmps35
  repeat' (first
    | ((with_reducible show wpList _ _ _ (⟨some 14, .binOp .sub _ _ _ _, _, _, _, _⟩ :: _) _ _); (refine wplV (.int _ (((m - a : Nat) : Int))) (V.as (V.subI rfl rfl (by omega)) (by omega)) rfl ?_; go_step))
    | ((with_reducible show wpList _ _ _ (⟨some 17, .binOp .sub _ _ _ _, _, _, _, _⟩ :: _) _ _); (refine wplV (.int _ (((b - m : Nat) : Int))) (V.as (V.subI rfl rfl (by omega)) (by omega)) rfl ?_; go_step))
    | ((with_reducible show wpList _ _ _ (⟨_, .move _, _, _, _, _⟩ :: _) _ _); (first | go_big_want | go_step); go_step)
    | ((with_reducible show wpList _ _ _ (⟨_, .assign _, _, _, _, _⟩ :: _) _ _); (first | go_big_want | go_step); go_step)
    | ((fail_if_success (with_reducible show wpList _ _ _ (_ :: _) _ _)); go_step))
  go_loopg [10, 11] (b - a) (fun gk iv jv w => ∃ (i j x : Nat) (A U Y B : List PkV), gk = i + j ∧ iv = .int .i64 i ∧ jv = .int .i64 j ∧ A.length = x ∧ U.length = i ∧ Y.length = j ∧ x + i = m ∧ m + j ≤ b ∧ 1 ≤ i ∧ 1 ≤ j ∧ A ++ (Y ++ (U ++ B)) = T ∧ St W w (pks g n c (A ++ (U ++ (Y ++ B))) :: rs'))
  case atStart => exact ⟨m - a, b - m, a, A0, U0, V0, B0, by omega, rfl, rfl, hA0, hU0, hV0, by omega, by omega, by omega, by omega, hT, hS⟩
  case round =>
    clear hS hT hU0 hV0 hA0 hPl
    obtain ⟨i, j, x, A, U, Y, B, hk, rfl, rfl, hA, hU, hV, hxm, hmj, hi1, hj1, hT, hS⟩ := hrel
    by_cases hij : i = j
    · skip
      repeat' (first
        | ((with_reducible show wpList _ _ _ (⟨_, .move _, _, _, _, _⟩ :: _) _ _); (first | go_big_want | go_step); go_step)
        | ((with_reducible show wpList _ _ _ (⟨some 20, .binOp .neq 3 _ _ _, _, _, _, _⟩ :: _) _ _); (refine wplV _ (V.neq rfl rfl) (by kernel_rfl) ?_; go_step))
        | ((fail_if_success (with_reducible show wpList _ _ _ (_ :: _) _ _)); go_step))
      repeat' (first
        | ((with_reducible show wpList _ _ _ (⟨some 53, .binOp .sub _ _ _ _, _, _, _, _⟩ :: _) _ _); (refine wplV (.int _ (((x : Nat) : Int))) (V.as (V.subI rfl rfl (by omega)) (by omega)) rfl ?_; go_step))
        | ((with_reducible show wpList _ _ _ (⟨_, .call ⟨.value (.func 36), _, _⟩, _, _, _, _⟩ :: _) _ _); refine wpl_call (f := 36) Try.call36 (by kernel_rfl) ?_; refine ⟨_, (swapRange_any W _ _ rs' g n c x m i _ hS Pull.head (by omega) (by omega) hn K), ?_⟩; rintro e w ⟨rfl, Q, hQ, hS2⟩; replace hS := hS2; clear hS2; refine ⟨_, rfl, ?_⟩; refine put_move ?_; go_step)
        | ((with_reducible show wpList _ _ _ (⟨_, .move _, _, _, _, _⟩ :: _) _ _); (first | go_big_want | go_step); go_step)
        | ((fail_if_success (with_reducible show wpList _ _ _ (_ :: _) _ _)); go_step))
      go_end0
      refine ⟨rfl, Q, HG.out Q ?_, hS⟩
      rw [← hxm, ← hA] at hQ
      rw [hij] at hQ
      obtain ⟨U1, U2, e1, e2, e3, e4, e5⟩ := Rot.left (hij ▸ hU) hV (Nat.le_refl _) hQ
      have : U2 = [] := List.eq_nil_of_length_eq_zero (by omega)
      subst this
      rw [e4, ← hT, e5]
      simp
    · by_cases hlt : j < i
      · skip
        repeat' (first
          | ((with_reducible show wpList _ _ _ (⟨_, .move _, _, _, _, _⟩ :: _) _ _); (first | go_big_want | go_step); go_step)
          | ((with_reducible show wpList _ _ _ (⟨some 20, .binOp .neq 3 _ _ _, _, _, _, _⟩ :: _) _ _); (refine wplV _ (V.neq rfl rfl) (by kernel_rfl) ?_; go_step))
          | ((with_reducible show wpList _ _ _ (⟨some 23, .binOp .gtr _ _ _ _, _, _, _, _⟩ :: _) _ _); (refine wplV _ (V.gtr rfl rfl) (by kernel_rfl) ?_; go_step))
          | ((fail_if_success (with_reducible show wpList _ _ _ (_ :: _) _ _)); go_step))
        repeat' (first
          | ((with_reducible show wpList _ _ _ (⟨some 27, .binOp .sub _ _ _ _, _, _, _, _⟩ :: _) _ _); (refine wplV (.int _ (((x : Nat) : Int))) (V.as (V.subI rfl rfl (by omega)) (by omega)) rfl ?_; go_step))
          | ((with_reducible show wpList _ _ _ (⟨some 34, .binOp .sub _ _ _ _, _, _, _, _⟩ :: _) _ _); (refine wplV (.int _ (((i - j : Nat) : Int))) (V.as (V.subI rfl rfl (by omega)) (by omega)) rfl ?_; go_step))
          | ((with_reducible show wpList _ _ _ (⟨_, .call ⟨.value (.func 36), _, _⟩, _, _, _, _⟩ :: _) _ _); refine wpl_call (f := 36) Try.call36 (by kernel_rfl) ?_; refine ⟨_, (swapRange_any W _ _ rs' g n c x m j _ hS Pull.head (by omega) (by omega) hn K), ?_⟩; rintro e w ⟨rfl, Q, hQ, hS2⟩; replace hS := hS2; clear hS2; refine ⟨_, rfl, ?_⟩; refine put_move ?_; go_step)
          | ((with_reducible show wpList _ _ _ (⟨_, .move _, _, _, _, _⟩ :: _) _ _); (first | go_big_want | go_step); go_step)
          | ((with_reducible show wpList _ _ _ (⟨_, .assign _, _, _, _, _⟩ :: _) _ _); (first | go_big_want | go_step); go_step)
          | ((fail_if_success (with_reducible show wpList _ _ _ (_ :: _) _ _)); go_step))
        rw [← hxm, ← hA] at hQ
        obtain ⟨U1, U2, e1, e2, e3, e4, e5⟩ := Rot.left hU hV (by omega) hQ
        rw [e4] at hS
        rw [e5] at hT
        clear hQ e1 e4 e5
        go_roundg (gk - j)
        case measure => omega
        case rel => exact ⟨i - j, j, x + j, A ++ Y, U2, U1, B, by omega, rfl, rfl, by simp; omega, e3, e2, by omega, by omega, by omega, by omega, hT, hS⟩
      · skip
        repeat' (first
          | ((with_reducible show wpList _ _ _ (⟨_, .move _, _, _, _, _⟩ :: _) _ _); (first | go_big_want | go_step); go_step)
          | ((with_reducible show wpList _ _ _ (⟨some 20, .binOp .neq 3 _ _ _, _, _, _, _⟩ :: _) _ _); (refine wplV _ (V.neq rfl rfl) (by kernel_rfl) ?_; go_step))
          | ((with_reducible show wpList _ _ _ (⟨some 23, .binOp .gtr _ _ _ _, _, _, _, _⟩ :: _) _ _); (refine wplV _ (V.gtr rfl rfl) (by kernel_rfl) ?_; go_step))
          | ((fail_if_success (with_reducible show wpList _ _ _ (_ :: _) _ _)); go_step))
        repeat' (first
          | ((with_reducible show wpList _ _ _ (⟨some 38, .binOp .sub _ _ _ _, _, _, _, _⟩ :: _) _ _); (refine wplV (.int _ (((x : Nat) : Int))) (V.as (V.subI rfl rfl (by omega)) (by omega)) rfl ?_; go_step))
          | ((with_reducible show wpList _ _ _ (⟨some 43, .binOp .sub _ _ _ _, _, _, _, _⟩ :: _) _ _); (refine wplV (.int _ (((x + j : Nat) : Int))) (V.as (V.subI rfl rfl (by omega)) (by omega)) rfl ?_; go_step))
          | ((with_reducible show wpList _ _ _ (⟨some 49, .binOp .sub _ _ _ _, _, _, _, _⟩ :: _) _ _); (refine wplV (.int _ (((j - i : Nat) : Int))) (V.as (V.subI rfl rfl (by omega)) (by omega)) rfl ?_; go_step))
          | ((with_reducible show wpList _ _ _ (⟨_, .call ⟨.value (.func 36), _, _⟩, _, _, _, _⟩ :: _) _ _); refine wpl_call (f := 36) Try.call36 (by kernel_rfl) ?_; refine ⟨_, (swapRange_any W _ _ rs' g n c x (x + j) i _ hS Pull.head (by omega) (by omega) hn K), ?_⟩; rintro e w ⟨rfl, Q, hQ, hS2⟩; replace hS := hS2; clear hS2; refine ⟨_, rfl, ?_⟩; refine put_move ?_; go_step)
          | ((with_reducible show wpList _ _ _ (⟨_, .move _, _, _, _, _⟩ :: _) _ _); (first | go_big_want | go_step); go_step)
          | ((with_reducible show wpList _ _ _ (⟨_, .assign _, _, _, _, _⟩ :: _) _ _); (first | go_big_want | go_step); go_step)
          | ((with_reducible show wpList _ _ _ (⟨some 41, .binOp .add _ _ _ _, _, _, _, _⟩ :: _) _ _); (refine wplV _ (V.addI rfl rfl (by omega)) (by kernel_rfl) ?_; go_step))
          | ((fail_if_success (with_reducible show wpList _ _ _ (_ :: _) _ _)); go_step))
        rw [← hA] at hQ
        obtain ⟨V1, V2, e1, e2, e3, e4, e5⟩ := Rot.right hU hV (by omega) hQ
        rw [e4] at hS
        rw [e5] at hT
        clear hQ e1 e4 e5
        go_roundg (gk - i)
        case measure => omega
        case rel => exact ⟨i, j - i, x, A, V2, V1, U ++ B, by omega, rfl, rfl, hA, e3, e2, by omega, by omega, by omega, by omega, hT, hS⟩
abbrev byW : Value := .func (.func 20) #[] #[]
abbrev wk (P : List PkV) (i : Nat) : Int := (elt P i).w
theorem cmpv_lt (x y : Int) : cmpv x y < 0 ↔ x < y := by unfold cmpv; constructor <;> intro h <;> (repeat' split at h) <;> (repeat' split) <;> omega
theorem insSort_any (W w0 : World) (rs rs' : List Res) (g n c a b : Nat) (P : List PkV) (hS : St W w0 rs) (hp : Pull (pks g n c P) rs rs') (hab : a ≤ b) (hb : b ≤ n) (hn : n ≤ 1000000) :
    Calls Try.prog 32 #[.slice (some ⟨g, 0, none⟩) n c, .int .i64 a, .int .i64 b, byW] w0 fun e w => e = .returned (.tuple #[]) ∧ ∃ Q, Asc PkV.w a b Q ∧ Rg a b P Q ∧ St W w (pks g n c Q :: rs') := by
  replace hS := hS.pull hp
  have he := pkE_len
  have h1e := pkE_one
  have hPl := own_recs hS Pull.head pkE_len (by decide)
  go_enter Try.func32, Try.ntmps32
  repeat' (first
    | ((with_reducible show wpList _ _ _ (⟨some 11, .binOp .add _ _ _ _, _, _, _, _⟩ :: _) _ _); (refine wplV (.int _ (((a + 1 : Nat) : Int))) (V.as (V.addI rfl rfl (by omega)) (by omega)) rfl ?_; go_step))
    | ((with_reducible show wpList _ _ _ (⟨_, .move _, _, _, _, _⟩ :: _) _ _); (first | go_big_want | go_step); go_step)
    | ((with_reducible show wpList _ _ _ (⟨_, .assign _, _, _, _, _⟩ :: _) _ _); (first | go_big_want | go_step); go_step)
    | ((fail_if_success (with_reducible show wpList _ _ _ (_ :: _) _ _)); go_step))
  go_loopg [8] (b - a) (fun gk iv w => ∃ (i : Nat) (Q : List PkV), gk + i = b + 1 ∧ a < i ∧ iv = .int .i64 i ∧ Asc PkV.w a i Q ∧ Rg a b P Q ∧ St W w (pks g n c Q :: rs'))
  case atStart => exact ⟨a + 1, P, by omega, by omega, rfl, fun x y h1 h2 h3 => by rw [show x = y by omega]; exact Int.le_refl _, Rg.refl a b P, hS⟩
  case round =>
    clear hS
    obtain ⟨i, Q, hi, hai, rfl, hA, hR, hS⟩ := hrel
    by_cases hlt : i < b
    · obtain ⟨gk1, hgk1⟩ : ∃ x, x = gk := ⟨_, rfl⟩
      subst hgk1
      have hQl := hR.len
      have HA := hid hA
      have HR := hid hR
      clear hA hR
      repeat' (first
        | ((with_reducible show wpList _ _ _ (⟨_, .move _, _, _, _, _⟩ :: _) _ _); (first | go_big_want | go_step); go_step)
        | ((with_reducible show wpList _ _ _ (⟨_, .assign _, _, _, _, _⟩ :: _) _ _); (first | go_big_want | go_step); go_step)
        | ((with_reducible show wpList _ _ _ (⟨some 14, .binOp .lss _ _ _ _, _, _, _, _⟩ :: _) _ _); (refine wplV _ (V.lss rfl rfl) (by kernel_rfl) ?_; go_step))
        | ((fail_if_success (with_reducible show wpList _ _ _ (_ :: _) _ _)); go_step))
      repeat' (first
        | ((fail_if_success (with_reducible show wpList _ _ _ (_ :: _) _ _)); go_step))
      go_loopg [9] (i - a) (fun gk jv w => ∃ (j : Nat) (Z : List PkV), gk + a = j ∧ j ≤ i ∧ jv = .int .i64 j ∧ Dn i j Q Z ∧ (j < i → wk Q i ≤ wk Q j) ∧ Rg a b P Z ∧ St W w (pks g n c Z :: rs'))
      case atStart => exact ⟨i, Q, by omega, by omega, rfl, Dn.refl i Q, fun h => by omega, HR.out, hS⟩
      case round =>
        clear hS
        obtain ⟨j, Z, hj, hji, rfl, hD, hhi, hR, hS⟩ := hrel
        by_cases hja : a < j
        · obtain ⟨q, rfl⟩ : ∃ q, j = q + 1 := ⟨j - 1, by omega⟩
          obtain ⟨v, hv⟩ : ∃ v, cmpv (elt Z (q + 1)).w (elt Z q).w = v := ⟨_, rfl⟩
          have hv2 := cmpv_lt (elt Z (q + 1)).w (elt Z q).w
          rw [hv] at hv2
          rw [hD.eq, hD.lo q (by omega)] at hv2
          have HV := hid hv
          have HV2 := hid hv2
          have HD := hid hD
          have HR2 := hid hR
          have HH := hid hhi
          clear hv hv2 hD hR hhi
          repeat' (first
            | ((fail_if_success (with_reducible show wpList _ _ _ (_ :: _) _ _)); go_step))
          refine drawn_lit [14] (fun w => St W w (pks g n c Z :: rs')) (by kernel_rfl) ?_
          replace hS := hS.drew
          focus
            refine takeM 0 _ (by (repeat (first | with_reducible exact AtL.head | apply AtL.tail))) (by kernel_rfl) (by kernel_rfl) (by kernel_rfl) (by exact fun _ _ _ _ h => h) rfl ?_
            go_step
            refine takeM 1 _ (by (repeat (first | with_reducible exact AtL.head | apply AtL.tail))) (by kernel_rfl) (by kernel_rfl) (by kernel_rfl) (by exact fun _ _ _ _ h => h) rfl ?_
            go_step
            (refine takeD 2 _ (by (repeat (first | with_reducible exact AtL.head | apply AtL.tail))) (by kernel_rfl) (by kernel_rfl) (by kernel_rfl) (by exact fun _ _ _ _ h => h) (V.gtr rfl rfl) rfl (fun hB => ?_) (fun hB => ?_))
            rotate_left 1
            focus
              (try (have hF : False := (by omega); cases hF))
              all_goals
                go_step
                refine takeM 3 _ (by (repeat (first | with_reducible exact AtL.head | apply AtL.tail))) (by kernel_rfl) (by kernel_rfl) (by kernel_rfl) (by exact fun _ _ _ _ h => h) rfl ?_
                go_step
                refine takeN 4 (by (repeat (first | with_reducible exact AtL.head | apply AtL.tail))) (by kernel_rfl) (by kernel_rfl) (by kernel_rfl) (by exact fun _ _ _ _ h => h) rfl ?_
                go_step
                refine takeN 5 (by (repeat (first | with_reducible exact AtL.head | apply AtL.tail))) (by kernel_rfl) (by kernel_rfl) (by kernel_rfl) (by exact fun _ _ _ _ h => h) rfl ?_
                go_step
                refine takeN 6 (by (repeat (first | with_reducible exact AtL.head | apply AtL.tail))) (by kernel_rfl) (by kernel_rfl) (by kernel_rfl) (by exact fun _ _ _ _ h => h) rfl ?_
                go_step
                refine takeN 7 (by (repeat (first | with_reducible exact AtL.head | apply AtL.tail))) (by kernel_rfl) (by kernel_rfl) (by kernel_rfl) (by exact fun _ _ _ _ h => h) rfl ?_
                go_step
                refine takeN 8 (by (repeat (first | with_reducible exact AtL.head | apply AtL.tail))) (by kernel_rfl) (by kernel_rfl) (by kernel_rfl) (by exact fun _ _ _ _ h => h) rfl ?_
                go_step
                refine takeN 9 (by (repeat (first | with_reducible exact AtL.head | apply AtL.tail))) (by kernel_rfl) (by kernel_rfl) (by kernel_rfl) (by exact fun _ _ _ _ h => h) rfl ?_
                go_step
                refine takeN 10 (by (repeat (first | with_reducible exact AtL.head | apply AtL.tail))) (by kernel_rfl) (by kernel_rfl) (by kernel_rfl) (by exact fun _ _ _ _ h => h) rfl ?_
                go_step
                refine takeN 11 (by (repeat (first | with_reducible exact AtL.head | apply AtL.tail))) (by kernel_rfl) (by kernel_rfl) (by kernel_rfl) (by exact fun _ _ _ _ h => h) rfl ?_
                go_step
                refine takeN 12 (by (repeat (first | with_reducible exact AtL.head | apply AtL.tail))) (by kernel_rfl) (by kernel_rfl) (by kernel_rfl) (by exact fun _ _ _ _ h => h) rfl ?_
                go_step
                refine takeN 13 (by (repeat (first | with_reducible exact AtL.head | apply AtL.tail))) (by kernel_rfl) (by kernel_rfl) (by kernel_rfl) (by exact fun _ _ _ _ h => h) rfl ?_
                go_step
                refine takeN 14 (by (repeat (first | with_reducible exact AtL.head | apply AtL.tail))) (by kernel_rfl) (by kernel_rfl) (by kernel_rfl) (by exact fun _ _ _ _ h => h) rfl ?_
                go_step
                refine takeN 15 (by (repeat (first | with_reducible exact AtL.head | apply AtL.tail))) (by kernel_rfl) (by kernel_rfl) (by kernel_rfl) (by exact fun _ _ _ _ h => h) rfl ?_
                go_step
                refine takePickF 16 (by (repeat (first | with_reducible exact AtL.head | apply AtL.tail))) (by kernel_rfl) (by kernel_rfl) (by kernel_rfl) (by exact fun _ _ _ _ h => h) rfl rfl ?_
                go_step
                refine drawn_done (by kernel_rfl) ?_ _
            rotate_right 1
            focus
              (try (have hF : False := (by omega); cases hF))
              all_goals
                go_step
                refine takeM 3 _ (by (repeat (first | with_reducible exact AtL.head | apply AtL.tail))) (by kernel_rfl) (by kernel_rfl) (by kernel_rfl) (by exact fun _ _ _ _ h => h) rfl ?_
                go_step
                refine takeM 4 _ (by (repeat (first | with_reducible exact AtL.head | apply AtL.tail))) (by kernel_rfl) (by kernel_rfl) (by kernel_rfl) (by exact fun _ _ _ _ h => h) rfl ?_
                go_step
                refine takeM 5 _ (by (repeat (first | with_reducible exact AtL.head | apply AtL.tail))) (by kernel_rfl) (by kernel_rfl) (by kernel_rfl) (by exact fun _ _ _ _ h => h) rfl ?_
                go_step
                refine takeM 6 _ (by (repeat (first | with_reducible exact AtL.head | apply AtL.tail))) (by kernel_rfl) (by kernel_rfl) (by kernel_rfl) (by exact fun _ _ _ _ h => h) rfl ?_
                go_step
                (refine takeV 7 _ (by (repeat (first | with_reducible exact AtL.head | apply AtL.tail))) (by kernel_rfl) (by kernel_rfl) (by kernel_rfl) (by exact fun _ _ _ _ h => h) (V.indexSl Try.underlying49 isz48 rfl rfl (by (repeat (first | exact IsN.auto | with_reducible apply IsN.add | with_reducible apply IsN.sub | with_reducible apply IsN.mul | with_reducible apply IsN.div | with_reducible apply IsN.mod | with_reducible apply IsN.min | with_reducible apply IsN.max | (with_reducible show (_ : Nat) ≤ _; omega) | exact IsN.toNat (by omega)))) (by omega) rfl (by first | with_reducible exact Nat.zero_add _ | with_reducible exact Nat.add_zero _ | exact rfl)) rfl ?_)
                go_step
                apply takeS 8 (by (repeat (first | with_reducible exact AtL.head | apply AtL.tail))) (by kernel_rfl) (by kernel_rfl) (by kernel_rfl) (by exact fun _ _ _ _ h => h) [14, 15, 16] (by kernel_rfl) (hS.sub (by (repeat (first | exact Sub.nil | with_reducible exact Sub.refl | (apply Sub.cons; (case p => (repeat (first | with_reducible exact Pull.head | apply Pull.tail)))) | apply Sub.skip))))
                case hfr => intro w hS; ((refine wpl (by kernel_rfl) ?_; apply wp_loadE hS 48 _ rfl _ _ rfl 2 (row_of rfl) _ _ _ _ _; (case hp => (repeat (first | with_reducible exact Pull.head | apply Pull.tail))); (case inst => infer_instance); (case he => with_reducible assumption); (case hq => exact rfl); (case hj => omega); refine put_move ?_; go_step)); refine wpList_nil ?_; exact ⟨rfl, rfl⟩
                case hd => rfl
                refine takeM 9 _ (by (repeat (first | with_reducible exact AtL.head | apply AtL.tail))) (by kernel_rfl) (by kernel_rfl) (by kernel_rfl) (by exact fun _ _ _ _ h => h) rfl ?_
                go_step
                refine takeM 10 _ (by (repeat (first | with_reducible exact AtL.head | apply AtL.tail))) (by kernel_rfl) (by kernel_rfl) (by kernel_rfl) (by exact fun _ _ _ _ h => h) rfl ?_
                go_step
                (refine takeV 11 (.int _ (((q : Nat) : Int))) (by (repeat (first | with_reducible exact AtL.head | apply AtL.tail))) (by kernel_rfl) (by kernel_rfl) (by kernel_rfl) (by exact fun _ _ _ _ h => h) (V.as (V.subI rfl rfl (by omega)) (by omega)) rfl ?_)
                go_step
                (refine takeV 12 _ (by (repeat (first | with_reducible exact AtL.head | apply AtL.tail))) (by kernel_rfl) (by kernel_rfl) (by kernel_rfl) (by exact fun _ _ _ _ h => h) (V.indexSl Try.underlying49 isz48 rfl rfl (by (repeat (first | exact IsN.auto | with_reducible apply IsN.add | with_reducible apply IsN.sub | with_reducible apply IsN.mul | with_reducible apply IsN.div | with_reducible apply IsN.mod | with_reducible apply IsN.min | with_reducible apply IsN.max | (with_reducible show (_ : Nat) ≤ _; omega) | exact IsN.toNat (by omega)))) (by omega) rfl (by first | with_reducible exact Nat.zero_add _ | with_reducible exact Nat.add_zero _ | exact rfl)) rfl ?_)
                go_step
                apply takeS 13 (by (repeat (first | with_reducible exact AtL.head | apply AtL.tail))) (by kernel_rfl) (by kernel_rfl) (by kernel_rfl) (by exact fun _ _ _ _ h => h) [14, 15, 16] (by kernel_rfl) (hS.sub (by (repeat (first | exact Sub.nil | with_reducible exact Sub.refl | (apply Sub.cons; (case p => (repeat (first | with_reducible exact Pull.head | apply Pull.tail)))) | apply Sub.skip))))
                case hfr => intro w hS; ((refine wpl (by kernel_rfl) ?_; apply wp_loadE hS 48 _ rfl _ _ rfl 2 (row_of rfl) _ _ _ _ _; (case hp => (repeat (first | with_reducible exact Pull.head | apply Pull.tail))); (case inst => infer_instance); (case he => with_reducible assumption); (case hq => exact rfl); (case hj => omega); refine put_move ?_; go_step)); refine wpList_nil ?_; exact ⟨rfl, rfl⟩
                case hd => rfl
                refine branch1 14 (by (repeat (first | with_reducible exact AtL.head | apply AtL.tail))) rfl (by kernel_rfl) ?_
                refine wp_callV (f := 20) rfl rfl Try.call20 (byWeight_any _ (elt Z (q + 1)) (elt Z q)) ?_; rintro e w ⟨rfl, hE⟩; replace hS := hS.ext hE; clear hE; rw [HV.out]; refine ⟨_, rfl, ?_⟩
                refine ⟨fun h => absurd (by decide) h, ?_⟩
                refine drawn_move ?_
                go_step
                (refine takeV 15 _ (by (repeat (first | with_reducible exact AtL.head | apply AtL.tail))) (by kernel_rfl) (by kernel_rfl) (by kernel_rfl) (by exact fun _ _ _ _ h => h) (V.lss rfl rfl) rfl ?_)
                go_step
                refine takePickT 16 (by (repeat (first | with_reducible exact AtL.head | apply AtL.tail))) (by kernel_rfl) (by kernel_rfl) (by kernel_rfl) (by exact fun _ _ _ _ h => h) rfl rfl ?_
                go_step
                refine drawn_done (by kernel_rfl) ?_ _
          by_cases hc : v < 0
          · skip
            repeat' (first
              | ((fail_if_success (with_reducible show wpList _ _ _ (_ :: _) _ _)); go_step))
            refine drawn_lit [15, 17] (fun w => St W w (pks g n c Z :: rs')) (by kernel_rfl) ?_
            replace hS := hS.drew
            focus
              refine takeM 0 _ (by (repeat (first | with_reducible exact AtL.head | apply AtL.tail))) (by kernel_rfl) (by kernel_rfl) (by kernel_rfl) (by exact fun _ _ _ _ h => h) rfl ?_
              go_step
              refine takeM 1 _ (by (repeat (first | with_reducible exact AtL.head | apply AtL.tail))) (by kernel_rfl) (by kernel_rfl) (by kernel_rfl) (by exact fun _ _ _ _ h => h) rfl ?_
              go_step
              refine takeM 2 _ (by (repeat (first | with_reducible exact AtL.head | apply AtL.tail))) (by kernel_rfl) (by kernel_rfl) (by kernel_rfl) (by exact fun _ _ _ _ h => h) rfl ?_
              go_step
              refine takeM 3 _ (by (repeat (first | with_reducible exact AtL.head | apply AtL.tail))) (by kernel_rfl) (by kernel_rfl) (by kernel_rfl) (by exact fun _ _ _ _ h => h) rfl ?_
              go_step
              (refine takeV 4 (.int _ (((q : Nat) : Int))) (by (repeat (first | with_reducible exact AtL.head | apply AtL.tail))) (by kernel_rfl) (by kernel_rfl) (by kernel_rfl) (by exact fun _ _ _ _ h => h) (V.as (V.subI rfl rfl (by omega)) (by omega)) rfl ?_)
              go_step
              refine takeM 5 _ (by (repeat (first | with_reducible exact AtL.head | apply AtL.tail))) (by kernel_rfl) (by kernel_rfl) (by kernel_rfl) (by exact fun _ _ _ _ h => h) rfl ?_
              go_step
              refine takeM 6 _ (by (repeat (first | with_reducible exact AtL.head | apply AtL.tail))) (by kernel_rfl) (by kernel_rfl) (by kernel_rfl) (by exact fun _ _ _ _ h => h) rfl ?_
              go_step
              (refine takeV 7 (.int _ (((q : Nat) : Int))) (by (repeat (first | with_reducible exact AtL.head | apply AtL.tail))) (by kernel_rfl) (by kernel_rfl) (by kernel_rfl) (by exact fun _ _ _ _ h => h) (V.as (V.subI rfl rfl (by omega)) (by omega)) rfl ?_)
              go_step
              (refine takeV 8 _ (by (repeat (first | with_reducible exact AtL.head | apply AtL.tail))) (by kernel_rfl) (by kernel_rfl) (by kernel_rfl) (by exact fun _ _ _ _ h => h) (V.indexSl Try.underlying49 isz48 rfl rfl (by (repeat (first | exact IsN.auto | with_reducible apply IsN.add | with_reducible apply IsN.sub | with_reducible apply IsN.mul | with_reducible apply IsN.div | with_reducible apply IsN.mod | with_reducible apply IsN.min | with_reducible apply IsN.max | (with_reducible show (_ : Nat) ≤ _; omega) | exact IsN.toNat (by omega)))) (by omega) rfl (by first | with_reducible exact Nat.zero_add _ | with_reducible exact Nat.add_zero _ | exact rfl)) rfl ?_)
              go_step
              apply takeS 9 (by (repeat (first | with_reducible exact AtL.head | apply AtL.tail))) (by kernel_rfl) (by kernel_rfl) (by kernel_rfl) (by exact fun _ _ _ _ h => h) [14, 15, 16, 17] (by kernel_rfl) (hS.sub (by (repeat (first | exact Sub.nil | with_reducible exact Sub.refl | (apply Sub.cons; (case p => (repeat (first | with_reducible exact Pull.head | apply Pull.tail)))) | apply Sub.skip))))
              case hfr => intro w hS; ((refine wpl (by kernel_rfl) ?_; apply wp_loadE hS 48 _ rfl _ _ rfl 2 (row_of rfl) _ _ _ _ _; (case hp => (repeat (first | with_reducible exact Pull.head | apply Pull.tail))); (case inst => infer_instance); (case he => with_reducible assumption); (case hq => exact rfl); (case hj => omega); refine put_move ?_; go_step)); refine wpList_nil ?_; exact ⟨rfl, rfl⟩
              case hd => rfl
              refine takeM 10 _ (by (repeat (first | with_reducible exact AtL.head | apply AtL.tail))) (by kernel_rfl) (by kernel_rfl) (by kernel_rfl) (by exact fun _ _ _ _ h => h) rfl ?_
              go_step
              refine takeM 11 _ (by (repeat (first | with_reducible exact AtL.head | apply AtL.tail))) (by kernel_rfl) (by kernel_rfl) (by kernel_rfl) (by exact fun _ _ _ _ h => h) rfl ?_
              go_step
              (refine takeV 12 _ (by (repeat (first | with_reducible exact AtL.head | apply AtL.tail))) (by kernel_rfl) (by kernel_rfl) (by kernel_rfl) (by exact fun _ _ _ _ h => h) (V.indexSl Try.underlying49 isz48 rfl rfl (by (repeat (first | exact IsN.auto | with_reducible apply IsN.add | with_reducible apply IsN.sub | with_reducible apply IsN.mul | with_reducible apply IsN.div | with_reducible apply IsN.mod | with_reducible apply IsN.min | with_reducible apply IsN.max | (with_reducible show (_ : Nat) ≤ _; omega) | exact IsN.toNat (by omega)))) (by omega) rfl (by first | with_reducible exact Nat.zero_add _ | with_reducible exact Nat.add_zero _ | exact rfl)) rfl ?_)
              go_step
              apply takeS 13 (by (repeat (first | with_reducible exact AtL.head | apply AtL.tail))) (by kernel_rfl) (by kernel_rfl) (by kernel_rfl) (by exact fun _ _ _ _ h => h) [14, 15, 16, 17] (by kernel_rfl) (hS.sub (by (repeat (first | exact Sub.nil | with_reducible exact Sub.refl | (apply Sub.cons; (case p => (repeat (first | with_reducible exact Pull.head | apply Pull.tail)))) | apply Sub.skip))))
              case hfr => intro w hS; ((refine wpl (by kernel_rfl) ?_; apply wp_loadE hS 48 _ rfl _ _ rfl 2 (row_of rfl) _ _ _ _ _; (case hp => (repeat (first | with_reducible exact Pull.head | apply Pull.tail))); (case inst => infer_instance); (case he => with_reducible assumption); (case hq => exact rfl); (case hj => omega); refine put_move ?_; go_step)); refine wpList_nil ?_; exact ⟨rfl, rfl⟩
              case hd => rfl
              (refine takeV 14 _ (by (repeat (first | with_reducible exact AtL.head | apply AtL.tail))) (by kernel_rfl) (by kernel_rfl) (by kernel_rfl) (by exact fun _ _ _ _ h => h) (V.indexSl Try.underlying49 isz48 rfl rfl (by (repeat (first | exact IsN.auto | with_reducible apply IsN.add | with_reducible apply IsN.sub | with_reducible apply IsN.mul | with_reducible apply IsN.div | with_reducible apply IsN.mod | with_reducible apply IsN.min | with_reducible apply IsN.max | (with_reducible show (_ : Nat) ≤ _; omega) | exact IsN.toNat (by omega)))) (by omega) rfl (by first | with_reducible exact Nat.zero_add _ | with_reducible exact Nat.add_zero _ | exact rfl)) rfl ?_)
              go_step
              refine branch1 15 (by (repeat (first | with_reducible exact AtL.head | apply AtL.tail))) rfl (by kernel_rfl) ?_
              (apply wp_storeE hS 48 _ _ rfl _ _ rfl 2 (row_of rfl) _ _ _ _ _; (case hp => (repeat (first | with_reducible exact Pull.head | apply Pull.tail))); (case inst => infer_instance); (case he => with_reducible assumption); (case hone => with_reducible assumption); (case hq => exact rfl); (case hj => omega); (case hy => exact rfl); (case hd => exact rfl); clear hS; intro w hS)
              refine ⟨fun h => absurd (by decide) h, ?_⟩
              (refine takeV 16 _ (by (repeat (first | with_reducible exact AtL.head | apply AtL.tail))) (by kernel_rfl) (by kernel_rfl) (by kernel_rfl) (by exact fun _ _ _ _ h => h) (V.indexSl Try.underlying49 isz48 rfl rfl (by (repeat (first | exact IsN.auto | with_reducible apply IsN.add | with_reducible apply IsN.sub | with_reducible apply IsN.mul | with_reducible apply IsN.div | with_reducible apply IsN.mod | with_reducible apply IsN.min | with_reducible apply IsN.max | (with_reducible show (_ : Nat) ≤ _; omega) | exact IsN.toNat (by omega)))) (by omega) rfl (by first | with_reducible exact Nat.zero_add _ | with_reducible exact Nat.add_zero _ | exact rfl)) rfl ?_)
              go_step
              refine branch1 17 (by (repeat (first | with_reducible exact AtL.head | apply AtL.tail))) rfl (by kernel_rfl) ?_
              (apply wp_storeE hS 48 _ _ rfl _ _ rfl 2 (row_of rfl) _ _ _ _ _; (case hp => (repeat (first | with_reducible exact Pull.head | apply Pull.tail))); (case inst => infer_instance); (case he => with_reducible assumption); (case hone => with_reducible assumption); (case hq => exact rfl); (case hj => omega); (case hy => exact rfl); (case hd => exact rfl); clear hS; intro w hS)
              refine ⟨fun h => absurd (by decide) h, ?_⟩
              refine drawn_done (by kernel_rfl) ?_ _
            repeat' (first
              | ((with_reducible show wpList _ _ _ (⟨some 36, .binOp .sub _ _ _ _, _, _, _, _⟩ :: _) _ _); (refine wplV (.int _ (((q : Nat) : Int))) (V.as (V.subI rfl rfl (by omega)) (by omega)) rfl ?_; go_step))
              | ((with_reducible show wpList _ _ _ (⟨_, .move _, _, _, _, _⟩ :: _) _ _); (first | go_big_want | go_step); go_step)
              | ((with_reducible show wpList _ _ _ (⟨_, .assign _, _, _, _, _⟩ :: _) _ _); (first | go_big_want | go_step); go_step)
              | ((fail_if_success (with_reducible show wpList _ _ _ (_ :: _) _ _)); go_step))
            go_roundg (gk - 1)
            case measure => omega
            case rel => exact ⟨q, swp Z (q + 1) q, by omega, by omega, by go_num, HD.out.step (by omega) (by omega) (by omega), fun _ => by have := HV2.out.1 hc; exact Int.le_of_lt this, HR2.out.trans (swp_mid _ _ _ _ _ (by omega) (by omega) (by omega) (by omega) (by rw [HR2.out.len]; omega)), hS⟩
          · skip
            repeat' (first
              | ((with_reducible show wpList _ _ _ (⟨some 16, .binOp .add _ _ _ _, _, _, _, _⟩ :: _) _ _); (refine wplV (.int _ (((i + 1 : Nat) : Int))) (V.as (V.addI rfl rfl (by omega)) (by omega)) rfl ?_; go_step))
              | ((with_reducible show wpList _ _ _ (⟨_, .move _, _, _, _, _⟩ :: _) _ _); (first | go_big_want | go_step); go_step)
              | ((with_reducible show wpList _ _ _ (⟨_, .assign _, _, _, _, _⟩ :: _) _ _); (first | go_big_want | go_step); go_step)
              | ((fail_if_success (with_reducible show wpList _ _ _ (_ :: _) _ _)); go_step))
            go_roundg (gk1 - 1)
            case measure => omega
            case rel =>
              refine ⟨i + 1, Z, by omega, by omega, by go_num, HD.out.asc HA.out (by omega) (by omega) (fun _ => ?_) (fun _ => HH.out (by omega)), HR2.out, hS⟩
              have := HV2.out
              show (elt Q (q + 1 - 1)).w ≤ (elt Q i).w
              rw [Nat.add_sub_cancel]
              omega
        · obtain rfl : j = a := by omega
          repeat' (first
            | ((fail_if_success (with_reducible show wpList _ _ _ (_ :: _) _ _)); go_step))
          refine drawn_lit [14] (fun w => St W w (pks g n c Z :: rs')) (by kernel_rfl) ?_
          replace hS := hS.drew
          focus
            refine takeM 0 _ (by (repeat (first | with_reducible exact AtL.head | apply AtL.tail))) (by kernel_rfl) (by kernel_rfl) (by kernel_rfl) (by exact fun _ _ _ _ h => h) rfl ?_
            go_step
            refine takeM 1 _ (by (repeat (first | with_reducible exact AtL.head | apply AtL.tail))) (by kernel_rfl) (by kernel_rfl) (by kernel_rfl) (by exact fun _ _ _ _ h => h) rfl ?_
            go_step
            (refine takeD 2 _ (by (repeat (first | with_reducible exact AtL.head | apply AtL.tail))) (by kernel_rfl) (by kernel_rfl) (by kernel_rfl) (by exact fun _ _ _ _ h => h) (V.gtr rfl rfl) rfl (fun hB => ?_) (fun hB => ?_))
            rotate_left 1
            focus
              (try (have hF : False := (by omega); cases hF))
              all_goals
                go_step
                refine takeM 3 _ (by (repeat (first | with_reducible exact AtL.head | apply AtL.tail))) (by kernel_rfl) (by kernel_rfl) (by kernel_rfl) (by exact fun _ _ _ _ h => h) rfl ?_
                go_step
                refine takeN 4 (by (repeat (first | with_reducible exact AtL.head | apply AtL.tail))) (by kernel_rfl) (by kernel_rfl) (by kernel_rfl) (by exact fun _ _ _ _ h => h) rfl ?_
                go_step
                refine takeN 5 (by (repeat (first | with_reducible exact AtL.head | apply AtL.tail))) (by kernel_rfl) (by kernel_rfl) (by kernel_rfl) (by exact fun _ _ _ _ h => h) rfl ?_
                go_step
                refine takeN 6 (by (repeat (first | with_reducible exact AtL.head | apply AtL.tail))) (by kernel_rfl) (by kernel_rfl) (by kernel_rfl) (by exact fun _ _ _ _ h => h) rfl ?_
                go_step
                refine takeN 7 (by (repeat (first | with_reducible exact AtL.head | apply AtL.tail))) (by kernel_rfl) (by kernel_rfl) (by kernel_rfl) (by exact fun _ _ _ _ h => h) rfl ?_
                go_step
                refine takeN 8 (by (repeat (first | with_reducible exact AtL.head | apply AtL.tail))) (by kernel_rfl) (by kernel_rfl) (by kernel_rfl) (by exact fun _ _ _ _ h => h) rfl ?_
                go_step
                refine takeN 9 (by (repeat (first | with_reducible exact AtL.head | apply AtL.tail))) (by kernel_rfl) (by kernel_rfl) (by kernel_rfl) (by exact fun _ _ _ _ h => h) rfl ?_
                go_step
                refine takeN 10 (by (repeat (first | with_reducible exact AtL.head | apply AtL.tail))) (by kernel_rfl) (by kernel_rfl) (by kernel_rfl) (by exact fun _ _ _ _ h => h) rfl ?_
                go_step
                refine takeN 11 (by (repeat (first | with_reducible exact AtL.head | apply AtL.tail))) (by kernel_rfl) (by kernel_rfl) (by kernel_rfl) (by exact fun _ _ _ _ h => h) rfl ?_
                go_step
                refine takeN 12 (by (repeat (first | with_reducible exact AtL.head | apply AtL.tail))) (by kernel_rfl) (by kernel_rfl) (by kernel_rfl) (by exact fun _ _ _ _ h => h) rfl ?_
                go_step
                refine takeN 13 (by (repeat (first | with_reducible exact AtL.head | apply AtL.tail))) (by kernel_rfl) (by kernel_rfl) (by kernel_rfl) (by exact fun _ _ _ _ h => h) rfl ?_
                go_step
                refine takeN 14 (by (repeat (first | with_reducible exact AtL.head | apply AtL.tail))) (by kernel_rfl) (by kernel_rfl) (by kernel_rfl) (by exact fun _ _ _ _ h => h) rfl ?_
                go_step
                refine takeN 15 (by (repeat (first | with_reducible exact AtL.head | apply AtL.tail))) (by kernel_rfl) (by kernel_rfl) (by kernel_rfl) (by exact fun _ _ _ _ h => h) rfl ?_
                go_step
                refine takePickF 16 (by (repeat (first | with_reducible exact AtL.head | apply AtL.tail))) (by kernel_rfl) (by kernel_rfl) (by kernel_rfl) (by exact fun _ _ _ _ h => h) rfl rfl ?_
                go_step
                refine drawn_done (by kernel_rfl) ?_ _
            rotate_right 1
            focus
              (try (have hF : False := (by omega); cases hF))
              all_goals
                go_step
                refine takeM 3 _ (by (repeat (first | with_reducible exact AtL.head | apply AtL.tail))) (by kernel_rfl) (by kernel_rfl) (by kernel_rfl) (by exact fun _ _ _ _ h => h) rfl ?_
                go_step
                refine takeM 4 _ (by (repeat (first | with_reducible exact AtL.head | apply AtL.tail))) (by kernel_rfl) (by kernel_rfl) (by kernel_rfl) (by exact fun _ _ _ _ h => h) rfl ?_
                go_step
                refine takeM 5 _ (by (repeat (first | with_reducible exact AtL.head | apply AtL.tail))) (by kernel_rfl) (by kernel_rfl) (by kernel_rfl) (by exact fun _ _ _ _ h => h) rfl ?_
                go_step
                refine takeM 6 _ (by (repeat (first | with_reducible exact AtL.head | apply AtL.tail))) (by kernel_rfl) (by kernel_rfl) (by kernel_rfl) (by exact fun _ _ _ _ h => h) rfl ?_
                go_step
                first | (refine takeV 7 _ (by (repeat (first | with_reducible exact AtL.head | apply AtL.tail))) (by kernel_rfl) (by kernel_rfl) (by kernel_rfl) (by exact fun _ _ _ _ h => h) (V.indexSl Try.underlying49 isz48 rfl rfl (by (repeat (first | exact IsN.auto | with_reducible apply IsN.add | with_reducible apply IsN.sub | with_reducible apply IsN.mul | with_reducible apply IsN.div | with_reducible apply IsN.mod | with_reducible apply IsN.min | with_reducible apply IsN.max | (with_reducible show (_ : Nat) ≤ _; omega) | exact IsN.toNat (by omega)))) (by omega) rfl (by first | with_reducible exact Nat.zero_add _ | with_reducible exact Nat.add_zero _ | exact rfl)) rfl ?_)
                go_step
                apply takeS 8 (by (repeat (first | with_reducible exact AtL.head | apply AtL.tail))) (by kernel_rfl) (by kernel_rfl) (by kernel_rfl) (by exact fun _ _ _ _ h => h) [14, 15, 16] (by kernel_rfl) (hS.sub (by (repeat (first | exact Sub.nil | with_reducible exact Sub.refl | (apply Sub.cons; (case p => (repeat (first | with_reducible exact Pull.head | apply Pull.tail)))) | apply Sub.skip))))
                case hfr => intro w hS; (first | (refine wpl (by kernel_rfl) ?_; apply wp_loadE hS 48 _ rfl _ _ rfl 2 (row_of rfl) _ _ _ _ _; (case hp => (repeat (first | with_reducible exact Pull.head | apply Pull.tail))); (case inst => infer_instance); (case he => with_reducible assumption); (case hq => exact rfl); (case hj => omega); refine put_move ?_; go_step) | (refine wpl (by kernel_rfl) ?_; apply wp_loadA hS 48 _ rfl _ rfl 2 (row_of rfl) _; (case hp => (repeat (first | with_reducible exact Pull.head | apply Pull.tail))); refine put_move ?_; go_step) | (refine wpl (by kernel_rfl) ?_; apply wp_loadG hS 48 _ rfl _ rfl 2 (row_of rfl) _; (case hp => (repeat (first | with_reducible exact Pull.head | apply Pull.tail))); (case hn => rfl); refine put_move ?_; go_step) | (refine wpl (by kernel_rfl) ?_; apply wp_loadRW hS 48 _ rfl _ _ rfl 2 (row_of rfl) _; (case hc => with_reducible assumption); (case hn => rfl); refine put_move ?_; go_step)); refine wpList_nil ?_; exact ⟨rfl, rfl⟩
                case hd => rfl
                refine takeM 9 _ (by (repeat (first | with_reducible exact AtL.head | apply AtL.tail))) (by kernel_rfl) (by kernel_rfl) (by kernel_rfl) (by exact fun _ _ _ _ h => h) rfl ?_
                go_step
                refine takeM 10 _ (by (repeat (first | with_reducible exact AtL.head | apply AtL.tail))) (by kernel_rfl) (by kernel_rfl) (by kernel_rfl) (by exact fun _ _ _ _ h => h) rfl ?_
                go_step
                first | (refine takeV 11 _ (by (repeat (first | with_reducible exact AtL.head | apply AtL.tail))) (by kernel_rfl) (by kernel_rfl) (by kernel_rfl) (by exact fun _ _ _ _ h => h) (V.subI rfl rfl (by omega)) rfl ?_) | (refine takeV 11 _ (by (repeat (first | with_reducible exact AtL.head | apply AtL.tail))) (by kernel_rfl) (by kernel_rfl) (by kernel_rfl) (by exact fun _ _ _ _ h => h) (V.subR (by decide) rfl rfl) rfl ?_)
                go_step
                first | (refine takeV 12 _ (by (repeat (first | with_reducible exact AtL.head | apply AtL.tail))) (by kernel_rfl) (by kernel_rfl) (by kernel_rfl) (by exact fun _ _ _ _ h => h) (V.indexSl Try.underlying49 isz48 rfl rfl (by (repeat (first | exact IsN.auto | with_reducible apply IsN.add | with_reducible apply IsN.sub | with_reducible apply IsN.mul | with_reducible apply IsN.div | with_reducible apply IsN.mod | with_reducible apply IsN.min | with_reducible apply IsN.max | (with_reducible show (_ : Nat) ≤ _; omega) | exact IsN.toNat (by omega)))) (by omega) rfl (by first | with_reducible exact Nat.zero_add _ | with_reducible exact Nat.add_zero _ | exact rfl)) rfl ?_)
                go_step
                apply takeS 13 (by (repeat (first | with_reducible exact AtL.head | apply AtL.tail))) (by kernel_rfl) (by kernel_rfl) (by kernel_rfl) (by exact fun _ _ _ _ h => h) [14, 15, 16] (by kernel_rfl) (hS.sub (by (repeat (first | exact Sub.nil | with_reducible exact Sub.refl | (apply Sub.cons; (case p => (repeat (first | with_reducible exact Pull.head | apply Pull.tail)))) | apply Sub.skip))))
                case hfr => intro w hS; (first | (refine wpl (by kernel_rfl) ?_; apply wp_loadE hS 48 _ rfl _ _ rfl 2 (row_of rfl) _ _ _ _ _; (case hp => (repeat (first | with_reducible exact Pull.head | apply Pull.tail))); (case inst => infer_instance); (case he => with_reducible assumption); (case hq => exact rfl); (case hj => omega); refine put_move ?_; go_step) | (refine wpl (by kernel_rfl) ?_; apply wp_loadA hS 48 _ rfl _ rfl 2 (row_of rfl) _; (case hp => (repeat (first | with_reducible exact Pull.head | apply Pull.tail))); refine put_move ?_; go_step) | (refine wpl (by kernel_rfl) ?_; apply wp_loadG hS 48 _ rfl _ rfl 2 (row_of rfl) _; (case hp => (repeat (first | with_reducible exact Pull.head | apply Pull.tail))); (case hn => rfl); refine put_move ?_; go_step) | (refine wpl (by kernel_rfl) ?_; apply wp_loadRW hS 48 _ rfl _ _ rfl 2 (row_of rfl) _; (case hc => with_reducible assumption); (case hn => rfl); refine put_move ?_; go_step)); refine wpList_nil ?_; exact ⟨rfl, rfl⟩
                case hd => rfl
                refine branch1 14 (by (repeat (first | with_reducible exact AtL.head | apply AtL.tail))) rfl (by kernel_rfl) ?_
                fail "no law: Op.call { callee := Callee.value (Operand.tmp 22), args := #"
                refine ⟨fun h => absurd (by decide) h, ?_⟩
                refine drawn_move ?_
                go_step
                first | (refine takeV 15 _ (by (repeat (first | with_reducible exact AtL.head | apply AtL.tail))) (by kernel_rfl) (by kernel_rfl) (by kernel_rfl) (by exact fun _ _ _ _ h => h) (V.lss rfl rfl) rfl ?_)
                go_step
                refine takePickT 16 (by (repeat (first | with_reducible exact AtL.head | apply AtL.tail))) (by kernel_rfl) (by kernel_rfl) (by kernel_rfl) (by exact fun _ _ _ _ h => h) rfl rfl ?_
                go_step
                refine drawn_done (by kernel_rfl) ?_ _
          repeat' (first
            | ((with_reducible show wpList _ _ _ (⟨some 16, .binOp .add _ _ _ _, _, _, _, _⟩ :: _) _ _); (refine wplV (.int _ (((i + 1 : Nat) : Int))) (V.as (V.addI rfl rfl (by omega)) (by omega)) rfl ?_; go_step))
            | ((with_reducible show wpList _ _ _ (⟨_, .move _, _, _, _, _⟩ :: _) _ _); (first | go_big_want | go_step); go_step)
            | ((with_reducible show wpList _ _ _ (⟨_, .assign _, _, _, _, _⟩ :: _) _ _); (first | go_big_want | go_step); go_step)
            | ((fail_if_success (with_reducible show wpList _ _ _ (_ :: _) _ _)); go_step))
          go_roundg (gk1 - 1)
          case measure => omega
          case rel => exact ⟨i + 1, Z, by omega, by omega, by go_num, hD.asc HA.out (by omega) (by omega) (fun _ => by omega) (fun _ => hhi (by omega)), hR, hS⟩
    · skip
      repeat' (first
        | ((with_reducible show wpList _ _ _ (⟨_, .move _, _, _, _, _⟩ :: _) _ _); (first | go_big_want | go_step); go_step)
        | ((with_reducible show wpList _ _ _ (⟨some 14, .binOp .lss _ _ _ _, _, _, _, _⟩ :: _) _ _); (refine wplV _ (V.lss rfl rfl) (by kernel_rfl) ?_; go_step))
        | ((fail_if_success (with_reducible show wpList _ _ _ (_ :: _) _ _)); go_step))
      go_end0
      exact ⟨rfl, Q, hA.sub (Nat.le_refl _) (by omega), hR, hS⟩
end Go.Proofs.Ytembekkanggciaa
