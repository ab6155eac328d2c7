/- The law SegAgain: what its proof needs, part 4. -/
import Derived.Test.YtehbjhocgnfpmaaDoorSegAgainZ3
/- The walk of run.From, at any source of tokens. -/
namespace Go.Proofs.YtehbjhocgnfpmaaDoor
open Go.RowKit
set_option linter.unusedVariables false
set_option maxRecDepth 100000 in
set_option maxHeartbeats 40000000 in
theorem from_any {W : World} {σ : Type} (Z : Src W σ) (w0 : World) (rs rs' : List Res) (s0 : σ) (before : Int) (hb : -2047 ≤ before ∧ before ≤ 2047) (hS : St W w0 rs) (hp : Pull (Z.res s0) rs rs') :
    Calls Tryd.prog 49 #[.int .i64 before, .iface Z.tid Z.ptr] w0 (FromGives Z before s0 rs') := by
  by_cases hgood : (Z.next s0 true).2.1 = 0 ∧ okFirst before (Z.next s0 true).1 = true
  case neg => exact from_bad Z w0 rs rs' s0 before hb hS hp hgood
  replace hS := hS.pull hp
  have hZ0 : Len nought0 64 := List.length_replicate
  clear hp
  obtain ⟨⟨⟨t0, t1, t2⟩, er, s1⟩, hn⟩ : ∃ x, Z.next s0 true = x := ⟨_, rfl⟩
  rw [hn] at hgood
  obtain ⟨he, hfst⟩ := hgood
  dsimp only at he hfst
  subst he
  have hf2 := hfst
  unfold okFirst at hf2
  simp only [Bool.and_eq_true, decide_eq_true_eq] at hf2
  obtain ⟨⟨⟨q1, q2⟩, q3⟩, q4⟩ := hf2
  subst q3
  have hB : okB t0 t2 = true := by unfold okB; rw [decide_eq_true q1, decide_eq_true q2]; rfl
  obtain ⟨n, hnum⟩ : ∃ n, numT (t0, t0, t2) = n := ⟨_, rfl⟩
  have hnb := numT_bd t0 t0 t2 hB
  rw [hnum] at hnb
  obtain ⟨hn1, hn2, _⟩ := hnb
  have HNum : Hid (sback t0.toNat t2.toNat = n) := hid hnum
  rw [hnum] at q4
  have hco : -2047 ≤ before + n ∧ before + n ≤ 2047 := q4
  have HQ : Hid (isC (before + n) = true) := hid ((isC_iff _).2 hco)
  have HFirst : Hid (okFirst before (t0, t0, t2) = true) := hid hfst
  have HN := hid hn
  clear q1 q2 q4 hfst
  obtain ⟨R, hR⟩ : ∃ R, frLoop Z.next 64 1 (first0 (before + n)) [(t0, t0, t2)] s1 = R := ⟨_, rfl⟩
  have HF : Hid (frm Z.next before s0 = if R.1 ≠ 0 then (R.1, nought0, [], R.2.2.2) else if toksOf before R.2.1 = R.2.2.1 then (0, zfrom R.2.1, R.2.2.1, R.2.2.2) else (4, nought0, [], R.2.2.2)) := hid (by
    unfold frm; rw [hn]; dsimp only
    rw [if_neg (by simp), if_neg (by rw [HFirst.out]; simp), hnum, hR]; rfl)
  have HR := hid hR
  have hfl : Len (first0 (before + n)) 64 := Len.set Len.rep
  have HFb : Hid (∀ i, i < 64 → -2047 ≤ nth (first0 (before + n)) i ∧ nth (first0 (before + n)) i ≤ 2047) := hid fun i hi => by
    unfold first0
    rw [nth_set _ _ _ _ (by simp)]
    split
    · exact hco
    · rw [nth_zeros]; omega
  clear hn hnum hR hco
  go_enter Tryd.func49, Tryd.ntmps49
  repeat' (first
    | ((with_reducible show wpList _ _ _ (⟨some 19, _, _, _, _, _⟩ :: _) _ _); refine wpl (by kernel_rfl) ?_; refine wp_callI rfl (.iface Z.tid Z.ptr) rfl [.bool true] rfl Z.f #[Z.ptr, .bool true] (Z.inv true) (Z.call _ _ _ s0 true _ _ _ _ _ hS (by (repeat (first | with_reducible exact Pull.head | apply Pull.tail))) HN.out) ?_; clear hS; rintro e w ⟨rfl, hS⟩; refine ⟨_, rfl, ?_⟩; refine put_move ?_; go_step)
    | ((with_reducible show wpList _ _ _ (⟨some 37, _, _, _, _, _⟩ :: _) _ _); refine wpl_call (f := 71) Tryd.call71 (by kernel_rfl) ?_; refine ⟨_, (back_yes t0 t2 _ hB), ?_⟩; rintro e w' ⟨rfl, rfl⟩; rw [HNum.out]; refine ⟨_, rfl, ?_⟩; refine put_move ?_; go_step)
    | ((with_reducible show wpList _ _ _ (⟨_, .call ⟨.value (.func 72), _, _⟩, _, _, _, _⟩ :: _) _ _); refine wpl_call (f := 72) Tryd.call72 (by kernel_rfl) ?_; refine ⟨_, (isCoef_any (before + n) _), ?_⟩; rintro e w' ⟨rfl, rfl⟩; rw [HQ.out]; refine ⟨_, rfl, ?_⟩; refine put_move ?_; go_step)
    | ((with_reducible show wpList _ _ _ (⟨some 31, .buildSlice _ _ _, _, _, _, _⟩ :: _) _ _); (refine wpl (by kernel_rfl) ?_; apply wp_buildSliceO (o := ⟨some 31, _, _, _, _, _⟩) hS 100 1 _ rfl 69 3 24 el100 _ _; (case hvs => (repeat (first | exact Parts.nil | (apply Parts.agg; (rfl); (rfl)) | (apply Parts.one; (first | exact IsV.int rfl | exact IsV.bool rfl | exact IsV.slice rfl | exact IsV.pointer rfl | exact IsV.string rfl | exact IsV.map rfl | exact IsV.func rfl); (rfl); (rfl))))); (case hn => rfl); (case hn0 => decide); (case hns => decide); clear hS; intro g31 w hS; simp only [List.cons_append, List.nil_append] at hS; refine put_move ?_; go_step))
    | ((with_reducible show wpList _ _ _ (⟨_, .move _, _, _, _, _⟩ :: _) _ _); (first | go_big_want | go_step); go_step)
    | ((with_reducible show wpList _ _ _ (⟨_, .assign _, _, _, _, _⟩ :: _) _ _); (first | go_big_want | go_step); go_step)
    | ((with_reducible show wpList _ _ _ (⟨_, .pick _ _ _, _, _, _, _⟩ :: _) _ _); (refine wplPickF rfl (by kernel_rfl) ?_; go_step))
    | ((with_reducible show wpList _ _ _ (⟨some 41, .binOp .neq 25 _ _ _, _, _, _, _⟩ :: _) _ _); (refine wplD _ (V.neq rfl rfl) (by kernel_rfl) (fun hB => ?_) (fun hB => ?_) <;> (try (have hF : False := (by omega); cases hF)) <;> go_step))
    | ((with_reducible show wpList _ _ _ (⟨some 47, .binOp .neq 3 _ _ _, _, _, _, _⟩ :: _) _ _); (refine wplD _ (V.neq rfl rfl) (by kernel_rfl) (fun hB => ?_) (fun hB => ?_) <;> (try (have hF : False := (by omega); cases hF)) <;> go_step))
    | ((with_reducible show wpList _ _ _ (⟨_, .extract _ _, _, _, _, _⟩ :: _) _ _); (refine wplV _ (V.extract rfl rfl) (by kernel_rfl) ?_; go_step))
    | ((with_reducible show wpList _ _ _ (⟨_, .binOp .neq 25 _ _ _, _, _, _, _⟩ :: _) _ _); (refine wplV _ (V.neq rfl rfl) (by kernel_rfl) ?_; go_step))
    | ((with_reducible show wpList _ _ _ (⟨_, .fieldAddr 69 _ 1, _, _, _, _⟩ :: _) _ _); (refine wplV _ (V.fieldAddr fo69_1 rfl (by first | with_reducible exact Nat.zero_add _ | with_reducible exact Nat.add_zero _ | exact rfl)) (by kernel_rfl) ?_; go_step))
    | ((with_reducible show wpList _ _ _ (⟨_, .fieldAddr 69 _ 2, _, _, _, _⟩ :: _) _ _); (refine wplV _ (V.fieldAddr fo69_2 rfl (by first | with_reducible exact Nat.zero_add _ | with_reducible exact Nat.add_zero _ | exact rfl)) (by kernel_rfl) ?_; go_step))
    | ((with_reducible show wpList _ _ _ (⟨_, .fieldAddr 69 _ 0, _, _, _, _⟩ :: _) _ _); (refine wplV _ (V.fieldAddr fo69_0 rfl (by first | with_reducible exact Nat.zero_add _ | with_reducible exact Nat.add_zero _ | exact rfl)) (by kernel_rfl) ?_; go_step))
    | ((with_reducible show wpList _ _ _ (⟨_, .binOp .add _ _ _ _, _, _, _, _⟩ :: _) _ _); (refine wplV _ (V.addI rfl rfl (by omega)) (by kernel_rfl) ?_; go_step))
    | ((with_reducible show wpList _ _ _ (⟨_, .unOp .not _ _, _, _, _, _⟩ :: _) _ _); (refine wplV _ (V.not rfl) (by kernel_rfl) ?_; go_step))
    | ((with_reducible show wpList _ _ _ (⟨some 64, .build 52 _, _, _, _, _⟩ :: _) _ _); (refine wplV _ (V.build (vs := [(0, _)]) rfl (bl52_0 _)) (by kernel_rfl) ?_; go_step))
    | ((with_reducible show wpList _ _ _ (⟨some 4, .alloc 52, _, _, _, _⟩ :: _) _ _); (refine wpl (by kernel_rfl) ?_; apply wp_allocA (o := ⟨some 4, _, _, _, _, _⟩) hS 52 rfl (List.replicate 64 0) 64 List.length_replicate za52; clear hS; intro g4 w hS; refine put_move ?_; go_step))
    | ((with_reducible show wpList _ _ _ (⟨some 8, .alloc 69, _, _, _, _⟩ :: _) _ _); (refine wpl (by kernel_rfl) ?_; apply wp_alloc (o := ⟨some 8, _, _, _, _, _⟩) hS 69 rfl (.agg #[.int .i64 0, .int .i64 0, .int .i64 0]) [.int .i64 0, .int .i64 0, .int .i64 0] (fun w => Tryd.zeroValue69 w) rfl; clear hS; intro g8 w hS; refine put_move ?_; go_step))
    | ((with_reducible show wpList _ _ _ (⟨_, .store 69 _ _, _, _, _, _⟩ :: _) _ _); (refine wpl (by kernel_rfl) ?_; apply wp_storeG hS 69 _ _ rfl _ rfl 3 (row_of rfl) _ _; (case hp => (repeat (first | with_reducible exact Pull.head | apply Pull.tail))); (case hy => rfl); (case hn => rfl); (case hn' => rfl); (case hv => rfl); (case hd => exact rfl); clear hS; intro w hS))
    | ((with_reducible show wpList _ _ _ (⟨_, .store 52 _ _, _, _, _, _⟩ :: _) _ _); (refine wpl (by kernel_rfl) ?_; apply wp_storeA hS 52 _ _ rfl _ rfl 64 (row_of rfl) _ _; (case hp => (repeat (first | with_reducible exact Pull.head | apply Pull.tail))); (case hy => rfl); (case hm => (repeat (first | assumption | exact Len.rep | apply Len.set | ((with_reducible show Len (_ :: _) _); exact rfl)))); (case hd => exact rfl); clear hS; intro w hS))
    | ((with_reducible show wpList _ _ _ (⟨_, .load 69 _, _, _, _, _⟩ :: _) _ _); (refine wpl (by kernel_rfl) ?_; apply wp_loadG hS 69 _ rfl _ rfl 3 (row_of rfl) _; (case hp => (repeat (first | with_reducible exact Pull.head | apply Pull.tail))); (case hn => rfl); refine put_move ?_; go_step))
    | ((with_reducible show wpList _ _ _ (⟨_, .load 3 _, _, _, _, _⟩ :: _) _ _); (refine wpl (by kernel_rfl) ?_; apply wp_load1 hS 3 _ rfl _ _ rfl (one_of rfl) _; (case hp => (repeat (first | with_reducible exact Pull.head | apply Pull.tail))); (case hc => rfl); refine put_move ?_; go_step))
    | ((with_reducible show wpList _ _ _ (⟨some 12, .alloc 52, _, _, _, _⟩ :: _) _ _); (refine wpl (by kernel_rfl) ?_; apply wp_allocA (o := ⟨some 12, _, _, _, _, _⟩) hS 52 rfl (List.replicate 64 0) 64 List.length_replicate za52; clear hS; intro g12 w hS; refine put_move ?_; go_step))
    | ((fail_if_success (with_reducible show wpList _ _ _ (_ :: _) _ _)); go_step))
  all_goals (try (have hF : False := (by omega); cases hF))
  replace hS := hS.sub (xs := arr g12 64 ((List.replicate 64 0).set 0 (before + n)) :: own 69 3 (some ⟨g31, 0, none⟩) 1 1 [.int .i64 t0, .int .i64 t0, .int .i64 t2] :: arr g4 64 (List.replicate 64 0) :: Z.res s1 :: rs') (by (repeat (first | exact Sub.nil | with_reducible exact Sub.refl | (apply Sub.cons; (case p => (repeat (first | with_reducible exact Pull.head | apply Pull.tail)))) | apply Sub.skip)))
  go_loopg [10, 13] 64 (fun gk ov av w => ∃ (at_ m : Nat) (bl : List Int) (all : List Tok) (a' : Option Addr) (c' : Nat) (s : σ), 65 ≤ gk + at_ ∧ 1 ≤ at_ ∧ at_ ≤ 64 ∧ m ≤ at_ ∧ av = .int .i64 at_ ∧ ov = .slice a' m c' ∧ Hid (all.length = m) ∧ Len bl 64 ∧ Hid (∀ i, i < 64 → -2047 ≤ nth bl i ∧ nth bl i ≤ 2047) ∧ Hid (frLoop Z.next gk at_ bl all s = R) ∧
    St W w (arr g12 64 bl :: own 69 3 a' m c' ((flt all).map (Value.int .i64)) :: arr g4 64 (List.replicate 64 0) :: Z.res s :: rs'))
  case atStart => exact ⟨1, 1, first0 (before + n), [(t0, t0, t2)], _, _, s1, by omega, by omega, by omega, by omega, rfl, rfl, hid rfl, hfl, HFb, HR, hS⟩
  case round =>
    clear hS HFb hfl
    obtain ⟨at_, m, bl, all, a', c', s, hga, h1a, ha64, hma, rfl, rfl, HAl, hbl, HBl, HLo, hS⟩ := hrel
    by_cases hlt : at_ < 64
    · obtain ⟨gk', rfl⟩ : ∃ x, gk = x + 1 := ⟨gk - 1, by omega⟩
      obtain ⟨⟨⟨u0, u1, u2⟩, er, s2⟩, hn⟩ : ∃ x, Z.next s false = x := ⟨_, rfl⟩
      have hlo := HLo.out
      rw [frLoop, if_neg (by omega), hn] at hlo
      dsimp only at hlo
      have HN2 := hid hn
      clear hn HLo
      by_cases he : er = 0
      case neg =>
        rw [if_pos he] at hlo
        have HF2 : Hid (frm Z.next before s0 = (er, nought0, [], s2)) := hid (by rw [HF.out, ← hlo]; exact if_pos he)
        clear hlo
        repeat' (first
          | ((with_reducible show wpList _ _ _ (⟨some 69, _, _, _, _, _⟩ :: _) _ _); refine wpl (by kernel_rfl) ?_; refine wp_callI rfl (.iface Z.tid Z.ptr) rfl [.bool false] rfl Z.f #[Z.ptr, .bool false] (Z.inv false) (Z.call _ _ _ s false _ _ _ _ _ hS (by (repeat (first | with_reducible exact Pull.head | apply Pull.tail))) HN2.out) ?_; clear hS; rintro e w ⟨rfl, hS⟩; refine ⟨_, rfl, ?_⟩; refine put_move ?_; go_step)
          | ((with_reducible show wpList _ _ _ (⟨_, .move _, _, _, _, _⟩ :: _) _ _); (first | go_big_want | go_step); go_step)
          | ((with_reducible show wpList _ _ _ (⟨_, .assign _, _, _, _, _⟩ :: _) _ _); (first | go_big_want | go_step); go_step)
          | ((with_reducible show wpList _ _ _ (⟨some 66, .binOp .lss _ _ _ _, _, _, _, _⟩ :: _) _ _); (refine wplV _ (V.lss rfl rfl) (by kernel_rfl) ?_; go_step))
          | ((with_reducible show wpList _ _ _ (⟨some 70, .extract _ _, _, _, _, _⟩ :: _) _ _); (refine wplV _ (V.extract rfl rfl) (by kernel_rfl) ?_; go_step))
          | ((with_reducible show wpList _ _ _ (⟨some 71, .extract _ _, _, _, _, _⟩ :: _) _ _); (refine wplV _ (V.extract rfl rfl) (by kernel_rfl) ?_; go_step))
          | ((with_reducible show wpList _ _ _ (⟨some 14, .alloc 69, _, _, _, _⟩ :: _) _ _); (refine wpl (by kernel_rfl) ?_; apply wp_alloc (o := ⟨some 14, _, _, _, _, _⟩) hS 69 rfl (.agg #[.int .i64 0, .int .i64 0, .int .i64 0]) [.int .i64 0, .int .i64 0, .int .i64 0] (fun w => Tryd.zeroValue69 w) rfl; clear hS; intro g14 w hS; refine put_move ?_; go_step))
          | ((with_reducible show wpList _ _ _ (⟨_, .store 69 _ _, _, _, _, _⟩ :: _) _ _); (refine wpl (by kernel_rfl) ?_; apply wp_storeG hS 69 _ _ rfl _ rfl 3 (row_of rfl) _ _; (case hp => (repeat (first | with_reducible exact Pull.head | apply Pull.tail))); (case hy => rfl); (case hn => rfl); (case hn' => rfl); (case hv => rfl); (case hd => exact rfl); clear hS; intro w hS))
          | ((fail_if_success (with_reducible show wpList _ _ _ (_ :: _) _ _)); go_step))
        all_goals (try (have hF : False := (by omega); cases hF))
        repeat' (first
          | ((with_reducible show wpList _ _ _ (⟨some 76, _, _, _, _, _⟩ :: _) _ _); refine wpl (by kernel_rfl) ?_; refine wp_callV (f := 70) rfl rfl Tryd.call70 (none_any _ _) ?_; rintro e w ⟨rfl, hE⟩; replace hS := hS.ext hE; clear hE; refine ⟨_, rfl, ?_⟩; refine put_move ?_; go_step)
          | ((with_reducible show wpList _ _ _ (⟨_, .move _, _, _, _, _⟩ :: _) _ _); (first | go_big_want | go_step); go_step)
          | ((with_reducible show wpList _ _ _ (⟨_, .assign _, _, _, _, _⟩ :: _) _ _); (first | go_big_want | go_step); go_step)
          | ((with_reducible show wpList _ _ _ (⟨some 73, .binOp .neq 25 _ _ _, _, _, _, _⟩ :: _) _ _); (refine wplV _ (V.neq rfl rfl) (by kernel_rfl) ?_; go_step))
          | ((with_reducible show wpList _ _ _ (⟨some 77, .extract _ _, _, _, _, _⟩ :: _) _ _); (refine wplV _ (V.extract rfl rfl) (by kernel_rfl) ?_; go_step))
          | ((with_reducible show wpList _ _ _ (⟨some 78, .extract _ _, _, _, _, _⟩ :: _) _ _); (refine wplV _ (V.extract rfl rfl) (by kernel_rfl) ?_; go_step))
          | ((with_reducible show wpList _ _ _ (⟨some 79, .extract _ _, _, _, _, _⟩ :: _) _ _); (refine wplV _ (V.extract rfl rfl) (by kernel_rfl) ?_; go_step))
          | ((with_reducible show wpList _ _ _ (⟨_, .store 52 _ _, _, _, _, _⟩ :: _) _ _); (refine wpl (by kernel_rfl) ?_; apply wp_storeA hS 52 _ _ rfl _ rfl 64 (row_of rfl) _ _; (case hp => (repeat (first | with_reducible exact Pull.head | apply Pull.tail))); (case hy => rfl); (case hm => (repeat (first | assumption | exact Len.rep | apply Len.set | ((with_reducible show Len (_ :: _) _); exact rfl)))); (case hd => exact rfl); clear hS; intro w hS))
          | ((fail_if_success (with_reducible show wpList _ _ _ (_ :: _) _ _)); go_step))
        refine ret_all (xs := [_, _, _]) rfl (.cons (OneRes.arr hS rfl (row_of (n := 64) rfl) (by (repeat (first | with_reducible exact Pull.head | apply Pull.tail)))) (.cons (OneRes.tmp rfl) (.cons (OneRes.tmp rfl) (.nil)))) (by simp) rfl ?_
        exact from_no er HF2.out hS (by (repeat (first | exact Sub.nil | with_reducible exact Sub.refl | (apply Sub.cons; (case p => (repeat (first | with_reducible exact Pull.head | apply Pull.tail)))) | apply Sub.skip)))
      subst he
      rw [if_neg (by simp)] at hlo
      obtain ⟨bd, hbd⟩ : ∃ b, badT (u0, u1, u2) = b := ⟨_, rfl⟩
      have hiff := badT_eq u0 u1 u2
      rw [hbd] at hiff hlo
      have HFl := hid (flt_snoc all (u0, u1, u2))
      dsimp only at HFl
      cases bd
      case true =>
        rw [if_pos rfl] at hlo
        have HF2 : Hid (frm Z.next before s0 = (4, nought0, [], s2)) := hid (by rw [HF.out, ← hlo]; exact if_pos (show (4 : Int) ≠ 0 by decide))
        have hor := hiff.1 rfl
        clear hlo hiff hbd
        by_cases hB2 : okB u1 u2 = true
        case neg =>
          have hB3 : okB u1 u2 = false := by simpa using hB2
          clear hor hB2
          repeat' (first
            | ((with_reducible show wpList _ _ _ (⟨some 69, _, _, _, _, _⟩ :: _) _ _); refine wpl (by kernel_rfl) ?_; refine wp_callI rfl (.iface Z.tid Z.ptr) rfl [.bool false] rfl Z.f #[Z.ptr, .bool false] (Z.inv false) (Z.call _ _ _ s false _ _ _ _ _ hS (by (repeat (first | with_reducible exact Pull.head | apply Pull.tail))) HN2.out) ?_; clear hS; rintro e w ⟨rfl, hS⟩; refine ⟨_, rfl, ?_⟩; refine put_move ?_; go_step)
            | ((with_reducible show wpList _ _ _ (⟨_, .move _, _, _, _, _⟩ :: _) _ _); (first | go_big_want | go_step); go_step)
            | ((with_reducible show wpList _ _ _ (⟨_, .assign _, _, _, _, _⟩ :: _) _ _); (first | go_big_want | go_step); go_step)
            | ((with_reducible show wpList _ _ _ (⟨some 66, .binOp .lss _ _ _ _, _, _, _, _⟩ :: _) _ _); (refine wplV _ (V.lss rfl rfl) (by kernel_rfl) ?_; go_step))
            | ((with_reducible show wpList _ _ _ (⟨some 70, .extract _ _, _, _, _, _⟩ :: _) _ _); (refine wplV _ (V.extract rfl rfl) (by kernel_rfl) ?_; go_step))
            | ((with_reducible show wpList _ _ _ (⟨some 71, .extract _ _, _, _, _, _⟩ :: _) _ _); (refine wplV _ (V.extract rfl rfl) (by kernel_rfl) ?_; go_step))
            | ((with_reducible show wpList _ _ _ (⟨some 14, .alloc 69, _, _, _, _⟩ :: _) _ _); (refine wpl (by kernel_rfl) ?_; apply wp_alloc (o := ⟨some 14, _, _, _, _, _⟩) hS 69 rfl (.agg #[.int .i64 0, .int .i64 0, .int .i64 0]) [.int .i64 0, .int .i64 0, .int .i64 0] (fun w => Tryd.zeroValue69 w) rfl; clear hS; intro g14 w hS; refine put_move ?_; go_step))
            | ((with_reducible show wpList _ _ _ (⟨_, .store 69 _ _, _, _, _, _⟩ :: _) _ _); (refine wpl (by kernel_rfl) ?_; apply wp_storeG hS 69 _ _ rfl _ rfl 3 (row_of rfl) _ _; (case hp => (repeat (first | with_reducible exact Pull.head | apply Pull.tail))); (case hy => rfl); (case hn => rfl); (case hn' => rfl); (case hv => rfl); (case hd => exact rfl); clear hS; intro w hS))
            | ((fail_if_success (with_reducible show wpList _ _ _ (_ :: _) _ _)); go_step))
          all_goals (try (have hF : False := (by omega); cases hF))
          repeat' (first
            | ((with_reducible show wpList _ _ _ (⟨some 89, _, _, _, _, _⟩ :: _) _ _); refine wpl_call (f := 71) Tryd.call71 (by kernel_rfl) ?_; refine ⟨_, (back_no u1 u2 _ hB3), ?_⟩; rintro e w' ⟨rfl, rfl⟩; refine ⟨_, rfl, ?_⟩; refine put_move ?_; go_step)
            | ((with_reducible show wpList _ _ _ (⟨_, .move _, _, _, _, _⟩ :: _) _ _); (first | go_big_want | go_step); go_step)
            | ((with_reducible show wpList _ _ _ (⟨_, .assign _, _, _, _, _⟩ :: _) _ _); (first | go_big_want | go_step); go_step)
            | ((with_reducible show wpList _ _ _ (⟨some 73, .binOp .neq 25 _ _ _, _, _, _, _⟩ :: _) _ _); (refine wplV _ (V.neq rfl rfl) (by kernel_rfl) ?_; go_step))
            | ((with_reducible show wpList _ _ _ (⟨some 85, .fieldAddr 69 _ 1, _, _, _, _⟩ :: _) _ _); (refine wplV _ (V.fieldAddr fo69_1 rfl (by first | with_reducible exact Nat.zero_add _ | with_reducible exact Nat.add_zero _ | exact rfl)) (by kernel_rfl) ?_; go_step))
            | ((with_reducible show wpList _ _ _ (⟨some 87, .fieldAddr 69 _ 2, _, _, _, _⟩ :: _) _ _); (refine wplV _ (V.fieldAddr fo69_2 rfl (by first | with_reducible exact Nat.zero_add _ | with_reducible exact Nat.add_zero _ | exact rfl)) (by kernel_rfl) ?_; go_step))
            | ((with_reducible show wpList _ _ _ (⟨some 90, .extract _ _, _, _, _, _⟩ :: _) _ _); (refine wplV _ (V.extract rfl rfl) (by kernel_rfl) ?_; go_step))
            | ((with_reducible show wpList _ _ _ (⟨some 91, .extract _ _, _, _, _, _⟩ :: _) _ _); (refine wplV _ (V.extract rfl rfl) (by kernel_rfl) ?_; go_step))
            | ((with_reducible show wpList _ _ _ (⟨_, .load 69 _, _, _, _, _⟩ :: _) _ _); (refine wpl (by kernel_rfl) ?_; apply wp_loadG hS 69 _ rfl _ rfl 3 (row_of rfl) _; (case hp => (repeat (first | with_reducible exact Pull.head | apply Pull.tail))); (case hn => rfl); refine put_move ?_; go_step))
            | ((with_reducible show wpList _ _ _ (⟨some 82, .buildSlice 100 _ _, _, _, _, _⟩ :: _) _ _); (refine wpl (by kernel_rfl) ?_; apply wp_buildSlice1 (o := ⟨some 82, _, _, _, _, _⟩) hS 100 1 _ rfl 69 3 24 el100 _ _; (case hvs => (repeat (first | exact Parts.nil | (apply Parts.agg; (rfl); (rfl)) | (apply Parts.one; (first | exact IsV.int rfl | exact IsV.bool rfl | exact IsV.slice rfl | exact IsV.pointer rfl | exact IsV.string rfl | exact IsV.map rfl | exact IsV.func rfl); (rfl); (rfl))))); (case hn => rfl); (case hn0 => decide); (case hns => decide); clear hS; intro g82 w hS; simp only [List.cons_append, List.nil_append] at hS; refine put_move ?_; go_step))
            | ((with_reducible show wpList _ _ _ (⟨some 83, .call ⟨.builtin .append, _, _⟩, _, _, _, _⟩ :: _) _ _); (refine wpl (by kernel_rfl) ?_; apply wp_append (o := ⟨some 83, _, _, _, _, _⟩) hS _ _ 100 rfl 69 3 24 el100 _ _ _ _ rfl; (case hp => (repeat (first | with_reducible exact Pull.head | apply Pull.tail))); (case hx => exact rfl); (case hm => (first | exact hS.slBlk (by (repeat (first | with_reducible exact Pull.head | apply Pull.tail))) (by rfl) (by decide) | exact hS.sl (by (repeat (first | with_reducible exact Pull.head | apply Pull.tail))) | with_reducible assumption | exact Sl.ext (by with_reducible assumption) hS.1 | exact Sl.nil _ _ | exact Sl.ext (by assumption) hS.1 | assumption)); (case h1 => (first | exact oneAll rfl | exact oneMap _ _ | (intro u hu; cases hu))); (case h63 => unfold maxLen; omega); (case hb => omega); clear hS; intro ad83 c83 w hS; (first | simp only [mapk1] at hS | simp only [mapk2] at hS | simp only [mapk3] at hS | simp only [mapk4] at hS | simp only [mapkl] at hS | skip); refine put_move ?_; go_step))
            | ((with_reducible show wpList _ _ _ (⟨_, .load 3 _, _, _, _, _⟩ :: _) _ _); (refine wpl (by kernel_rfl) ?_; apply wp_load1 hS 3 _ rfl _ _ rfl (one_of rfl) _; (case hp => (repeat (first | with_reducible exact Pull.head | apply Pull.tail))); (case hc => rfl); refine put_move ?_; go_step))
            | ((fail_if_success (with_reducible show wpList _ _ _ (_ :: _) _ _)); go_step))
          all_goals (try (have hF : False := (by omega); cases hF))
          repeat' (first
            | ((with_reducible show wpList _ _ _ (⟨some 133, _, _, _, _, _⟩ :: _) _ _); refine wpl (by kernel_rfl) ?_; refine wp_callV (f := 70) rfl rfl Tryd.call70 (none_any _ _) ?_; rintro e w ⟨rfl, hE⟩; replace hS := hS.ext hE; clear hE; refine ⟨_, rfl, ?_⟩; refine put_move ?_; go_step)
            | go_big_skip
            | ((with_reducible show wpList _ _ _ (⟨_, .move _, _, _, _, _⟩ :: _) _ _); (first | go_big_want | go_step); go_step)
            | ((with_reducible show wpList _ _ _ (⟨_, .assign _, _, _, _, _⟩ :: _) _ _); (first | go_big_want | go_step); go_step)
            | ((with_reducible show wpList _ _ _ (⟨_, .pick _ _ _, _, _, _, _⟩ :: _) _ _); (refine wplPickT rfl (by kernel_rfl) ?_; go_step))
            | ((with_reducible show wpList _ _ _ (⟨some 93, .binOp .neq 25 _ _ _, _, _, _, _⟩ :: _) _ _); (refine wplD _ (V.neq rfl rfl) (by kernel_rfl) (fun hB => ?_) (fun hB => ?_) <;> (try (have hF : False := (by omega); cases hF)) <;> go_step))
            | ((with_reducible show wpList _ _ _ (⟨some 134, .extract _ _, _, _, _, _⟩ :: _) _ _); (refine wplV _ (V.extract rfl rfl) (by kernel_rfl) ?_; go_step))
            | ((with_reducible show wpList _ _ _ (⟨some 135, .extract _ _, _, _, _, _⟩ :: _) _ _); (refine wplV _ (V.extract rfl rfl) (by kernel_rfl) ?_; go_step))
            | ((with_reducible show wpList _ _ _ (⟨some 136, .extract _ _, _, _, _, _⟩ :: _) _ _); (refine wplV _ (V.extract rfl rfl) (by kernel_rfl) ?_; go_step))
            | ((with_reducible show wpList _ _ _ (⟨_, .store 52 _ _, _, _, _, _⟩ :: _) _ _); (refine wpl (by kernel_rfl) ?_; apply wp_storeA hS 52 _ _ rfl _ rfl 64 (row_of rfl) _ _; (case hp => (repeat (first | with_reducible exact Pull.head | apply Pull.tail))); (case hy => rfl); (case hm => (repeat (first | assumption | exact Len.rep | apply Len.set | ((with_reducible show Len (_ :: _) _); exact rfl)))); (case hd => exact rfl); clear hS; intro w hS))
            | ((fail_if_success (with_reducible show wpList _ _ _ (_ :: _) _ _)); go_step))
          all_goals (try (have hF : False := (by omega); cases hF))
          all_goals
            refine ret_all (xs := [_, _, _]) rfl (.cons (OneRes.arr hS rfl (row_of (n := 64) rfl) (by (repeat (first | with_reducible exact Pull.head | apply Pull.tail)))) (.cons (OneRes.tmp rfl) (.cons (OneRes.tmp rfl) (.nil)))) (by simp) rfl ?_
            exact from_no 4 HF2.out hS (by (repeat (first | exact Sub.nil | with_reducible exact Sub.refl | (apply Sub.cons; (case p => (repeat (first | with_reducible exact Pull.head | apply Pull.tail)))) | apply Sub.skip)))
        have hor2 : 11 < u1 ∨ u0 < 0 ∨ 255 < u0 ∨ u1 ≠ u0 % 16 ∨ (u1 = 0 ∧ u0 ≠ 0 ∧ u0 ≠ 240) := by
          rcases hor with h | h
          · rw [hB2] at h; cases h
          · exact h
        clear hor
        obtain ⟨n2, hn2⟩ : ∃ x, sback u1.toNat u2.toNat = x := ⟨_, rfl⟩
        have HNb := hid hn2
        clear hn2
        by_cases hr : 0 ≤ u0 ∧ u0 ≤ 255
        case pos =>
          have HAnd := hid (and15 u0 hr)
          have hor3 : 11 < u1 ∨ u1 ≠ u0 % 16 ∨ (u1 = 0 ∧ u0 ≠ 0 ∧ u0 ≠ 240) := by omega
          clear hor2
          repeat' (first
            | ((with_reducible show wpList _ _ _ (⟨some 69, _, _, _, _, _⟩ :: _) _ _); refine wpl (by kernel_rfl) ?_; refine wp_callI rfl (.iface Z.tid Z.ptr) rfl [.bool false] rfl Z.f #[Z.ptr, .bool false] (Z.inv false) (Z.call _ _ _ s false _ _ _ _ _ hS (by (repeat (first | with_reducible exact Pull.head | apply Pull.tail))) HN2.out) ?_; clear hS; rintro e w ⟨rfl, hS⟩; refine ⟨_, rfl, ?_⟩; refine put_move ?_; go_step)
            | ((with_reducible show wpList _ _ _ (⟨_, .move _, _, _, _, _⟩ :: _) _ _); (first | go_big_want | go_step); go_step)
            | ((with_reducible show wpList _ _ _ (⟨_, .assign _, _, _, _, _⟩ :: _) _ _); (first | go_big_want | go_step); go_step)
            | ((with_reducible show wpList _ _ _ (⟨some 66, .binOp .lss _ _ _ _, _, _, _, _⟩ :: _) _ _); (refine wplV _ (V.lss rfl rfl) (by kernel_rfl) ?_; go_step))
            | ((with_reducible show wpList _ _ _ (⟨some 70, .extract _ _, _, _, _, _⟩ :: _) _ _); (refine wplV _ (V.extract rfl rfl) (by kernel_rfl) ?_; go_step))
            | ((with_reducible show wpList _ _ _ (⟨some 71, .extract _ _, _, _, _, _⟩ :: _) _ _); (refine wplV _ (V.extract rfl rfl) (by kernel_rfl) ?_; go_step))
            | ((with_reducible show wpList _ _ _ (⟨some 14, .alloc 69, _, _, _, _⟩ :: _) _ _); (refine wpl (by kernel_rfl) ?_; apply wp_alloc (o := ⟨some 14, _, _, _, _, _⟩) hS 69 rfl (.agg #[.int .i64 0, .int .i64 0, .int .i64 0]) [.int .i64 0, .int .i64 0, .int .i64 0] (fun w => Tryd.zeroValue69 w) rfl; clear hS; intro g14 w hS; refine put_move ?_; go_step))
            | ((with_reducible show wpList _ _ _ (⟨_, .store 69 _ _, _, _, _, _⟩ :: _) _ _); (refine wpl (by kernel_rfl) ?_; apply wp_storeG hS 69 _ _ rfl _ rfl 3 (row_of rfl) _ _; (case hp => (repeat (first | with_reducible exact Pull.head | apply Pull.tail))); (case hy => rfl); (case hn => rfl); (case hn' => rfl); (case hv => rfl); (case hd => exact rfl); clear hS; intro w hS))
            | ((fail_if_success (with_reducible show wpList _ _ _ (_ :: _) _ _)); go_step))
          all_goals (try (have hF : False := (by omega); cases hF))
          repeat' (first
            | ((with_reducible show wpList _ _ _ (⟨some 89, _, _, _, _, _⟩ :: _) _ _); refine wpl_call (f := 71) Tryd.call71 (by kernel_rfl) ?_; refine ⟨_, (back_yes u1 u2 _ hB2), ?_⟩; rintro e w' ⟨rfl, rfl⟩; rw [HNb.out]; refine ⟨_, rfl, ?_⟩; refine put_move ?_; go_step)
            | ((with_reducible show wpList _ _ _ (⟨_, .move _, _, _, _, _⟩ :: _) _ _); (first | go_big_want | go_step); go_step)
            | ((with_reducible show wpList _ _ _ (⟨_, .assign _, _, _, _, _⟩ :: _) _ _); (first | go_big_want | go_step); go_step)
            | ((with_reducible show wpList _ _ _ (⟨some 73, .binOp .neq 25 _ _ _, _, _, _, _⟩ :: _) _ _); (refine wplV _ (V.neq rfl rfl) (by kernel_rfl) ?_; go_step))
            | ((with_reducible show wpList _ _ _ (⟨some 85, .fieldAddr 69 _ 1, _, _, _, _⟩ :: _) _ _); (refine wplV _ (V.fieldAddr fo69_1 rfl (by first | with_reducible exact Nat.zero_add _ | with_reducible exact Nat.add_zero _ | exact rfl)) (by kernel_rfl) ?_; go_step))
            | ((with_reducible show wpList _ _ _ (⟨some 87, .fieldAddr 69 _ 2, _, _, _, _⟩ :: _) _ _); (refine wplV _ (V.fieldAddr fo69_2 rfl (by first | with_reducible exact Nat.zero_add _ | with_reducible exact Nat.add_zero _ | exact rfl)) (by kernel_rfl) ?_; go_step))
            | ((with_reducible show wpList _ _ _ (⟨some 90, .extract _ _, _, _, _, _⟩ :: _) _ _); (refine wplV _ (V.extract rfl rfl) (by kernel_rfl) ?_; go_step))
            | ((with_reducible show wpList _ _ _ (⟨some 91, .extract _ _, _, _, _, _⟩ :: _) _ _); (refine wplV _ (V.extract rfl rfl) (by kernel_rfl) ?_; go_step))
            | ((with_reducible show wpList _ _ _ (⟨_, .load 69 _, _, _, _, _⟩ :: _) _ _); (refine wpl (by kernel_rfl) ?_; apply wp_loadG hS 69 _ rfl _ rfl 3 (row_of rfl) _; (case hp => (repeat (first | with_reducible exact Pull.head | apply Pull.tail))); (case hn => rfl); refine put_move ?_; go_step))
            | ((with_reducible show wpList _ _ _ (⟨some 82, .buildSlice 100 _ _, _, _, _, _⟩ :: _) _ _); (refine wpl (by kernel_rfl) ?_; apply wp_buildSlice1 (o := ⟨some 82, _, _, _, _, _⟩) hS 100 1 _ rfl 69 3 24 el100 _ _; (case hvs => (repeat (first | exact Parts.nil | (apply Parts.agg; (rfl); (rfl)) | (apply Parts.one; (first | exact IsV.int rfl | exact IsV.bool rfl | exact IsV.slice rfl | exact IsV.pointer rfl | exact IsV.string rfl | exact IsV.map rfl | exact IsV.func rfl); (rfl); (rfl))))); (case hn => rfl); (case hn0 => decide); (case hns => decide); clear hS; intro g82 w hS; simp only [List.cons_append, List.nil_append] at hS; refine put_move ?_; go_step))
            | ((with_reducible show wpList _ _ _ (⟨some 83, .call ⟨.builtin .append, _, _⟩, _, _, _, _⟩ :: _) _ _); (refine wpl (by kernel_rfl) ?_; apply wp_append (o := ⟨some 83, _, _, _, _, _⟩) hS _ _ 100 rfl 69 3 24 el100 _ _ _ _ rfl; (case hp => (repeat (first | with_reducible exact Pull.head | apply Pull.tail))); (case hx => exact rfl); (case hm => (first | exact hS.slBlk (by (repeat (first | with_reducible exact Pull.head | apply Pull.tail))) (by rfl) (by decide) | exact hS.sl (by (repeat (first | with_reducible exact Pull.head | apply Pull.tail))) | with_reducible assumption | exact Sl.ext (by with_reducible assumption) hS.1 | exact Sl.nil _ _ | exact Sl.ext (by assumption) hS.1 | assumption)); (case h1 => (first | exact oneAll rfl | exact oneMap _ _ | (intro u hu; cases hu))); (case h63 => unfold maxLen; omega); (case hb => omega); clear hS; intro ad83 c83 w hS; (first | simp only [mapk1] at hS | simp only [mapk2] at hS | simp only [mapk3] at hS | simp only [mapk4] at hS | simp only [mapkl] at hS | skip); refine put_move ?_; go_step))
            | ((with_reducible show wpList _ _ _ (⟨_, .load 3 _, _, _, _, _⟩ :: _) _ _); (refine wpl (by kernel_rfl) ?_; apply wp_load1 hS 3 _ rfl _ _ rfl (one_of rfl) _; (case hp => (repeat (first | with_reducible exact Pull.head | apply Pull.tail))); (case hc => rfl); refine put_move ?_; go_step))
            | ((fail_if_success (with_reducible show wpList _ _ _ (_ :: _) _ _)); go_step))
          all_goals (try (have hF : False := (by omega); cases hF))
          repeat' (first
            | ((with_reducible show wpList _ _ _ (⟨some 99, .binOp .and _ _ _ _, _, _, _, _⟩ :: _) _ _); (refine wplV (.int _ ((u0 % 16))) (V.as (V.and rfl rfl) (by exact HAnd.out)) rfl ?_; go_step))
            | ((with_reducible show wpList _ _ _ (⟨some 133, _, _, _, _, _⟩ :: _) _ _); refine wpl (by kernel_rfl) ?_; refine wp_callV (f := 70) rfl rfl Tryd.call70 (none_any _ _) ?_; rintro e w ⟨rfl, hE⟩; replace hS := hS.ext hE; clear hE; refine ⟨_, rfl, ?_⟩; refine put_move ?_; go_step)
            | go_big_skip
            | ((with_reducible show wpList _ _ _ (⟨_, .move _, _, _, _, _⟩ :: _) _ _); (first | go_big_want | go_step); go_step)
            | ((with_reducible show wpList _ _ _ (⟨_, .assign _, _, _, _, _⟩ :: _) _ _); (first | go_big_want | go_step); go_step)
            | ((with_reducible show wpList _ _ _ (⟨_, .pick _ _ _, _, _, _, _⟩ :: _) _ _); first | (refine wplPickT rfl (by kernel_rfl) ?_; go_step) | (refine wplPickF rfl (by kernel_rfl) ?_; go_step))
            | ((with_reducible show wpList _ _ _ (⟨some 93, .binOp .neq 25 _ _ _, _, _, _, _⟩ :: _) _ _); (refine wplD _ (V.neq rfl rfl) (by kernel_rfl) (fun hB => ?_) (fun hB => ?_) <;> (try (have hF : False := (by omega); cases hF)) <;> go_step))
            | ((with_reducible show wpList _ _ _ (⟨some 100, .binOp .neq 3 _ _ _, _, _, _, _⟩ :: _) _ _); (refine wplD _ (V.neq rfl rfl) (by kernel_rfl) (fun hB => ?_) (fun hB => ?_) <;> (try (have hF : False := (by omega); cases hF)) <;> go_step))
            | ((with_reducible show wpList _ _ _ (⟨some 105, .binOp .gtr _ _ _ _, _, _, _, _⟩ :: _) _ _); (refine wplD _ (V.gtr rfl rfl) (by kernel_rfl) (fun hB => ?_) (fun hB => ?_) <;> (try (have hF : False := (by omega); cases hF)) <;> go_step))
            | ((with_reducible show wpList _ _ _ (⟨some 110, .binOp .lss _ _ _ _, _, _, _, _⟩ :: _) _ _); (refine wplD _ (V.lss rfl rfl) (by kernel_rfl) (fun hB => ?_) (fun hB => ?_) <;> (try (have hF : False := (by omega); cases hF)) <;> go_step))
            | ((with_reducible show wpList _ _ _ (⟨some 115, .binOp .gtr _ _ _ _, _, _, _, _⟩ :: _) _ _); (refine wplD _ (V.gtr rfl rfl) (by kernel_rfl) (fun hB => ?_) (fun hB => ?_) <;> (try (have hF : False := (by omega); cases hF)) <;> go_step))
            | ((with_reducible show wpList _ _ _ (⟨some 120, .binOp .eql 3 _ _ _, _, _, _, _⟩ :: _) _ _); (refine wplD _ (V.eql rfl rfl) (by kernel_rfl) (fun hB => ?_) (fun hB => ?_) <;> (try (have hF : False := (by omega); cases hF)) <;> go_step))
            | ((with_reducible show wpList _ _ _ (⟨some 124, .binOp .neq 3 _ _ _, _, _, _, _⟩ :: _) _ _); (refine wplD _ (V.neq rfl rfl) (by kernel_rfl) (fun hB => ?_) (fun hB => ?_) <;> (try (have hF : False := (by omega); cases hF)) <;> go_step))
            | ((with_reducible show wpList _ _ _ (⟨some 95, .fieldAddr 69 _ 1, _, _, _, _⟩ :: _) _ _); (refine wplV _ (V.fieldAddr fo69_1 rfl (by first | with_reducible exact Nat.zero_add _ | with_reducible exact Nat.add_zero _ | exact rfl)) (by kernel_rfl) ?_; go_step))
            | ((with_reducible show wpList _ _ _ (⟨some 97, .fieldAddr 69 _ 0, _, _, _, _⟩ :: _) _ _); (refine wplV _ (V.fieldAddr fo69_0 rfl (by first | with_reducible exact Nat.zero_add _ | with_reducible exact Nat.add_zero _ | exact rfl)) (by kernel_rfl) ?_; go_step))
            | ((with_reducible show wpList _ _ _ (⟨some 103, .fieldAddr 69 _ 1, _, _, _, _⟩ :: _) _ _); (refine wplV _ (V.fieldAddr fo69_1 rfl (by first | with_reducible exact Nat.zero_add _ | with_reducible exact Nat.add_zero _ | exact rfl)) (by kernel_rfl) ?_; go_step))
            | ((with_reducible show wpList _ _ _ (⟨some 108, .fieldAddr 69 _ 0, _, _, _, _⟩ :: _) _ _); (refine wplV _ (V.fieldAddr fo69_0 rfl (by first | with_reducible exact Nat.zero_add _ | with_reducible exact Nat.add_zero _ | exact rfl)) (by kernel_rfl) ?_; go_step))
            | ((with_reducible show wpList _ _ _ (⟨some 113, .fieldAddr 69 _ 0, _, _, _, _⟩ :: _) _ _); (refine wplV _ (V.fieldAddr fo69_0 rfl (by first | with_reducible exact Nat.zero_add _ | with_reducible exact Nat.add_zero _ | exact rfl)) (by kernel_rfl) ?_; go_step))
            | ((with_reducible show wpList _ _ _ (⟨some 118, .fieldAddr 69 _ 1, _, _, _, _⟩ :: _) _ _); (refine wplV _ (V.fieldAddr fo69_1 rfl (by first | with_reducible exact Nat.zero_add _ | with_reducible exact Nat.add_zero _ | exact rfl)) (by kernel_rfl) ?_; go_step))
            | ((with_reducible show wpList _ _ _ (⟨some 122, .fieldAddr 69 _ 0, _, _, _, _⟩ :: _) _ _); (refine wplV _ (V.fieldAddr fo69_0 rfl (by first | with_reducible exact Nat.zero_add _ | with_reducible exact Nat.add_zero _ | exact rfl)) (by kernel_rfl) ?_; go_step))
            | ((with_reducible show wpList _ _ _ (⟨some 127, .fieldAddr 69 _ 0, _, _, _, _⟩ :: _) _ _); (refine wplV _ (V.fieldAddr fo69_0 rfl (by first | with_reducible exact Nat.zero_add _ | with_reducible exact Nat.add_zero _ | exact rfl)) (by kernel_rfl) ?_; go_step))
            | ((with_reducible show wpList _ _ _ (⟨some 129, .binOp .neq 3 _ _ _, _, _, _, _⟩ :: _) _ _); (refine wplV _ (V.neq rfl rfl) (by kernel_rfl) ?_; go_step))
            | ((with_reducible show wpList _ _ _ (⟨some 134, .extract _ _, _, _, _, _⟩ :: _) _ _); (refine wplV _ (V.extract rfl rfl) (by kernel_rfl) ?_; go_step))
            | ((with_reducible show wpList _ _ _ (⟨some 135, .extract _ _, _, _, _, _⟩ :: _) _ _); (refine wplV _ (V.extract rfl rfl) (by kernel_rfl) ?_; go_step))
            | ((with_reducible show wpList _ _ _ (⟨some 136, .extract _ _, _, _, _, _⟩ :: _) _ _); (refine wplV _ (V.extract rfl rfl) (by kernel_rfl) ?_; go_step))
            | ((with_reducible show wpList _ _ _ (⟨_, .load 3 _, _, _, _, _⟩ :: _) _ _); (refine wpl (by kernel_rfl) ?_; apply wp_load1 hS 3 _ rfl _ _ rfl (one_of rfl) _; (case hp => (repeat (first | with_reducible exact Pull.head | apply Pull.tail))); (case hc => rfl); refine put_move ?_; go_step))
            | ((with_reducible show wpList _ _ _ (⟨_, .store 52 _ _, _, _, _, _⟩ :: _) _ _); (refine wpl (by kernel_rfl) ?_; apply wp_storeA hS 52 _ _ rfl _ rfl 64 (row_of rfl) _ _; (case hp => (repeat (first | with_reducible exact Pull.head | apply Pull.tail))); (case hy => rfl); (case hm => (repeat (first | assumption | exact Len.rep | apply Len.set | ((with_reducible show Len (_ :: _) _); exact rfl)))); (case hd => exact rfl); clear hS; intro w hS))
            | ((fail_if_success (with_reducible show wpList _ _ _ (_ :: _) _ _)); go_step))
          all_goals (try (have hF : False := (by omega); cases hF))
          all_goals
            refine ret_all (xs := [_, _, _]) rfl (.cons (OneRes.arr hS rfl (row_of (n := 64) rfl) (by (repeat (first | with_reducible exact Pull.head | apply Pull.tail)))) (.cons (OneRes.tmp rfl) (.cons (OneRes.tmp rfl) (.nil)))) (by simp) rfl ?_
            exact from_no 4 HF2.out hS (by (repeat (first | exact Sub.nil | with_reducible exact Sub.refl | (apply Sub.cons; (case p => (repeat (first | with_reducible exact Pull.head | apply Pull.tail)))) | apply Sub.skip)))
        case neg =>
          have hr2 : u0 < 0 ∨ 255 < u0 := by omega
          clear hor2 hr
          repeat' (first
            | ((with_reducible show wpList _ _ _ (⟨some 69, _, _, _, _, _⟩ :: _) _ _); refine wpl (by kernel_rfl) ?_; refine wp_callI rfl (.iface Z.tid Z.ptr) rfl [.bool false] rfl Z.f #[Z.ptr, .bool false] (Z.inv false) (Z.call _ _ _ s false _ _ _ _ _ hS (by (repeat (first | with_reducible exact Pull.head | apply Pull.tail))) HN2.out) ?_; clear hS; rintro e w ⟨rfl, hS⟩; refine ⟨_, rfl, ?_⟩; refine put_move ?_; go_step)
            | ((with_reducible show wpList _ _ _ (⟨_, .move _, _, _, _, _⟩ :: _) _ _); (first | go_big_want | go_step); go_step)
            | ((with_reducible show wpList _ _ _ (⟨_, .assign _, _, _, _, _⟩ :: _) _ _); (first | go_big_want | go_step); go_step)
            | ((with_reducible show wpList _ _ _ (⟨some 66, .binOp .lss _ _ _ _, _, _, _, _⟩ :: _) _ _); (refine wplV _ (V.lss rfl rfl) (by kernel_rfl) ?_; go_step))
            | ((with_reducible show wpList _ _ _ (⟨some 70, .extract _ _, _, _, _, _⟩ :: _) _ _); (refine wplV _ (V.extract rfl rfl) (by kernel_rfl) ?_; go_step))
            | ((with_reducible show wpList _ _ _ (⟨some 71, .extract _ _, _, _, _, _⟩ :: _) _ _); (refine wplV _ (V.extract rfl rfl) (by kernel_rfl) ?_; go_step))
            | ((with_reducible show wpList _ _ _ (⟨some 14, .alloc 69, _, _, _, _⟩ :: _) _ _); (refine wpl (by kernel_rfl) ?_; apply wp_alloc (o := ⟨some 14, _, _, _, _, _⟩) hS 69 rfl (.agg #[.int .i64 0, .int .i64 0, .int .i64 0]) [.int .i64 0, .int .i64 0, .int .i64 0] (fun w => Tryd.zeroValue69 w) rfl; clear hS; intro g14 w hS; refine put_move ?_; go_step))
            | ((with_reducible show wpList _ _ _ (⟨_, .store 69 _ _, _, _, _, _⟩ :: _) _ _); (refine wpl (by kernel_rfl) ?_; apply wp_storeG hS 69 _ _ rfl _ rfl 3 (row_of rfl) _ _; (case hp => (repeat (first | with_reducible exact Pull.head | apply Pull.tail))); (case hy => rfl); (case hn => rfl); (case hn' => rfl); (case hv => rfl); (case hd => exact rfl); clear hS; intro w hS))
            | ((fail_if_success (with_reducible show wpList _ _ _ (_ :: _) _ _)); go_step))
          all_goals (try (have hF : False := (by omega); cases hF))
          repeat' (first
            | ((with_reducible show wpList _ _ _ (⟨some 89, _, _, _, _, _⟩ :: _) _ _); refine wpl_call (f := 71) Tryd.call71 (by kernel_rfl) ?_; refine ⟨_, (back_yes u1 u2 _ hB2), ?_⟩; rintro e w' ⟨rfl, rfl⟩; rw [HNb.out]; refine ⟨_, rfl, ?_⟩; refine put_move ?_; go_step)
            | ((with_reducible show wpList _ _ _ (⟨_, .move _, _, _, _, _⟩ :: _) _ _); (first | go_big_want | go_step); go_step)
            | ((with_reducible show wpList _ _ _ (⟨_, .assign _, _, _, _, _⟩ :: _) _ _); (first | go_big_want | go_step); go_step)
            | ((with_reducible show wpList _ _ _ (⟨some 73, .binOp .neq 25 _ _ _, _, _, _, _⟩ :: _) _ _); (refine wplV _ (V.neq rfl rfl) (by kernel_rfl) ?_; go_step))
            | ((with_reducible show wpList _ _ _ (⟨some 85, .fieldAddr 69 _ 1, _, _, _, _⟩ :: _) _ _); (refine wplV _ (V.fieldAddr fo69_1 rfl (by first | with_reducible exact Nat.zero_add _ | with_reducible exact Nat.add_zero _ | exact rfl)) (by kernel_rfl) ?_; go_step))
            | ((with_reducible show wpList _ _ _ (⟨some 87, .fieldAddr 69 _ 2, _, _, _, _⟩ :: _) _ _); (refine wplV _ (V.fieldAddr fo69_2 rfl (by first | with_reducible exact Nat.zero_add _ | with_reducible exact Nat.add_zero _ | exact rfl)) (by kernel_rfl) ?_; go_step))
            | ((with_reducible show wpList _ _ _ (⟨some 90, .extract _ _, _, _, _, _⟩ :: _) _ _); (refine wplV _ (V.extract rfl rfl) (by kernel_rfl) ?_; go_step))
            | ((with_reducible show wpList _ _ _ (⟨some 91, .extract _ _, _, _, _, _⟩ :: _) _ _); (refine wplV _ (V.extract rfl rfl) (by kernel_rfl) ?_; go_step))
            | ((with_reducible show wpList _ _ _ (⟨_, .load 69 _, _, _, _, _⟩ :: _) _ _); (refine wpl (by kernel_rfl) ?_; apply wp_loadG hS 69 _ rfl _ rfl 3 (row_of rfl) _; (case hp => (repeat (first | with_reducible exact Pull.head | apply Pull.tail))); (case hn => rfl); refine put_move ?_; go_step))
            | ((with_reducible show wpList _ _ _ (⟨some 82, .buildSlice 100 _ _, _, _, _, _⟩ :: _) _ _); (refine wpl (by kernel_rfl) ?_; apply wp_buildSlice1 (o := ⟨some 82, _, _, _, _, _⟩) hS 100 1 _ rfl 69 3 24 el100 _ _; (case hvs => (repeat (first | exact Parts.nil | (apply Parts.agg; (rfl); (rfl)) | (apply Parts.one; (first | exact IsV.int rfl | exact IsV.bool rfl | exact IsV.slice rfl | exact IsV.pointer rfl | exact IsV.string rfl | exact IsV.map rfl | exact IsV.func rfl); (rfl); (rfl))))); (case hn => rfl); (case hn0 => decide); (case hns => decide); clear hS; intro g82 w hS; simp only [List.cons_append, List.nil_append] at hS; refine put_move ?_; go_step))
            | ((with_reducible show wpList _ _ _ (⟨some 83, .call ⟨.builtin .append, _, _⟩, _, _, _, _⟩ :: _) _ _); (refine wpl (by kernel_rfl) ?_; apply wp_append (o := ⟨some 83, _, _, _, _, _⟩) hS _ _ 100 rfl 69 3 24 el100 _ _ _ _ rfl; (case hp => (repeat (first | with_reducible exact Pull.head | apply Pull.tail))); (case hx => exact rfl); (case hm => (first | exact hS.slBlk (by (repeat (first | with_reducible exact Pull.head | apply Pull.tail))) (by rfl) (by decide) | exact hS.sl (by (repeat (first | with_reducible exact Pull.head | apply Pull.tail))) | with_reducible assumption | exact Sl.ext (by with_reducible assumption) hS.1 | exact Sl.nil _ _ | exact Sl.ext (by assumption) hS.1 | assumption)); (case h1 => (first | exact oneAll rfl | exact oneMap _ _ | (intro u hu; cases hu))); (case h63 => unfold maxLen; omega); (case hb => omega); clear hS; intro ad83 c83 w hS; (first | simp only [mapk1] at hS | simp only [mapk2] at hS | simp only [mapk3] at hS | simp only [mapk4] at hS | simp only [mapkl] at hS | skip); refine put_move ?_; go_step))
            | ((with_reducible show wpList _ _ _ (⟨_, .load 3 _, _, _, _, _⟩ :: _) _ _); (refine wpl (by kernel_rfl) ?_; apply wp_load1 hS 3 _ rfl _ _ rfl (one_of rfl) _; (case hp => (repeat (first | with_reducible exact Pull.head | apply Pull.tail))); (case hc => rfl); refine put_move ?_; go_step))
            | ((fail_if_success (with_reducible show wpList _ _ _ (_ :: _) _ _)); go_step))
          all_goals (try (have hF : False := (by omega); cases hF))
          repeat' (first
            | ((with_reducible show wpList _ _ _ (⟨some 133, _, _, _, _, _⟩ :: _) _ _); refine wpl (by kernel_rfl) ?_; refine wp_callV (f := 70) rfl rfl Tryd.call70 (none_any _ _) ?_; rintro e w ⟨rfl, hE⟩; replace hS := hS.ext hE; clear hE; refine ⟨_, rfl, ?_⟩; refine put_move ?_; go_step)
            | go_big_skip
            | ((with_reducible show wpList _ _ _ (⟨_, .move _, _, _, _, _⟩ :: _) _ _); (first | go_big_want | go_step); go_step)
            | ((with_reducible show wpList _ _ _ (⟨_, .assign _, _, _, _, _⟩ :: _) _ _); (first | go_big_want | go_step); go_step)
            | ((with_reducible show wpList _ _ _ (⟨_, .pick _ _ _, _, _, _, _⟩ :: _) _ _); first | (refine wplPickT rfl (by kernel_rfl) ?_; go_step) | (refine wplPickF rfl (by kernel_rfl) ?_; go_step))
            | ((with_reducible show wpList _ _ _ (⟨some 93, .binOp .neq 25 _ _ _, _, _, _, _⟩ :: _) _ _); (refine wplD _ (V.neq rfl rfl) (by kernel_rfl) (fun hB => ?_) (fun hB => ?_) <;> (try (have hF : False := (by omega); cases hF)) <;> go_step))
            | ((with_reducible show wpList _ _ _ (⟨some 100, .binOp .neq 3 _ _ _, _, _, _, _⟩ :: _) _ _); (refine wplD _ (V.neq rfl rfl) (by kernel_rfl) (fun hB => ?_) (fun hB => ?_) <;> (try (have hF : False := (by omega); cases hF)) <;> go_step))
            | ((with_reducible show wpList _ _ _ (⟨some 105, .binOp .gtr _ _ _ _, _, _, _, _⟩ :: _) _ _); (refine wplD _ (V.gtr rfl rfl) (by kernel_rfl) (fun hB => ?_) (fun hB => ?_) <;> (try (have hF : False := (by omega); cases hF)) <;> go_step))
            | ((with_reducible show wpList _ _ _ (⟨some 110, .binOp .lss _ _ _ _, _, _, _, _⟩ :: _) _ _); (refine wplD _ (V.lss rfl rfl) (by kernel_rfl) (fun hB => ?_) (fun hB => ?_) <;> (try (have hF : False := (by omega); cases hF)) <;> go_step))
            | ((with_reducible show wpList _ _ _ (⟨some 115, .binOp .gtr _ _ _ _, _, _, _, _⟩ :: _) _ _); (refine wplD _ (V.gtr rfl rfl) (by kernel_rfl) (fun hB => ?_) (fun hB => ?_) <;> (try (have hF : False := (by omega); cases hF)) <;> go_step))
            | ((with_reducible show wpList _ _ _ (⟨some 95, .fieldAddr 69 _ 1, _, _, _, _⟩ :: _) _ _); (refine wplV _ (V.fieldAddr fo69_1 rfl (by first | with_reducible exact Nat.zero_add _ | with_reducible exact Nat.add_zero _ | exact rfl)) (by kernel_rfl) ?_; go_step))
            | ((with_reducible show wpList _ _ _ (⟨some 97, .fieldAddr 69 _ 0, _, _, _, _⟩ :: _) _ _); (refine wplV _ (V.fieldAddr fo69_0 rfl (by first | with_reducible exact Nat.zero_add _ | with_reducible exact Nat.add_zero _ | exact rfl)) (by kernel_rfl) ?_; go_step))
            | ((with_reducible show wpList _ _ _ (⟨some 99, .binOp .and _ _ _ _, _, _, _, _⟩ :: _) _ _); (refine wplV _ (V.and rfl rfl) (by kernel_rfl) ?_; go_step))
            | ((with_reducible show wpList _ _ _ (⟨some 103, .fieldAddr 69 _ 1, _, _, _, _⟩ :: _) _ _); (refine wplV _ (V.fieldAddr fo69_1 rfl (by first | with_reducible exact Nat.zero_add _ | with_reducible exact Nat.add_zero _ | exact rfl)) (by kernel_rfl) ?_; go_step))
            | ((with_reducible show wpList _ _ _ (⟨some 108, .fieldAddr 69 _ 0, _, _, _, _⟩ :: _) _ _); (refine wplV _ (V.fieldAddr fo69_0 rfl (by first | with_reducible exact Nat.zero_add _ | with_reducible exact Nat.add_zero _ | exact rfl)) (by kernel_rfl) ?_; go_step))
            | ((with_reducible show wpList _ _ _ (⟨some 113, .fieldAddr 69 _ 0, _, _, _, _⟩ :: _) _ _); (refine wplV _ (V.fieldAddr fo69_0 rfl (by first | with_reducible exact Nat.zero_add _ | with_reducible exact Nat.add_zero _ | exact rfl)) (by kernel_rfl) ?_; go_step))
            | ((with_reducible show wpList _ _ _ (⟨some 134, .extract _ _, _, _, _, _⟩ :: _) _ _); (refine wplV _ (V.extract rfl rfl) (by kernel_rfl) ?_; go_step))
            | ((with_reducible show wpList _ _ _ (⟨some 135, .extract _ _, _, _, _, _⟩ :: _) _ _); (refine wplV _ (V.extract rfl rfl) (by kernel_rfl) ?_; go_step))
            | ((with_reducible show wpList _ _ _ (⟨some 136, .extract _ _, _, _, _, _⟩ :: _) _ _); (refine wplV _ (V.extract rfl rfl) (by kernel_rfl) ?_; go_step))
            | ((with_reducible show wpList _ _ _ (⟨_, .load 3 _, _, _, _, _⟩ :: _) _ _); (refine wpl (by kernel_rfl) ?_; apply wp_load1 hS 3 _ rfl _ _ rfl (one_of rfl) _; (case hp => (repeat (first | with_reducible exact Pull.head | apply Pull.tail))); (case hc => rfl); refine put_move ?_; go_step))
            | ((with_reducible show wpList _ _ _ (⟨_, .store 52 _ _, _, _, _, _⟩ :: _) _ _); (refine wpl (by kernel_rfl) ?_; apply wp_storeA hS 52 _ _ rfl _ rfl 64 (row_of rfl) _ _; (case hp => (repeat (first | with_reducible exact Pull.head | apply Pull.tail))); (case hy => rfl); (case hm => (repeat (first | assumption | exact Len.rep | apply Len.set | ((with_reducible show Len (_ :: _) _); exact rfl)))); (case hd => exact rfl); clear hS; intro w hS))
            | ((fail_if_success (with_reducible show wpList _ _ _ (_ :: _) _ _)); go_step))
          all_goals (try (have hF : False := (by omega); cases hF))
          all_goals
            refine ret_all (xs := [_, _, _]) rfl (.cons (OneRes.arr hS rfl (row_of (n := 64) rfl) (by (repeat (first | with_reducible exact Pull.head | apply Pull.tail)))) (.cons (OneRes.tmp rfl) (.cons (OneRes.tmp rfl) (.nil)))) (by simp) rfl ?_
            exact from_no 4 HF2.out hS (by (repeat (first | exact Sub.nil | with_reducible exact Sub.refl | (apply Sub.cons; (case p => (repeat (first | with_reducible exact Pull.head | apply Pull.tail)))) | apply Sub.skip)))
      case false =>
        rw [if_neg (by simp)] at hlo
        have hgood : okB u1 u2 = true ∧ u1 ≤ 11 ∧ 0 ≤ u0 ∧ u0 ≤ 255 ∧ u1 = u0 % 16 ∧ (u1 ≠ 0 ∨ u0 = 0 ∨ u0 = 240) := by
          by_cases hB2 : okB u1 u2 = true
          · refine ⟨hB2, ?_⟩
            have hno : ¬ (11 < u1 ∨ u0 < 0 ∨ 255 < u0 ∨ u1 ≠ u0 % 16 ∨ (u1 = 0 ∧ u0 ≠ 0 ∧ u0 ≠ 240)) := fun h => by have := hiff.2 (.inr h); cases this
            omega
          · have := hiff.2 (.inl (by simpa using hB2)); cases this
        obtain ⟨hB2, g1, g2, g3, g4, g5⟩ := hgood
        have HAnd := hid (and15 u0 ⟨g2, g3⟩)
        obtain ⟨nb1, nb2, nb3⟩ := numT_bd u0 u1 u2 hB2
        have nb4 := nb3 g1
        obtain ⟨n2, hn2⟩ : ∃ x, numT (u0, u1, u2) = x := ⟨_, rfl⟩
        rw [hn2] at nb4 hlo
        have HNb : Hid (sback u1.toNat u2.toNat = n2) := hid hn2
        clear hiff hbd hn2 nb1 nb2 nb3
        by_cases hend : u0 = 0
        case pos =>
          rw [if_pos hend] at hlo
          have HLo2 := hid hlo
          have HAl2 : Hid ((all ++ [(u0, u1, u2)]).length = m + 1) := hid (by rw [List.length_append, HAl.out]; rfl)
          clear hlo HAl
          obtain ⟨al2, hal2⟩ : ∃ x, all ++ [(u0, u1, u2)] = x := ⟨_, rfl⟩
          rw [hal2] at HLo2 HAl2 HFl
          clear hal2
          obtain ⟨zf, hzf⟩ : ∃ x, zfrom bl = x := ⟨_, rfl⟩
          have hzl : Len zf 64 := by rw [← hzf]; exact zfrom_len bl
          have HZf : Veil (zfrom bl = zf) := ⟨hzf⟩
          clear hzf
          repeat' (first
            | ((with_reducible show wpList _ _ _ (⟨some 69, _, _, _, _, _⟩ :: _) _ _); refine wpl (by kernel_rfl) ?_; refine wp_callI rfl (.iface Z.tid Z.ptr) rfl [.bool false] rfl Z.f #[Z.ptr, .bool false] (Z.inv false) (Z.call _ _ _ s false _ _ _ _ _ hS (by (repeat (first | with_reducible exact Pull.head | apply Pull.tail))) HN2.out) ?_; clear hS; rintro e w ⟨rfl, hS⟩; refine ⟨_, rfl, ?_⟩; refine put_move ?_; go_step)
            | ((with_reducible show wpList _ _ _ (⟨_, .move _, _, _, _, _⟩ :: _) _ _); (first | go_big_want | go_step); go_step)
            | ((with_reducible show wpList _ _ _ (⟨_, .assign _, _, _, _, _⟩ :: _) _ _); (first | go_big_want | go_step); go_step)
            | ((with_reducible show wpList _ _ _ (⟨some 66, .binOp .lss _ _ _ _, _, _, _, _⟩ :: _) _ _); (refine wplV _ (V.lss rfl rfl) (by kernel_rfl) ?_; go_step))
            | ((with_reducible show wpList _ _ _ (⟨some 70, .extract _ _, _, _, _, _⟩ :: _) _ _); (refine wplV _ (V.extract rfl rfl) (by kernel_rfl) ?_; go_step))
            | ((with_reducible show wpList _ _ _ (⟨some 71, .extract _ _, _, _, _, _⟩ :: _) _ _); (refine wplV _ (V.extract rfl rfl) (by kernel_rfl) ?_; go_step))
            | ((with_reducible show wpList _ _ _ (⟨some 14, .alloc 69, _, _, _, _⟩ :: _) _ _); (refine wpl (by kernel_rfl) ?_; apply wp_alloc (o := ⟨some 14, _, _, _, _, _⟩) hS 69 rfl (.agg #[.int .i64 0, .int .i64 0, .int .i64 0]) [.int .i64 0, .int .i64 0, .int .i64 0] (fun w => Tryd.zeroValue69 w) rfl; clear hS; intro g14 w hS; refine put_move ?_; go_step))
            | ((with_reducible show wpList _ _ _ (⟨_, .store 69 _ _, _, _, _, _⟩ :: _) _ _); (refine wpl (by kernel_rfl) ?_; apply wp_storeG hS 69 _ _ rfl _ rfl 3 (row_of rfl) _ _; (case hp => (repeat (first | with_reducible exact Pull.head | apply Pull.tail))); (case hy => rfl); (case hn => rfl); (case hn' => rfl); (case hv => rfl); (case hd => exact rfl); clear hS; intro w hS))
            | ((fail_if_success (with_reducible show wpList _ _ _ (_ :: _) _ _)); go_step))
          all_goals (try (have hF : False := (by omega); cases hF))
          repeat' (first
            | ((with_reducible show wpList _ _ _ (⟨some 89, _, _, _, _, _⟩ :: _) _ _); refine wpl_call (f := 71) Tryd.call71 (by kernel_rfl) ?_; refine ⟨_, (back_yes u1 u2 _ hB2), ?_⟩; rintro e w' ⟨rfl, rfl⟩; rw [HNb.out]; refine ⟨_, rfl, ?_⟩; refine put_move ?_; go_step)
            | ((with_reducible show wpList _ _ _ (⟨_, .move _, _, _, _, _⟩ :: _) _ _); (first | go_big_want | go_step); go_step)
            | ((with_reducible show wpList _ _ _ (⟨_, .assign _, _, _, _, _⟩ :: _) _ _); (first | go_big_want | go_step); go_step)
            | ((with_reducible show wpList _ _ _ (⟨some 73, .binOp .neq 25 _ _ _, _, _, _, _⟩ :: _) _ _); (refine wplV _ (V.neq rfl rfl) (by kernel_rfl) ?_; go_step))
            | ((with_reducible show wpList _ _ _ (⟨some 85, .fieldAddr 69 _ 1, _, _, _, _⟩ :: _) _ _); (refine wplV _ (V.fieldAddr fo69_1 rfl (by first | with_reducible exact Nat.zero_add _ | with_reducible exact Nat.add_zero _ | exact rfl)) (by kernel_rfl) ?_; go_step))
            | ((with_reducible show wpList _ _ _ (⟨some 87, .fieldAddr 69 _ 2, _, _, _, _⟩ :: _) _ _); (refine wplV _ (V.fieldAddr fo69_2 rfl (by first | with_reducible exact Nat.zero_add _ | with_reducible exact Nat.add_zero _ | exact rfl)) (by kernel_rfl) ?_; go_step))
            | ((with_reducible show wpList _ _ _ (⟨some 90, .extract _ _, _, _, _, _⟩ :: _) _ _); (refine wplV _ (V.extract rfl rfl) (by kernel_rfl) ?_; go_step))
            | ((with_reducible show wpList _ _ _ (⟨some 91, .extract _ _, _, _, _, _⟩ :: _) _ _); (refine wplV _ (V.extract rfl rfl) (by kernel_rfl) ?_; go_step))
            | ((with_reducible show wpList _ _ _ (⟨_, .load 69 _, _, _, _, _⟩ :: _) _ _); (refine wpl (by kernel_rfl) ?_; apply wp_loadG hS 69 _ rfl _ rfl 3 (row_of rfl) _; (case hp => (repeat (first | with_reducible exact Pull.head | apply Pull.tail))); (case hn => rfl); refine put_move ?_; go_step))
            | ((with_reducible show wpList _ _ _ (⟨some 82, .buildSlice 100 _ _, _, _, _, _⟩ :: _) _ _); (refine wpl (by kernel_rfl) ?_; apply wp_buildSlice1 (o := ⟨some 82, _, _, _, _, _⟩) hS 100 1 _ rfl 69 3 24 el100 _ _; (case hvs => (repeat (first | exact Parts.nil | (apply Parts.agg; (rfl); (rfl)) | (apply Parts.one; (first | exact IsV.int rfl | exact IsV.bool rfl | exact IsV.slice rfl | exact IsV.pointer rfl | exact IsV.string rfl | exact IsV.map rfl | exact IsV.func rfl); (rfl); (rfl))))); (case hn => rfl); (case hn0 => decide); (case hns => decide); clear hS; intro g82 w hS; simp only [List.cons_append, List.nil_append] at hS; refine put_move ?_; go_step))
            | ((with_reducible show wpList _ _ _ (⟨some 83, .call ⟨.builtin .append, _, _⟩, _, _, _, _⟩ :: _) _ _); (refine wpl (by kernel_rfl) ?_; apply wp_append (o := ⟨some 83, _, _, _, _, _⟩) hS _ _ 100 rfl 69 3 24 el100 _ _ _ _ rfl; (case hp => (repeat (first | with_reducible exact Pull.head | apply Pull.tail))); (case hx => exact rfl); (case hm => (first | exact hS.slBlk (by (repeat (first | with_reducible exact Pull.head | apply Pull.tail))) (by rfl) (by decide) | exact hS.sl (by (repeat (first | with_reducible exact Pull.head | apply Pull.tail))) | with_reducible assumption | exact Sl.ext (by with_reducible assumption) hS.1 | exact Sl.nil _ _ | exact Sl.ext (by assumption) hS.1 | assumption)); (case h1 => (first | exact oneAll rfl | exact oneMap _ _ | (intro u hu; cases hu))); (case h63 => unfold maxLen; omega); (case hb => omega); clear hS; intro ad83 c83 w hS; (first | simp only [mapk1] at hS | simp only [mapk2] at hS | simp only [mapk3] at hS | simp only [mapk4] at hS | simp only [mapkl] at hS | skip); refine put_move ?_; go_step))
            | ((with_reducible show wpList _ _ _ (⟨_, .load 3 _, _, _, _, _⟩ :: _) _ _); (refine wpl (by kernel_rfl) ?_; apply wp_load1 hS 3 _ rfl _ _ rfl (one_of rfl) _; (case hp => (repeat (first | with_reducible exact Pull.head | apply Pull.tail))); (case hc => rfl); refine put_move ?_; go_step))
            | ((fail_if_success (with_reducible show wpList _ _ _ (_ :: _) _ _)); go_step))
          all_goals (try (have hF : False := (by omega); cases hF))
          repeat' (first
            | ((with_reducible show wpList _ _ _ (⟨some 99, .binOp .and _ _ _ _, _, _, _, _⟩ :: _) _ _); (refine wplV (.int _ ((u0 % 16))) (V.as (V.and rfl rfl) (by exact HAnd.out)) rfl ?_; go_step))
            | go_big_skip
            | ((with_reducible show wpList _ _ _ (⟨_, .move _, _, _, _, _⟩ :: _) _ _); (first | go_big_want | go_step); go_step)
            | ((with_reducible show wpList _ _ _ (⟨_, .pick _ _ _, _, _, _, _⟩ :: _) _ _); first | (refine wplPickT rfl (by kernel_rfl) ?_; go_step) | (refine wplPickF rfl (by kernel_rfl) ?_; go_step))
            | ((with_reducible show wpList _ _ _ (⟨some 93, .binOp .neq 25 _ _ _, _, _, _, _⟩ :: _) _ _); (refine wplD _ (V.neq rfl rfl) (by kernel_rfl) (fun hB => ?_) (fun hB => ?_) <;> (try (have hF : False := (by omega); cases hF)) <;> go_step))
            | ((with_reducible show wpList _ _ _ (⟨some 100, .binOp .neq 3 _ _ _, _, _, _, _⟩ :: _) _ _); (refine wplD _ (V.neq rfl rfl) (by kernel_rfl) (fun hB => ?_) (fun hB => ?_) <;> (try (have hF : False := (by omega); cases hF)) <;> go_step))
            | ((with_reducible show wpList _ _ _ (⟨some 105, .binOp .gtr _ _ _ _, _, _, _, _⟩ :: _) _ _); (refine wplD _ (V.gtr rfl rfl) (by kernel_rfl) (fun hB => ?_) (fun hB => ?_) <;> (try (have hF : False := (by omega); cases hF)) <;> go_step))
            | ((with_reducible show wpList _ _ _ (⟨some 110, .binOp .lss _ _ _ _, _, _, _, _⟩ :: _) _ _); (refine wplD _ (V.lss rfl rfl) (by kernel_rfl) (fun hB => ?_) (fun hB => ?_) <;> (try (have hF : False := (by omega); cases hF)) <;> go_step))
            | ((with_reducible show wpList _ _ _ (⟨some 115, .binOp .gtr _ _ _ _, _, _, _, _⟩ :: _) _ _); (refine wplD _ (V.gtr rfl rfl) (by kernel_rfl) (fun hB => ?_) (fun hB => ?_) <;> (try (have hF : False := (by omega); cases hF)) <;> go_step))
            | ((with_reducible show wpList _ _ _ (⟨some 120, .binOp .eql 3 _ _ _, _, _, _, _⟩ :: _) _ _); (refine wplD _ (V.eql rfl rfl) (by kernel_rfl) (fun hB => ?_) (fun hB => ?_) <;> (try (have hF : False := (by omega); cases hF)) <;> go_step))
            | ((with_reducible show wpList _ _ _ (⟨some 124, .binOp .neq 3 _ _ _, _, _, _, _⟩ :: _) _ _); (refine wplD _ (V.neq rfl rfl) (by kernel_rfl) (fun hB => ?_) (fun hB => ?_) <;> (try (have hF : False := (by omega); cases hF)) <;> go_step))
            | ((with_reducible show wpList _ _ _ (⟨some 95, .fieldAddr 69 _ 1, _, _, _, _⟩ :: _) _ _); (refine wplV _ (V.fieldAddr fo69_1 rfl (by first | with_reducible exact Nat.zero_add _ | with_reducible exact Nat.add_zero _ | exact rfl)) (by kernel_rfl) ?_; go_step))
            | ((with_reducible show wpList _ _ _ (⟨some 97, .fieldAddr 69 _ 0, _, _, _, _⟩ :: _) _ _); (refine wplV _ (V.fieldAddr fo69_0 rfl (by first | with_reducible exact Nat.zero_add _ | with_reducible exact Nat.add_zero _ | exact rfl)) (by kernel_rfl) ?_; go_step))
            | ((with_reducible show wpList _ _ _ (⟨some 103, .fieldAddr 69 _ 1, _, _, _, _⟩ :: _) _ _); (refine wplV _ (V.fieldAddr fo69_1 rfl (by first | with_reducible exact Nat.zero_add _ | with_reducible exact Nat.add_zero _ | exact rfl)) (by kernel_rfl) ?_; go_step))
            | ((with_reducible show wpList _ _ _ (⟨some 108, .fieldAddr 69 _ 0, _, _, _, _⟩ :: _) _ _); (refine wplV _ (V.fieldAddr fo69_0 rfl (by first | with_reducible exact Nat.zero_add _ | with_reducible exact Nat.add_zero _ | exact rfl)) (by kernel_rfl) ?_; go_step))
            | ((with_reducible show wpList _ _ _ (⟨some 113, .fieldAddr 69 _ 0, _, _, _, _⟩ :: _) _ _); (refine wplV _ (V.fieldAddr fo69_0 rfl (by first | with_reducible exact Nat.zero_add _ | with_reducible exact Nat.add_zero _ | exact rfl)) (by kernel_rfl) ?_; go_step))
            | ((with_reducible show wpList _ _ _ (⟨some 118, .fieldAddr 69 _ 1, _, _, _, _⟩ :: _) _ _); (refine wplV _ (V.fieldAddr fo69_1 rfl (by first | with_reducible exact Nat.zero_add _ | with_reducible exact Nat.add_zero _ | exact rfl)) (by kernel_rfl) ?_; go_step))
            | ((with_reducible show wpList _ _ _ (⟨some 122, .fieldAddr 69 _ 0, _, _, _, _⟩ :: _) _ _); (refine wplV _ (V.fieldAddr fo69_0 rfl (by first | with_reducible exact Nat.zero_add _ | with_reducible exact Nat.add_zero _ | exact rfl)) (by kernel_rfl) ?_; go_step))
            | ((with_reducible show wpList _ _ _ (⟨_, .load 3 _, _, _, _, _⟩ :: _) _ _); (refine wpl (by kernel_rfl) ?_; apply wp_load1 hS 3 _ rfl _ _ rfl (one_of rfl) _; (case hp => (repeat (first | with_reducible exact Pull.head | apply Pull.tail))); (case hc => rfl); refine put_move ?_; go_step))
            | ((fail_if_success (with_reducible show wpList _ _ _ (_ :: _) _ _)); go_step))
          all_goals (try (have hF : False := (by omega); cases hF))
          repeat' (first
            | ((with_reducible show wpList _ _ _ (⟨some 137, .fieldAddr 69 _ 0, _, _, _, _⟩ :: _) _ _); (refine wplV _ (V.fieldAddr fo69_0 rfl (by first | with_reducible exact Nat.zero_add _ | with_reducible exact Nat.add_zero _ | exact rfl)) (by kernel_rfl) ?_; go_step))
            | ((with_reducible show wpList _ _ _ (⟨some 139, .binOp .eql 3 _ _ _, _, _, _, _⟩ :: _) _ _); (refine wplV _ (V.eql rfl rfl) (by kernel_rfl) ?_; go_step))
            | ((with_reducible show wpList _ _ _ (⟨_, .load 3 _, _, _, _, _⟩ :: _) _ _); (refine wpl (by kernel_rfl) ?_; apply wp_load1 hS 3 _ rfl _ _ rfl (one_of rfl) _; (case hp => (repeat (first | with_reducible exact Pull.head | apply Pull.tail))); (case hc => rfl); refine put_move ?_; go_step))
            | ((fail_if_success (with_reducible show wpList _ _ _ (_ :: _) _ _)); go_step))
          all_goals (try (have hF : False := (by omega); cases hF))
          repeat' (first
            | ((with_reducible show wpList _ _ _ (⟨_, .call ⟨.value (.func 73), _, _⟩, _, _, _, _⟩ :: _) _ _); refine wpl_call (f := 73) Tryd.call73 (by kernel_rfl) ?_; refine ⟨_, (zfrom_any _ bl hbl.out), ?_⟩; rintro e w ⟨rfl, hE⟩; rw [HZf.out]; replace hS := hS.ext hE; clear hE; refine ⟨_, rfl, ?_⟩; refine put_move ?_; go_step)
            | ((with_reducible show wpList _ _ _ (⟨_, .move _, _, _, _, _⟩ :: _) _ _); (first | go_big_want | go_step); go_step)
            | ((with_reducible show wpList _ _ _ (⟨_, .load 52 _, _, _, _, _⟩ :: _) _ _); (refine wpl (by kernel_rfl) ?_; apply wp_loadA hS 52 _ rfl _ rfl 64 (row_of rfl) _; (case hp => (repeat (first | with_reducible exact Pull.head | apply Pull.tail))); refine put_move ?_; go_step))
            | ((with_reducible show wpList _ _ _ (⟨_, .store 52 _ _, _, _, _, _⟩ :: _) _ _); (refine wpl (by kernel_rfl) ?_; apply wp_storeA hS 52 _ _ rfl _ rfl 64 (row_of rfl) _ _; (case hp => (repeat (first | with_reducible exact Pull.head | apply Pull.tail))); (case hy => rfl); (case hm => (repeat (first | assumption | exact Len.rep | apply Len.set | ((with_reducible show Len (_ :: _) _); exact rfl)))); (case hd => exact rfl); clear hS; intro w hS))
            | ((fail_if_success (with_reducible show wpList _ _ _ (_ :: _) _ _)); go_step))
          all_goals (try (have hF : False := (by omega); cases hF))
          rw [← HFl.out] at hS
          have hzb : ∀ i, i < 64 → -2047 ≤ nth zf i ∧ nth zf i ≤ 2047 := fun i hi => by
            rw [← HZf.out]; exact zfrom_bd bl HBl.out i hi
          have HZb := hid hzb
          obtain ⟨T, hT⟩ : ∃ T, toksOf before bl = T := ⟨_, rfl⟩
          have HTz : Veil (toksOf before (zto zf) = T) := ⟨by rw [← HZf.out, zto_zfrom bl hbl.out, hT]⟩
          obtain ⟨NT, hNT⟩ : ∃ N, T.length = N := ⟨_, rfl⟩
          have hNT64 : NT ≤ 64 := by rw [← hNT, ← hT]; exact (toks_len before bl hbl.out).2
          have HTl := hid hNT
          have HRT : Veil (frm Z.next before s0 = if T = al2 then (0, zf, al2, s2) else (4, nought0, [], s2)) := ⟨by
            rw [HF.out, ← HLo2.out]
            dsimp only
            rw [if_neg (by simp), hT, HZf.out]⟩
          clear hzb hT hNT
          by_cases hEq : T = al2
          case pos =>
            have HD := hid (show decide (flt T = flt al2) = true from decide_eq_true (by rw [hEq]))
            have HRF : Veil (frm Z.next before s0 = (0, zf, al2, s2)) := ⟨by rw [HRT.out, if_pos hEq]⟩
            clear hEq
            repeat' (first
              | ((with_reducible show wpList _ _ _ (⟨some 168, _, _, _, _, _⟩ :: _) _ _); refine wpl_call (f := 75) Tryd.call75 (by kernel_rfl) ?_; refine ⟨_, (tokens_any _ before zf hzl hb HZb.out), ?_⟩; rintro e w ⟨a5, c5, rfl, hS2⟩; rw [HTz.out, HTl.out] at hS2; rw [HTz.out, HTl.out]; replace hS := hS.call1 hS2; clear hS2; refine ⟨_, rfl, ?_⟩; refine put_move ?_; go_step)
              | ((with_reducible show wpList _ _ _ (⟨some 170, _, _, _, _, _⟩ :: _) _ _); refine wpl_call (f := 74) Tryd.call74 (by kernel_rfl) ?_; refine ⟨_, (slEqTok_any _ a5 ad83 NT c5 (m + 1) c83 (flt T) (flt al2) (hS.sl (a := a5) (by (repeat (first | with_reducible exact Pull.head | apply Pull.tail)))) (hS.sl (a := ad83) (by (repeat (first | with_reducible exact Pull.head | apply Pull.tail)))) (by omega) (by omega)), ?_⟩; rintro e w ⟨he, hE⟩; rw [HD.out] at he; subst he; replace hS := hS.ext hE; clear hE; refine ⟨_, rfl, ?_⟩; refine put_move ?_; go_step)
              | ((with_reducible show wpList _ _ _ (⟨_, .move _, _, _, _, _⟩ :: _) _ _); (first | go_big_want | go_step); go_step)
              | ((with_reducible show wpList _ _ _ (⟨_, .assign _, _, _, _, _⟩ :: _) _ _); (first | go_big_want | go_step); go_step)
              | ((with_reducible show wpList _ _ _ (⟨some 171, .unOp .not _ _, _, _, _, _⟩ :: _) _ _); (refine wplV _ (V.not rfl) (by kernel_rfl) ?_; go_step))
              | ((with_reducible show wpList _ _ _ (⟨_, .load 52 _, _, _, _, _⟩ :: _) _ _); (refine wpl (by kernel_rfl) ?_; apply wp_loadA hS 52 _ rfl _ rfl 64 (row_of rfl) _; (case hp => (repeat (first | with_reducible exact Pull.head | apply Pull.tail))); refine put_move ?_; go_step))
              | ((with_reducible show wpList _ _ _ (⟨_, .store 52 _ _, _, _, _, _⟩ :: _) _ _); (refine wpl (by kernel_rfl) ?_; apply wp_storeA hS 52 _ _ rfl _ rfl 64 (row_of rfl) _ _; (case hp => (repeat (first | with_reducible exact Pull.head | apply Pull.tail))); (case hy => rfl); (case hm => (repeat (first | assumption | exact Len.rep | apply Len.set | ((with_reducible show Len (_ :: _) _); exact rfl)))); (case hd => exact rfl); clear hS; intro w hS))
              | ((fail_if_success (with_reducible show wpList _ _ _ (_ :: _) _ _)); go_step))
            all_goals (try (have hF : False := (by omega); cases hF))
            refine ret_all (xs := [_, _, _]) rfl (.cons (OneRes.arr hS rfl (row_of (n := 64) rfl) (by (repeat (first | with_reducible exact Pull.head | apply Pull.tail)))) (.cons (OneRes.tmp rfl) (.cons (OneRes.tmp rfl) (.nil)))) (by simp) rfl ?_
            refine ⟨ad83, c83, ?_, ?_⟩
            · rw [HRF.out]; dsimp only; rw [HAl2.out]; first | done | rfl
            · rw [HRF.out]; dsimp only; rw [HAl2.out]; exact hS.sub (by (repeat (first | exact Sub.nil | with_reducible exact Sub.refl | (apply Sub.cons; (case p => (repeat (first | with_reducible exact Pull.head | apply Pull.tail)))) | apply Sub.skip)))
          case neg =>
            have HD := hid (show decide (flt T = flt al2) = false from decide_eq_false (fun h => hEq (flt_inj h)))
            have HRF : frm Z.next before s0 = (4, nought0, [], s2) := by rw [HRT.out, if_neg hEq]
            have HRF2 : Veil (frm Z.next before s0 = (4, nought0, [], s2)) := ⟨HRF⟩
            clear hEq HRF
            repeat' (first
              | ((with_reducible show wpList _ _ _ (⟨some 168, _, _, _, _, _⟩ :: _) _ _); refine wpl_call (f := 75) Tryd.call75 (by kernel_rfl) ?_; refine ⟨_, (tokens_any _ before zf hzl hb HZb.out), ?_⟩; rintro e w ⟨a5, c5, rfl, hS2⟩; rw [HTz.out, HTl.out] at hS2; rw [HTz.out, HTl.out]; replace hS := hS.call1 hS2; clear hS2; refine ⟨_, rfl, ?_⟩; refine put_move ?_; go_step)
              | ((with_reducible show wpList _ _ _ (⟨some 170, _, _, _, _, _⟩ :: _) _ _); refine wpl_call (f := 74) Tryd.call74 (by kernel_rfl) ?_; refine ⟨_, (slEqTok_any _ a5 ad83 NT c5 (m + 1) c83 (flt T) (flt al2) (hS.sl (a := a5) (by (repeat (first | with_reducible exact Pull.head | apply Pull.tail)))) (hS.sl (a := ad83) (by (repeat (first | with_reducible exact Pull.head | apply Pull.tail)))) (by omega) (by omega)), ?_⟩; rintro e w ⟨he, hE⟩; rw [HD.out] at he; subst he; replace hS := hS.ext hE; clear hE; refine ⟨_, rfl, ?_⟩; refine put_move ?_; go_step)
              | ((with_reducible show wpList _ _ _ (⟨some 173, _, _, _, _, _⟩ :: _) _ _); refine wpl (by kernel_rfl) ?_; refine wp_callV (f := 70) rfl rfl Tryd.call70 (none_any _ _) ?_; rintro e w ⟨rfl, hE⟩; replace hS := hS.ext hE; clear hE; refine ⟨_, rfl, ?_⟩; refine put_move ?_; go_step)
              | ((with_reducible show wpList _ _ _ (⟨_, .move _, _, _, _, _⟩ :: _) _ _); (first | go_big_want | go_step); go_step)
              | ((with_reducible show wpList _ _ _ (⟨_, .assign _, _, _, _, _⟩ :: _) _ _); (first | go_big_want | go_step); go_step)
              | ((with_reducible show wpList _ _ _ (⟨some 171, .unOp .not _ _, _, _, _, _⟩ :: _) _ _); (refine wplV _ (V.not rfl) (by kernel_rfl) ?_; go_step))
              | ((with_reducible show wpList _ _ _ (⟨some 174, .extract _ _, _, _, _, _⟩ :: _) _ _); (refine wplV _ (V.extract rfl rfl) (by kernel_rfl) ?_; go_step))
              | ((with_reducible show wpList _ _ _ (⟨some 175, .extract _ _, _, _, _, _⟩ :: _) _ _); (refine wplV _ (V.extract rfl rfl) (by kernel_rfl) ?_; go_step))
              | ((with_reducible show wpList _ _ _ (⟨some 176, .extract _ _, _, _, _, _⟩ :: _) _ _); (refine wplV _ (V.extract rfl rfl) (by kernel_rfl) ?_; go_step))
              | ((with_reducible show wpList _ _ _ (⟨_, .store 52 _ _, _, _, _, _⟩ :: _) _ _); (refine wpl (by kernel_rfl) ?_; apply wp_storeA hS 52 _ _ rfl _ rfl 64 (row_of rfl) _ _; (case hp => (repeat (first | with_reducible exact Pull.head | apply Pull.tail))); (case hy => rfl); (case hm => (repeat (first | assumption | exact Len.rep | apply Len.set | ((with_reducible show Len (_ :: _) _); exact rfl)))); (case hd => exact rfl); clear hS; intro w hS))
              | ((fail_if_success (with_reducible show wpList _ _ _ (_ :: _) _ _)); go_step))
            all_goals (try (have hF : False := (by omega); cases hF))
            refine ret_all (xs := [_, _, _]) rfl (.cons (OneRes.arr hS rfl (row_of (n := 64) rfl) (by (repeat (first | with_reducible exact Pull.head | apply Pull.tail)))) (.cons (OneRes.tmp rfl) (.cons (OneRes.tmp rfl) (.nil)))) (by simp) rfl ?_
            exact from_no 4 HRF2.out hS (by (repeat (first | exact Sub.nil | with_reducible exact Sub.refl | (apply Sub.cons; (case p => (repeat (first | with_reducible exact Pull.head | apply Pull.tail)))) | apply Sub.skip)))
        case neg =>
          rw [if_neg hend] at hlo
          by_cases hlong : u0 = 240
          case pos =>
            rw [if_pos hlong] at hlo
            by_cases hov : 64 < at_ + 16
            case pos =>
              rw [if_pos hov] at hlo
              have HF2 : Hid (frm Z.next before s0 = (4, nought0, [], s2)) := hid (by rw [HF.out, ← hlo]; exact if_pos (show (4 : Int) ≠ 0 by decide))
              clear hlo
              repeat' (first
                | ((with_reducible show wpList _ _ _ (⟨some 69, _, _, _, _, _⟩ :: _) _ _); refine wpl (by kernel_rfl) ?_; refine wp_callI rfl (.iface Z.tid Z.ptr) rfl [.bool false] rfl Z.f #[Z.ptr, .bool false] (Z.inv false) (Z.call _ _ _ s false _ _ _ _ _ hS (by (repeat (first | with_reducible exact Pull.head | apply Pull.tail))) HN2.out) ?_; clear hS; rintro e w ⟨rfl, hS⟩; refine ⟨_, rfl, ?_⟩; refine put_move ?_; go_step)
                | ((with_reducible show wpList _ _ _ (⟨_, .move _, _, _, _, _⟩ :: _) _ _); (first | go_big_want | go_step); go_step)
                | ((with_reducible show wpList _ _ _ (⟨_, .assign _, _, _, _, _⟩ :: _) _ _); (first | go_big_want | go_step); go_step)
                | ((with_reducible show wpList _ _ _ (⟨some 66, .binOp .lss _ _ _ _, _, _, _, _⟩ :: _) _ _); (refine wplV _ (V.lss rfl rfl) (by kernel_rfl) ?_; go_step))
                | ((with_reducible show wpList _ _ _ (⟨some 70, .extract _ _, _, _, _, _⟩ :: _) _ _); (refine wplV _ (V.extract rfl rfl) (by kernel_rfl) ?_; go_step))
                | ((with_reducible show wpList _ _ _ (⟨some 71, .extract _ _, _, _, _, _⟩ :: _) _ _); (refine wplV _ (V.extract rfl rfl) (by kernel_rfl) ?_; go_step))
                | ((with_reducible show wpList _ _ _ (⟨some 14, .alloc 69, _, _, _, _⟩ :: _) _ _); (refine wpl (by kernel_rfl) ?_; apply wp_alloc (o := ⟨some 14, _, _, _, _, _⟩) hS 69 rfl (.agg #[.int .i64 0, .int .i64 0, .int .i64 0]) [.int .i64 0, .int .i64 0, .int .i64 0] (fun w => Tryd.zeroValue69 w) rfl; clear hS; intro g14 w hS; refine put_move ?_; go_step))
                | ((with_reducible show wpList _ _ _ (⟨_, .store 69 _ _, _, _, _, _⟩ :: _) _ _); (refine wpl (by kernel_rfl) ?_; apply wp_storeG hS 69 _ _ rfl _ rfl 3 (row_of rfl) _ _; (case hp => (repeat (first | with_reducible exact Pull.head | apply Pull.tail))); (case hy => rfl); (case hn => rfl); (case hn' => rfl); (case hv => rfl); (case hd => exact rfl); clear hS; intro w hS))
                | ((fail_if_success (with_reducible show wpList _ _ _ (_ :: _) _ _)); go_step))
              all_goals (try (have hF : False := (by omega); cases hF))
              repeat' (first
                | ((with_reducible show wpList _ _ _ (⟨some 89, _, _, _, _, _⟩ :: _) _ _); refine wpl_call (f := 71) Tryd.call71 (by kernel_rfl) ?_; refine ⟨_, (back_yes u1 u2 _ hB2), ?_⟩; rintro e w' ⟨rfl, rfl⟩; rw [HNb.out]; refine ⟨_, rfl, ?_⟩; refine put_move ?_; go_step)
                | ((with_reducible show wpList _ _ _ (⟨_, .move _, _, _, _, _⟩ :: _) _ _); (first | go_big_want | go_step); go_step)
                | ((with_reducible show wpList _ _ _ (⟨_, .assign _, _, _, _, _⟩ :: _) _ _); (first | go_big_want | go_step); go_step)
                | ((with_reducible show wpList _ _ _ (⟨some 73, .binOp .neq 25 _ _ _, _, _, _, _⟩ :: _) _ _); (refine wplV _ (V.neq rfl rfl) (by kernel_rfl) ?_; go_step))
                | ((with_reducible show wpList _ _ _ (⟨some 85, .fieldAddr 69 _ 1, _, _, _, _⟩ :: _) _ _); (refine wplV _ (V.fieldAddr fo69_1 rfl (by first | with_reducible exact Nat.zero_add _ | with_reducible exact Nat.add_zero _ | exact rfl)) (by kernel_rfl) ?_; go_step))
                | ((with_reducible show wpList _ _ _ (⟨some 87, .fieldAddr 69 _ 2, _, _, _, _⟩ :: _) _ _); (refine wplV _ (V.fieldAddr fo69_2 rfl (by first | with_reducible exact Nat.zero_add _ | with_reducible exact Nat.add_zero _ | exact rfl)) (by kernel_rfl) ?_; go_step))
                | ((with_reducible show wpList _ _ _ (⟨some 90, .extract _ _, _, _, _, _⟩ :: _) _ _); (refine wplV _ (V.extract rfl rfl) (by kernel_rfl) ?_; go_step))
                | ((with_reducible show wpList _ _ _ (⟨some 91, .extract _ _, _, _, _, _⟩ :: _) _ _); (refine wplV _ (V.extract rfl rfl) (by kernel_rfl) ?_; go_step))
                | ((with_reducible show wpList _ _ _ (⟨_, .load 69 _, _, _, _, _⟩ :: _) _ _); (refine wpl (by kernel_rfl) ?_; apply wp_loadG hS 69 _ rfl _ rfl 3 (row_of rfl) _; (case hp => (repeat (first | with_reducible exact Pull.head | apply Pull.tail))); (case hn => rfl); refine put_move ?_; go_step))
                | ((with_reducible show wpList _ _ _ (⟨some 82, .buildSlice 100 _ _, _, _, _, _⟩ :: _) _ _); (refine wpl (by kernel_rfl) ?_; apply wp_buildSlice1 (o := ⟨some 82, _, _, _, _, _⟩) hS 100 1 _ rfl 69 3 24 el100 _ _; (case hvs => (repeat (first | exact Parts.nil | (apply Parts.agg; (rfl); (rfl)) | (apply Parts.one; (first | exact IsV.int rfl | exact IsV.bool rfl | exact IsV.slice rfl | exact IsV.pointer rfl | exact IsV.string rfl | exact IsV.map rfl | exact IsV.func rfl); (rfl); (rfl))))); (case hn => rfl); (case hn0 => decide); (case hns => decide); clear hS; intro g82 w hS; simp only [List.cons_append, List.nil_append] at hS; refine put_move ?_; go_step))
                | ((with_reducible show wpList _ _ _ (⟨some 83, .call ⟨.builtin .append, _, _⟩, _, _, _, _⟩ :: _) _ _); (refine wpl (by kernel_rfl) ?_; apply wp_append (o := ⟨some 83, _, _, _, _, _⟩) hS _ _ 100 rfl 69 3 24 el100 _ _ _ _ rfl; (case hp => (repeat (first | with_reducible exact Pull.head | apply Pull.tail))); (case hx => exact rfl); (case hm => (first | exact hS.slBlk (by (repeat (first | with_reducible exact Pull.head | apply Pull.tail))) (by rfl) (by decide) | exact hS.sl (by (repeat (first | with_reducible exact Pull.head | apply Pull.tail))) | with_reducible assumption | exact Sl.ext (by with_reducible assumption) hS.1 | exact Sl.nil _ _ | exact Sl.ext (by assumption) hS.1 | assumption)); (case h1 => (first | exact oneAll rfl | exact oneMap _ _ | (intro u hu; cases hu))); (case h63 => unfold maxLen; omega); (case hb => omega); clear hS; intro ad83 c83 w hS; (first | simp only [mapk1] at hS | simp only [mapk2] at hS | simp only [mapk3] at hS | simp only [mapk4] at hS | simp only [mapkl] at hS | skip); refine put_move ?_; go_step))
                | ((with_reducible show wpList _ _ _ (⟨_, .load 3 _, _, _, _, _⟩ :: _) _ _); (refine wpl (by kernel_rfl) ?_; apply wp_load1 hS 3 _ rfl _ _ rfl (one_of rfl) _; (case hp => (repeat (first | with_reducible exact Pull.head | apply Pull.tail))); (case hc => rfl); refine put_move ?_; go_step))
                | ((fail_if_success (with_reducible show wpList _ _ _ (_ :: _) _ _)); go_step))
              all_goals (try (have hF : False := (by omega); cases hF))
              repeat' (first
                | ((with_reducible show wpList _ _ _ (⟨some 99, .binOp .and _ _ _ _, _, _, _, _⟩ :: _) _ _); (refine wplV (.int _ ((u0 % 16))) (V.as (V.and rfl rfl) (by exact HAnd.out)) rfl ?_; go_step))
                | ((with_reducible show wpList _ _ _ (⟨_, .move _, _, _, _, _⟩ :: _) _ _); (first | go_big_want | go_step); go_step)
                | ((with_reducible show wpList _ _ _ (⟨_, .pick _ _ _, _, _, _, _⟩ :: _) _ _); first | (refine wplPickT rfl (by kernel_rfl) ?_; go_step) | (refine wplPickF rfl (by kernel_rfl) ?_; go_step))
                | ((with_reducible show wpList _ _ _ (⟨some 93, .binOp .neq 25 _ _ _, _, _, _, _⟩ :: _) _ _); (refine wplD _ (V.neq rfl rfl) (by kernel_rfl) (fun hB => ?_) (fun hB => ?_) <;> (try (have hF : False := (by omega); cases hF)) <;> go_step))
                | ((with_reducible show wpList _ _ _ (⟨some 100, .binOp .neq 3 _ _ _, _, _, _, _⟩ :: _) _ _); (refine wplD _ (V.neq rfl rfl) (by kernel_rfl) (fun hB => ?_) (fun hB => ?_) <;> (try (have hF : False := (by omega); cases hF)) <;> go_step))
                | ((with_reducible show wpList _ _ _ (⟨some 105, .binOp .gtr _ _ _ _, _, _, _, _⟩ :: _) _ _); (refine wplD _ (V.gtr rfl rfl) (by kernel_rfl) (fun hB => ?_) (fun hB => ?_) <;> (try (have hF : False := (by omega); cases hF)) <;> go_step))
                | ((with_reducible show wpList _ _ _ (⟨some 110, .binOp .lss _ _ _ _, _, _, _, _⟩ :: _) _ _); (refine wplD _ (V.lss rfl rfl) (by kernel_rfl) (fun hB => ?_) (fun hB => ?_) <;> (try (have hF : False := (by omega); cases hF)) <;> go_step))
                | ((with_reducible show wpList _ _ _ (⟨some 115, .binOp .gtr _ _ _ _, _, _, _, _⟩ :: _) _ _); (refine wplD _ (V.gtr rfl rfl) (by kernel_rfl) (fun hB => ?_) (fun hB => ?_) <;> (try (have hF : False := (by omega); cases hF)) <;> go_step))
                | ((with_reducible show wpList _ _ _ (⟨some 120, .binOp .eql 3 _ _ _, _, _, _, _⟩ :: _) _ _); (refine wplD _ (V.eql rfl rfl) (by kernel_rfl) (fun hB => ?_) (fun hB => ?_) <;> (try (have hF : False := (by omega); cases hF)) <;> go_step))
                | ((with_reducible show wpList _ _ _ (⟨some 124, .binOp .neq 3 _ _ _, _, _, _, _⟩ :: _) _ _); (refine wplD _ (V.neq rfl rfl) (by kernel_rfl) (fun hB => ?_) (fun hB => ?_) <;> (try (have hF : False := (by omega); cases hF)) <;> go_step))
                | ((with_reducible show wpList _ _ _ (⟨some 95, .fieldAddr 69 _ 1, _, _, _, _⟩ :: _) _ _); (refine wplV _ (V.fieldAddr fo69_1 rfl (by first | with_reducible exact Nat.zero_add _ | with_reducible exact Nat.add_zero _ | exact rfl)) (by kernel_rfl) ?_; go_step))
                | ((with_reducible show wpList _ _ _ (⟨some 97, .fieldAddr 69 _ 0, _, _, _, _⟩ :: _) _ _); (refine wplV _ (V.fieldAddr fo69_0 rfl (by first | with_reducible exact Nat.zero_add _ | with_reducible exact Nat.add_zero _ | exact rfl)) (by kernel_rfl) ?_; go_step))
                | ((with_reducible show wpList _ _ _ (⟨some 103, .fieldAddr 69 _ 1, _, _, _, _⟩ :: _) _ _); (refine wplV _ (V.fieldAddr fo69_1 rfl (by first | with_reducible exact Nat.zero_add _ | with_reducible exact Nat.add_zero _ | exact rfl)) (by kernel_rfl) ?_; go_step))
                | ((with_reducible show wpList _ _ _ (⟨some 108, .fieldAddr 69 _ 0, _, _, _, _⟩ :: _) _ _); (refine wplV _ (V.fieldAddr fo69_0 rfl (by first | with_reducible exact Nat.zero_add _ | with_reducible exact Nat.add_zero _ | exact rfl)) (by kernel_rfl) ?_; go_step))
                | ((with_reducible show wpList _ _ _ (⟨some 113, .fieldAddr 69 _ 0, _, _, _, _⟩ :: _) _ _); (refine wplV _ (V.fieldAddr fo69_0 rfl (by first | with_reducible exact Nat.zero_add _ | with_reducible exact Nat.add_zero _ | exact rfl)) (by kernel_rfl) ?_; go_step))
                | ((with_reducible show wpList _ _ _ (⟨some 118, .fieldAddr 69 _ 1, _, _, _, _⟩ :: _) _ _); (refine wplV _ (V.fieldAddr fo69_1 rfl (by first | with_reducible exact Nat.zero_add _ | with_reducible exact Nat.add_zero _ | exact rfl)) (by kernel_rfl) ?_; go_step))
                | ((with_reducible show wpList _ _ _ (⟨some 122, .fieldAddr 69 _ 0, _, _, _, _⟩ :: _) _ _); (refine wplV _ (V.fieldAddr fo69_0 rfl (by first | with_reducible exact Nat.zero_add _ | with_reducible exact Nat.add_zero _ | exact rfl)) (by kernel_rfl) ?_; go_step))
                | ((with_reducible show wpList _ _ _ (⟨some 127, .fieldAddr 69 _ 0, _, _, _, _⟩ :: _) _ _); (refine wplV _ (V.fieldAddr fo69_0 rfl (by first | with_reducible exact Nat.zero_add _ | with_reducible exact Nat.add_zero _ | exact rfl)) (by kernel_rfl) ?_; go_step))
                | ((with_reducible show wpList _ _ _ (⟨some 129, .binOp .neq 3 _ _ _, _, _, _, _⟩ :: _) _ _); (refine wplV _ (V.neq rfl rfl) (by kernel_rfl) ?_; go_step))
                | ((with_reducible show wpList _ _ _ (⟨_, .load 3 _, _, _, _, _⟩ :: _) _ _); (refine wpl (by kernel_rfl) ?_; apply wp_load1 hS 3 _ rfl _ _ rfl (one_of rfl) _; (case hp => (repeat (first | with_reducible exact Pull.head | apply Pull.tail))); (case hc => rfl); refine put_move ?_; go_step))
                | ((fail_if_success (with_reducible show wpList _ _ _ (_ :: _) _ _)); go_step))
              all_goals (try (have hF : False := (by omega); cases hF))
              repeat' (first
                | ((with_reducible show wpList _ _ _ (⟨some 160, _, _, _, _, _⟩ :: _) _ _); refine wpl (by kernel_rfl) ?_; refine wp_callV (f := 70) rfl rfl Tryd.call70 (none_any _ _) ?_; rintro e w ⟨rfl, hE⟩; replace hS := hS.ext hE; clear hE; refine ⟨_, rfl, ?_⟩; refine put_move ?_; go_step)
                | ((with_reducible show wpList _ _ _ (⟨_, .move _, _, _, _, _⟩ :: _) _ _); (first | go_big_want | go_step); go_step)
                | ((with_reducible show wpList _ _ _ (⟨_, .assign _, _, _, _, _⟩ :: _) _ _); (first | go_big_want | go_step); go_step)
                | ((with_reducible show wpList _ _ _ (⟨some 137, .fieldAddr 69 _ 0, _, _, _, _⟩ :: _) _ _); (refine wplV _ (V.fieldAddr fo69_0 rfl (by first | with_reducible exact Nat.zero_add _ | with_reducible exact Nat.add_zero _ | exact rfl)) (by kernel_rfl) ?_; go_step))
                | ((with_reducible show wpList _ _ _ (⟨some 139, .binOp .eql 3 _ _ _, _, _, _, _⟩ :: _) _ _); (refine wplV _ (V.eql rfl rfl) (by kernel_rfl) ?_; go_step))
                | ((with_reducible show wpList _ _ _ (⟨some 140, .fieldAddr 69 _ 0, _, _, _, _⟩ :: _) _ _); (refine wplV _ (V.fieldAddr fo69_0 rfl (by first | with_reducible exact Nat.zero_add _ | with_reducible exact Nat.add_zero _ | exact rfl)) (by kernel_rfl) ?_; go_step))
                | ((with_reducible show wpList _ _ _ (⟨some 142, .binOp .eql 3 _ _ _, _, _, _, _⟩ :: _) _ _); (refine wplV _ (V.eql rfl rfl) (by kernel_rfl) ?_; go_step))
                | ((with_reducible show wpList _ _ _ (⟨some 144, .binOp .add _ _ _ _, _, _, _, _⟩ :: _) _ _); (refine wplV _ (V.addI rfl rfl (by omega)) (by kernel_rfl) ?_; go_step))
                | ((with_reducible show wpList _ _ _ (⟨some 158, .binOp .gtr _ _ _ _, _, _, _, _⟩ :: _) _ _); (refine wplV _ (V.gtr rfl rfl) (by kernel_rfl) ?_; go_step))
                | ((with_reducible show wpList _ _ _ (⟨some 161, .extract _ _, _, _, _, _⟩ :: _) _ _); (refine wplV _ (V.extract rfl rfl) (by kernel_rfl) ?_; go_step))
                | ((with_reducible show wpList _ _ _ (⟨some 162, .extract _ _, _, _, _, _⟩ :: _) _ _); (refine wplV _ (V.extract rfl rfl) (by kernel_rfl) ?_; go_step))
                | ((with_reducible show wpList _ _ _ (⟨some 163, .extract _ _, _, _, _, _⟩ :: _) _ _); (refine wplV _ (V.extract rfl rfl) (by kernel_rfl) ?_; go_step))
                | ((with_reducible show wpList _ _ _ (⟨_, .load 3 _, _, _, _, _⟩ :: _) _ _); (refine wpl (by kernel_rfl) ?_; apply wp_load1 hS 3 _ rfl _ _ rfl (one_of rfl) _; (case hp => (repeat (first | with_reducible exact Pull.head | apply Pull.tail))); (case hc => rfl); refine put_move ?_; go_step))
                | ((with_reducible show wpList _ _ _ (⟨_, .store 52 _ _, _, _, _, _⟩ :: _) _ _); (refine wpl (by kernel_rfl) ?_; apply wp_storeA hS 52 _ _ rfl _ rfl 64 (row_of rfl) _ _; (case hp => (repeat (first | with_reducible exact Pull.head | apply Pull.tail))); (case hy => rfl); (case hm => (repeat (first | assumption | exact Len.rep | apply Len.set | ((with_reducible show Len (_ :: _) _); exact rfl)))); (case hd => exact rfl); clear hS; intro w hS))
                | ((fail_if_success (with_reducible show wpList _ _ _ (_ :: _) _ _)); go_step))
              all_goals (try (have hF : False := (by omega); cases hF))
              all_goals
                refine ret_all (xs := [_, _, _]) rfl (.cons (OneRes.arr hS rfl (row_of (n := 64) rfl) (by (repeat (first | with_reducible exact Pull.head | apply Pull.tail)))) (.cons (OneRes.tmp rfl) (.cons (OneRes.tmp rfl) (.nil)))) (by simp) rfl ?_
                exact from_no 4 HF2.out hS (by (repeat (first | exact Sub.nil | with_reducible exact Sub.refl | (apply Sub.cons; (case p => (repeat (first | with_reducible exact Pull.head | apply Pull.tail)))) | apply Sub.skip)))
            case neg =>
              rw [if_neg hov] at hlo
              have HLo2 := hid hlo
              clear hlo
              repeat' (first
                | ((with_reducible show wpList _ _ _ (⟨some 69, _, _, _, _, _⟩ :: _) _ _); refine wpl (by kernel_rfl) ?_; refine wp_callI rfl (.iface Z.tid Z.ptr) rfl [.bool false] rfl Z.f #[Z.ptr, .bool false] (Z.inv false) (Z.call _ _ _ s false _ _ _ _ _ hS (by (repeat (first | with_reducible exact Pull.head | apply Pull.tail))) HN2.out) ?_; clear hS; rintro e w ⟨rfl, hS⟩; refine ⟨_, rfl, ?_⟩; refine put_move ?_; go_step)
                | ((with_reducible show wpList _ _ _ (⟨_, .move _, _, _, _, _⟩ :: _) _ _); (first | go_big_want | go_step); go_step)
                | ((with_reducible show wpList _ _ _ (⟨_, .assign _, _, _, _, _⟩ :: _) _ _); (first | go_big_want | go_step); go_step)
                | ((with_reducible show wpList _ _ _ (⟨some 66, .binOp .lss _ _ _ _, _, _, _, _⟩ :: _) _ _); (refine wplV _ (V.lss rfl rfl) (by kernel_rfl) ?_; go_step))
                | ((with_reducible show wpList _ _ _ (⟨some 70, .extract _ _, _, _, _, _⟩ :: _) _ _); (refine wplV _ (V.extract rfl rfl) (by kernel_rfl) ?_; go_step))
                | ((with_reducible show wpList _ _ _ (⟨some 71, .extract _ _, _, _, _, _⟩ :: _) _ _); (refine wplV _ (V.extract rfl rfl) (by kernel_rfl) ?_; go_step))
                | ((with_reducible show wpList _ _ _ (⟨some 14, .alloc 69, _, _, _, _⟩ :: _) _ _); (refine wpl (by kernel_rfl) ?_; apply wp_alloc (o := ⟨some 14, _, _, _, _, _⟩) hS 69 rfl (.agg #[.int .i64 0, .int .i64 0, .int .i64 0]) [.int .i64 0, .int .i64 0, .int .i64 0] (fun w => Tryd.zeroValue69 w) rfl; clear hS; intro g14 w hS; refine put_move ?_; go_step))
                | ((with_reducible show wpList _ _ _ (⟨_, .store 69 _ _, _, _, _, _⟩ :: _) _ _); (refine wpl (by kernel_rfl) ?_; apply wp_storeG hS 69 _ _ rfl _ rfl 3 (row_of rfl) _ _; (case hp => (repeat (first | with_reducible exact Pull.head | apply Pull.tail))); (case hy => rfl); (case hn => rfl); (case hn' => rfl); (case hv => rfl); (case hd => exact rfl); clear hS; intro w hS))
                | ((fail_if_success (with_reducible show wpList _ _ _ (_ :: _) _ _)); go_step))
              all_goals (try (have hF : False := (by omega); cases hF))
              repeat' (first
                | ((with_reducible show wpList _ _ _ (⟨some 89, _, _, _, _, _⟩ :: _) _ _); refine wpl_call (f := 71) Tryd.call71 (by kernel_rfl) ?_; refine ⟨_, (back_yes u1 u2 _ hB2), ?_⟩; rintro e w' ⟨rfl, rfl⟩; rw [HNb.out]; refine ⟨_, rfl, ?_⟩; refine put_move ?_; go_step)
                | ((with_reducible show wpList _ _ _ (⟨_, .move _, _, _, _, _⟩ :: _) _ _); (first | go_big_want | go_step); go_step)
                | ((with_reducible show wpList _ _ _ (⟨_, .assign _, _, _, _, _⟩ :: _) _ _); (first | go_big_want | go_step); go_step)
                | ((with_reducible show wpList _ _ _ (⟨some 73, .binOp .neq 25 _ _ _, _, _, _, _⟩ :: _) _ _); (refine wplV _ (V.neq rfl rfl) (by kernel_rfl) ?_; go_step))
                | ((with_reducible show wpList _ _ _ (⟨some 85, .fieldAddr 69 _ 1, _, _, _, _⟩ :: _) _ _); (refine wplV _ (V.fieldAddr fo69_1 rfl (by first | with_reducible exact Nat.zero_add _ | with_reducible exact Nat.add_zero _ | exact rfl)) (by kernel_rfl) ?_; go_step))
                | ((with_reducible show wpList _ _ _ (⟨some 87, .fieldAddr 69 _ 2, _, _, _, _⟩ :: _) _ _); (refine wplV _ (V.fieldAddr fo69_2 rfl (by first | with_reducible exact Nat.zero_add _ | with_reducible exact Nat.add_zero _ | exact rfl)) (by kernel_rfl) ?_; go_step))
                | ((with_reducible show wpList _ _ _ (⟨some 90, .extract _ _, _, _, _, _⟩ :: _) _ _); (refine wplV _ (V.extract rfl rfl) (by kernel_rfl) ?_; go_step))
                | ((with_reducible show wpList _ _ _ (⟨some 91, .extract _ _, _, _, _, _⟩ :: _) _ _); (refine wplV _ (V.extract rfl rfl) (by kernel_rfl) ?_; go_step))
                | ((with_reducible show wpList _ _ _ (⟨_, .load 69 _, _, _, _, _⟩ :: _) _ _); (refine wpl (by kernel_rfl) ?_; apply wp_loadG hS 69 _ rfl _ rfl 3 (row_of rfl) _; (case hp => (repeat (first | with_reducible exact Pull.head | apply Pull.tail))); (case hn => rfl); refine put_move ?_; go_step))
                | ((with_reducible show wpList _ _ _ (⟨some 82, .buildSlice 100 _ _, _, _, _, _⟩ :: _) _ _); (refine wpl (by kernel_rfl) ?_; apply wp_buildSlice1 (o := ⟨some 82, _, _, _, _, _⟩) hS 100 1 _ rfl 69 3 24 el100 _ _; (case hvs => (repeat (first | exact Parts.nil | (apply Parts.agg; (rfl); (rfl)) | (apply Parts.one; (first | exact IsV.int rfl | exact IsV.bool rfl | exact IsV.slice rfl | exact IsV.pointer rfl | exact IsV.string rfl | exact IsV.map rfl | exact IsV.func rfl); (rfl); (rfl))))); (case hn => rfl); (case hn0 => decide); (case hns => decide); clear hS; intro g82 w hS; simp only [List.cons_append, List.nil_append] at hS; refine put_move ?_; go_step))
                | ((with_reducible show wpList _ _ _ (⟨some 83, .call ⟨.builtin .append, _, _⟩, _, _, _, _⟩ :: _) _ _); (refine wpl (by kernel_rfl) ?_; apply wp_append (o := ⟨some 83, _, _, _, _, _⟩) hS _ _ 100 rfl 69 3 24 el100 _ _ _ _ rfl; (case hp => (repeat (first | with_reducible exact Pull.head | apply Pull.tail))); (case hx => exact rfl); (case hm => (first | exact hS.slBlk (by (repeat (first | with_reducible exact Pull.head | apply Pull.tail))) (by rfl) (by decide) | exact hS.sl (by (repeat (first | with_reducible exact Pull.head | apply Pull.tail))) | with_reducible assumption | exact Sl.ext (by with_reducible assumption) hS.1 | exact Sl.nil _ _ | exact Sl.ext (by assumption) hS.1 | assumption)); (case h1 => (first | exact oneAll rfl | exact oneMap _ _ | (intro u hu; cases hu))); (case h63 => unfold maxLen; omega); (case hb => omega); clear hS; intro ad83 c83 w hS; (first | simp only [mapk1] at hS | simp only [mapk2] at hS | simp only [mapk3] at hS | simp only [mapk4] at hS | simp only [mapkl] at hS | skip); refine put_move ?_; go_step))
                | ((with_reducible show wpList _ _ _ (⟨_, .load 3 _, _, _, _, _⟩ :: _) _ _); (refine wpl (by kernel_rfl) ?_; apply wp_load1 hS 3 _ rfl _ _ rfl (one_of rfl) _; (case hp => (repeat (first | with_reducible exact Pull.head | apply Pull.tail))); (case hc => rfl); refine put_move ?_; go_step))
                | ((fail_if_success (with_reducible show wpList _ _ _ (_ :: _) _ _)); go_step))
              all_goals (try (have hF : False := (by omega); cases hF))
              repeat' (first
                | ((with_reducible show wpList _ _ _ (⟨some 99, .binOp .and _ _ _ _, _, _, _, _⟩ :: _) _ _); (refine wplV (.int _ ((u0 % 16))) (V.as (V.and rfl rfl) (by exact HAnd.out)) rfl ?_; go_step))
                | ((with_reducible show wpList _ _ _ (⟨_, .move _, _, _, _, _⟩ :: _) _ _); (first | go_big_want | go_step); go_step)
                | ((with_reducible show wpList _ _ _ (⟨_, .pick _ _ _, _, _, _, _⟩ :: _) _ _); first | (refine wplPickT rfl (by kernel_rfl) ?_; go_step) | (refine wplPickF rfl (by kernel_rfl) ?_; go_step))
                | ((with_reducible show wpList _ _ _ (⟨some 93, .binOp .neq 25 _ _ _, _, _, _, _⟩ :: _) _ _); (refine wplD _ (V.neq rfl rfl) (by kernel_rfl) (fun hB => ?_) (fun hB => ?_) <;> (try (have hF : False := (by omega); cases hF)) <;> go_step))
                | ((with_reducible show wpList _ _ _ (⟨some 100, .binOp .neq 3 _ _ _, _, _, _, _⟩ :: _) _ _); (refine wplD _ (V.neq rfl rfl) (by kernel_rfl) (fun hB => ?_) (fun hB => ?_) <;> (try (have hF : False := (by omega); cases hF)) <;> go_step))
                | ((with_reducible show wpList _ _ _ (⟨some 105, .binOp .gtr _ _ _ _, _, _, _, _⟩ :: _) _ _); (refine wplD _ (V.gtr rfl rfl) (by kernel_rfl) (fun hB => ?_) (fun hB => ?_) <;> (try (have hF : False := (by omega); cases hF)) <;> go_step))
                | ((with_reducible show wpList _ _ _ (⟨some 110, .binOp .lss _ _ _ _, _, _, _, _⟩ :: _) _ _); (refine wplD _ (V.lss rfl rfl) (by kernel_rfl) (fun hB => ?_) (fun hB => ?_) <;> (try (have hF : False := (by omega); cases hF)) <;> go_step))
                | ((with_reducible show wpList _ _ _ (⟨some 115, .binOp .gtr _ _ _ _, _, _, _, _⟩ :: _) _ _); (refine wplD _ (V.gtr rfl rfl) (by kernel_rfl) (fun hB => ?_) (fun hB => ?_) <;> (try (have hF : False := (by omega); cases hF)) <;> go_step))
                | ((with_reducible show wpList _ _ _ (⟨some 120, .binOp .eql 3 _ _ _, _, _, _, _⟩ :: _) _ _); (refine wplD _ (V.eql rfl rfl) (by kernel_rfl) (fun hB => ?_) (fun hB => ?_) <;> (try (have hF : False := (by omega); cases hF)) <;> go_step))
                | ((with_reducible show wpList _ _ _ (⟨some 124, .binOp .neq 3 _ _ _, _, _, _, _⟩ :: _) _ _); (refine wplD _ (V.neq rfl rfl) (by kernel_rfl) (fun hB => ?_) (fun hB => ?_) <;> (try (have hF : False := (by omega); cases hF)) <;> go_step))
                | ((with_reducible show wpList _ _ _ (⟨some 95, .fieldAddr 69 _ 1, _, _, _, _⟩ :: _) _ _); (refine wplV _ (V.fieldAddr fo69_1 rfl (by first | with_reducible exact Nat.zero_add _ | with_reducible exact Nat.add_zero _ | exact rfl)) (by kernel_rfl) ?_; go_step))
                | ((with_reducible show wpList _ _ _ (⟨some 97, .fieldAddr 69 _ 0, _, _, _, _⟩ :: _) _ _); (refine wplV _ (V.fieldAddr fo69_0 rfl (by first | with_reducible exact Nat.zero_add _ | with_reducible exact Nat.add_zero _ | exact rfl)) (by kernel_rfl) ?_; go_step))
                | ((with_reducible show wpList _ _ _ (⟨some 103, .fieldAddr 69 _ 1, _, _, _, _⟩ :: _) _ _); (refine wplV _ (V.fieldAddr fo69_1 rfl (by first | with_reducible exact Nat.zero_add _ | with_reducible exact Nat.add_zero _ | exact rfl)) (by kernel_rfl) ?_; go_step))
                | ((with_reducible show wpList _ _ _ (⟨some 108, .fieldAddr 69 _ 0, _, _, _, _⟩ :: _) _ _); (refine wplV _ (V.fieldAddr fo69_0 rfl (by first | with_reducible exact Nat.zero_add _ | with_reducible exact Nat.add_zero _ | exact rfl)) (by kernel_rfl) ?_; go_step))
                | ((with_reducible show wpList _ _ _ (⟨some 113, .fieldAddr 69 _ 0, _, _, _, _⟩ :: _) _ _); (refine wplV _ (V.fieldAddr fo69_0 rfl (by first | with_reducible exact Nat.zero_add _ | with_reducible exact Nat.add_zero _ | exact rfl)) (by kernel_rfl) ?_; go_step))
                | ((with_reducible show wpList _ _ _ (⟨some 118, .fieldAddr 69 _ 1, _, _, _, _⟩ :: _) _ _); (refine wplV _ (V.fieldAddr fo69_1 rfl (by first | with_reducible exact Nat.zero_add _ | with_reducible exact Nat.add_zero _ | exact rfl)) (by kernel_rfl) ?_; go_step))
                | ((with_reducible show wpList _ _ _ (⟨some 122, .fieldAddr 69 _ 0, _, _, _, _⟩ :: _) _ _); (refine wplV _ (V.fieldAddr fo69_0 rfl (by first | with_reducible exact Nat.zero_add _ | with_reducible exact Nat.add_zero _ | exact rfl)) (by kernel_rfl) ?_; go_step))
                | ((with_reducible show wpList _ _ _ (⟨some 127, .fieldAddr 69 _ 0, _, _, _, _⟩ :: _) _ _); (refine wplV _ (V.fieldAddr fo69_0 rfl (by first | with_reducible exact Nat.zero_add _ | with_reducible exact Nat.add_zero _ | exact rfl)) (by kernel_rfl) ?_; go_step))
                | ((with_reducible show wpList _ _ _ (⟨some 129, .binOp .neq 3 _ _ _, _, _, _, _⟩ :: _) _ _); (refine wplV _ (V.neq rfl rfl) (by kernel_rfl) ?_; go_step))
                | ((with_reducible show wpList _ _ _ (⟨_, .load 3 _, _, _, _, _⟩ :: _) _ _); (refine wpl (by kernel_rfl) ?_; apply wp_load1 hS 3 _ rfl _ _ rfl (one_of rfl) _; (case hp => (repeat (first | with_reducible exact Pull.head | apply Pull.tail))); (case hc => rfl); refine put_move ?_; go_step))
                | ((fail_if_success (with_reducible show wpList _ _ _ (_ :: _) _ _)); go_step))
              all_goals (try (have hF : False := (by omega); cases hF))
              repeat' (first
                | ((with_reducible show wpList _ _ _ (⟨_, .move _, _, _, _, _⟩ :: _) _ _); (first | go_big_want | go_step); go_step)
                | ((with_reducible show wpList _ _ _ (⟨_, .assign _, _, _, _, _⟩ :: _) _ _); (first | go_big_want | go_step); go_step)
                | ((with_reducible show wpList _ _ _ (⟨some 137, .fieldAddr 69 _ 0, _, _, _, _⟩ :: _) _ _); (refine wplV _ (V.fieldAddr fo69_0 rfl (by first | with_reducible exact Nat.zero_add _ | with_reducible exact Nat.add_zero _ | exact rfl)) (by kernel_rfl) ?_; go_step))
                | ((with_reducible show wpList _ _ _ (⟨some 139, .binOp .eql 3 _ _ _, _, _, _, _⟩ :: _) _ _); (refine wplV _ (V.eql rfl rfl) (by kernel_rfl) ?_; go_step))
                | ((with_reducible show wpList _ _ _ (⟨some 140, .fieldAddr 69 _ 0, _, _, _, _⟩ :: _) _ _); (refine wplV _ (V.fieldAddr fo69_0 rfl (by first | with_reducible exact Nat.zero_add _ | with_reducible exact Nat.add_zero _ | exact rfl)) (by kernel_rfl) ?_; go_step))
                | ((with_reducible show wpList _ _ _ (⟨some 142, .binOp .eql 3 _ _ _, _, _, _, _⟩ :: _) _ _); (refine wplV _ (V.eql rfl rfl) (by kernel_rfl) ?_; go_step))
                | ((with_reducible show wpList _ _ _ (⟨some 144, .binOp .add _ _ _ _, _, _, _, _⟩ :: _) _ _); (refine wplV _ (V.addI rfl rfl (by omega)) (by kernel_rfl) ?_; go_step))
                | ((with_reducible show wpList _ _ _ (⟨some 158, .binOp .gtr _ _ _ _, _, _, _, _⟩ :: _) _ _); (refine wplV _ (V.gtr rfl rfl) (by kernel_rfl) ?_; go_step))
                | ((with_reducible show wpList _ _ _ (⟨_, .load 3 _, _, _, _, _⟩ :: _) _ _); (refine wpl (by kernel_rfl) ?_; apply wp_load1 hS 3 _ rfl _ _ rfl (one_of rfl) _; (case hp => (repeat (first | with_reducible exact Pull.head | apply Pull.tail))); (case hc => rfl); refine put_move ?_; go_step))
                | ((fail_if_success (with_reducible show wpList _ _ _ (_ :: _) _ _)); go_step))
              all_goals (try (have hF : False := (by omega); cases hF))
              go_roundg gk'
              case measure => omega
              case rel => exact ⟨at_ + 16, m + 1, bl, all ++ [(u0, u1, u2)], ad83, c83, s2, by omega, by omega, by omega, by omega, by go_num, rfl, hid (by rw [List.length_append, HAl.out]; rfl), hbl, HBl, HLo2, (by rw [HFl.out]; exact hS.sub (by (repeat (first | exact Sub.nil | with_reducible exact Sub.refl | (apply Sub.cons; (case p => (repeat (first | with_reducible exact Pull.head | apply Pull.tail)))) | apply Sub.skip))))⟩
          case neg =>
            rw [if_neg hlong] at hlo
            obtain ⟨r, hr⟩ : ∃ r : Nat, u0 / 16 = (r : Int) := ⟨(u0 / 16).toNat, by omega⟩
            have hr2 : u0.toNat / 16 = r := by omega
            have hr15 : r ≤ 15 := by omega
            rw [hr2] at hlo
            have HR4 : Hid (u0 / 2 ^ 4 = (r : Int)) := hid (by rw [show (2 : Int) ^ 4 = 16 from rfl]; exact hr)
            clear hr hr2
            by_cases hov : 64 ≤ at_ + r
            case pos =>
              rw [if_pos hov] at hlo
              have HF2 : Hid (frm Z.next before s0 = (4, nought0, [], s2)) := hid (by rw [HF.out, ← hlo]; exact if_pos (show (4 : Int) ≠ 0 by decide))
              clear hlo
              repeat' (first
                | ((with_reducible show wpList _ _ _ (⟨some 69, _, _, _, _, _⟩ :: _) _ _); refine wpl (by kernel_rfl) ?_; refine wp_callI rfl (.iface Z.tid Z.ptr) rfl [.bool false] rfl Z.f #[Z.ptr, .bool false] (Z.inv false) (Z.call _ _ _ s false _ _ _ _ _ hS (by (repeat (first | with_reducible exact Pull.head | apply Pull.tail))) HN2.out) ?_; clear hS; rintro e w ⟨rfl, hS⟩; refine ⟨_, rfl, ?_⟩; refine put_move ?_; go_step)
                | ((with_reducible show wpList _ _ _ (⟨_, .move _, _, _, _, _⟩ :: _) _ _); (first | go_big_want | go_step); go_step)
                | ((with_reducible show wpList _ _ _ (⟨_, .assign _, _, _, _, _⟩ :: _) _ _); (first | go_big_want | go_step); go_step)
                | ((with_reducible show wpList _ _ _ (⟨some 66, .binOp .lss _ _ _ _, _, _, _, _⟩ :: _) _ _); (refine wplV _ (V.lss rfl rfl) (by kernel_rfl) ?_; go_step))
                | ((with_reducible show wpList _ _ _ (⟨some 70, .extract _ _, _, _, _, _⟩ :: _) _ _); (refine wplV _ (V.extract rfl rfl) (by kernel_rfl) ?_; go_step))
                | ((with_reducible show wpList _ _ _ (⟨some 71, .extract _ _, _, _, _, _⟩ :: _) _ _); (refine wplV _ (V.extract rfl rfl) (by kernel_rfl) ?_; go_step))
                | ((with_reducible show wpList _ _ _ (⟨some 14, .alloc 69, _, _, _, _⟩ :: _) _ _); (refine wpl (by kernel_rfl) ?_; apply wp_alloc (o := ⟨some 14, _, _, _, _, _⟩) hS 69 rfl (.agg #[.int .i64 0, .int .i64 0, .int .i64 0]) [.int .i64 0, .int .i64 0, .int .i64 0] (fun w => Tryd.zeroValue69 w) rfl; clear hS; intro g14 w hS; refine put_move ?_; go_step))
                | ((with_reducible show wpList _ _ _ (⟨_, .store 69 _ _, _, _, _, _⟩ :: _) _ _); (refine wpl (by kernel_rfl) ?_; apply wp_storeG hS 69 _ _ rfl _ rfl 3 (row_of rfl) _ _; (case hp => (repeat (first | with_reducible exact Pull.head | apply Pull.tail))); (case hy => rfl); (case hn => rfl); (case hn' => rfl); (case hv => rfl); (case hd => exact rfl); clear hS; intro w hS))
                | ((fail_if_success (with_reducible show wpList _ _ _ (_ :: _) _ _)); go_step))
              all_goals (try (have hF : False := (by omega); cases hF))
              repeat' (first
                | ((with_reducible show wpList _ _ _ (⟨some 89, _, _, _, _, _⟩ :: _) _ _); refine wpl_call (f := 71) Tryd.call71 (by kernel_rfl) ?_; refine ⟨_, (back_yes u1 u2 _ hB2), ?_⟩; rintro e w' ⟨rfl, rfl⟩; rw [HNb.out]; refine ⟨_, rfl, ?_⟩; refine put_move ?_; go_step)
                | ((with_reducible show wpList _ _ _ (⟨_, .move _, _, _, _, _⟩ :: _) _ _); (first | go_big_want | go_step); go_step)
                | ((with_reducible show wpList _ _ _ (⟨_, .assign _, _, _, _, _⟩ :: _) _ _); (first | go_big_want | go_step); go_step)
                | ((with_reducible show wpList _ _ _ (⟨some 73, .binOp .neq 25 _ _ _, _, _, _, _⟩ :: _) _ _); (refine wplV _ (V.neq rfl rfl) (by kernel_rfl) ?_; go_step))
                | ((with_reducible show wpList _ _ _ (⟨some 85, .fieldAddr 69 _ 1, _, _, _, _⟩ :: _) _ _); (refine wplV _ (V.fieldAddr fo69_1 rfl (by first | with_reducible exact Nat.zero_add _ | with_reducible exact Nat.add_zero _ | exact rfl)) (by kernel_rfl) ?_; go_step))
                | ((with_reducible show wpList _ _ _ (⟨some 87, .fieldAddr 69 _ 2, _, _, _, _⟩ :: _) _ _); (refine wplV _ (V.fieldAddr fo69_2 rfl (by first | with_reducible exact Nat.zero_add _ | with_reducible exact Nat.add_zero _ | exact rfl)) (by kernel_rfl) ?_; go_step))
                | ((with_reducible show wpList _ _ _ (⟨some 90, .extract _ _, _, _, _, _⟩ :: _) _ _); (refine wplV _ (V.extract rfl rfl) (by kernel_rfl) ?_; go_step))
                | ((with_reducible show wpList _ _ _ (⟨some 91, .extract _ _, _, _, _, _⟩ :: _) _ _); (refine wplV _ (V.extract rfl rfl) (by kernel_rfl) ?_; go_step))
                | ((with_reducible show wpList _ _ _ (⟨_, .load 69 _, _, _, _, _⟩ :: _) _ _); (refine wpl (by kernel_rfl) ?_; apply wp_loadG hS 69 _ rfl _ rfl 3 (row_of rfl) _; (case hp => (repeat (first | with_reducible exact Pull.head | apply Pull.tail))); (case hn => rfl); refine put_move ?_; go_step))
                | ((with_reducible show wpList _ _ _ (⟨some 82, .buildSlice 100 _ _, _, _, _, _⟩ :: _) _ _); (refine wpl (by kernel_rfl) ?_; apply wp_buildSlice1 (o := ⟨some 82, _, _, _, _, _⟩) hS 100 1 _ rfl 69 3 24 el100 _ _; (case hvs => (repeat (first | exact Parts.nil | (apply Parts.agg; (rfl); (rfl)) | (apply Parts.one; (first | exact IsV.int rfl | exact IsV.bool rfl | exact IsV.slice rfl | exact IsV.pointer rfl | exact IsV.string rfl | exact IsV.map rfl | exact IsV.func rfl); (rfl); (rfl))))); (case hn => rfl); (case hn0 => decide); (case hns => decide); clear hS; intro g82 w hS; simp only [List.cons_append, List.nil_append] at hS; refine put_move ?_; go_step))
                | ((with_reducible show wpList _ _ _ (⟨some 83, .call ⟨.builtin .append, _, _⟩, _, _, _, _⟩ :: _) _ _); (refine wpl (by kernel_rfl) ?_; apply wp_append (o := ⟨some 83, _, _, _, _, _⟩) hS _ _ 100 rfl 69 3 24 el100 _ _ _ _ rfl; (case hp => (repeat (first | with_reducible exact Pull.head | apply Pull.tail))); (case hx => exact rfl); (case hm => (first | exact hS.slBlk (by (repeat (first | with_reducible exact Pull.head | apply Pull.tail))) (by rfl) (by decide) | exact hS.sl (by (repeat (first | with_reducible exact Pull.head | apply Pull.tail))) | with_reducible assumption | exact Sl.ext (by with_reducible assumption) hS.1 | exact Sl.nil _ _ | exact Sl.ext (by assumption) hS.1 | assumption)); (case h1 => (first | exact oneAll rfl | exact oneMap _ _ | (intro u hu; cases hu))); (case h63 => unfold maxLen; omega); (case hb => omega); clear hS; intro ad83 c83 w hS; (first | simp only [mapk1] at hS | simp only [mapk2] at hS | simp only [mapk3] at hS | simp only [mapk4] at hS | simp only [mapkl] at hS | skip); refine put_move ?_; go_step))
                | ((with_reducible show wpList _ _ _ (⟨_, .load 3 _, _, _, _, _⟩ :: _) _ _); (refine wpl (by kernel_rfl) ?_; apply wp_load1 hS 3 _ rfl _ _ rfl (one_of rfl) _; (case hp => (repeat (first | with_reducible exact Pull.head | apply Pull.tail))); (case hc => rfl); refine put_move ?_; go_step))
                | ((fail_if_success (with_reducible show wpList _ _ _ (_ :: _) _ _)); go_step))
              all_goals (try (have hF : False := (by omega); cases hF))
              repeat' (first
                | ((with_reducible show wpList _ _ _ (⟨some 99, .binOp .and _ _ _ _, _, _, _, _⟩ :: _) _ _); (refine wplV (.int _ ((u0 % 16))) (V.as (V.and rfl rfl) (by exact HAnd.out)) rfl ?_; go_step))
                | go_big_skip
                | ((with_reducible show wpList _ _ _ (⟨_, .move _, _, _, _, _⟩ :: _) _ _); (first | go_big_want | go_step); go_step)
                | ((with_reducible show wpList _ _ _ (⟨_, .pick _ _ _, _, _, _, _⟩ :: _) _ _); (refine wplPickF rfl (by kernel_rfl) ?_; go_step))
                | ((with_reducible show wpList _ _ _ (⟨some 93, .binOp .neq 25 _ _ _, _, _, _, _⟩ :: _) _ _); (refine wplD _ (V.neq rfl rfl) (by kernel_rfl) (fun hB => ?_) (fun hB => ?_) <;> (try (have hF : False := (by omega); cases hF)) <;> go_step))
                | ((with_reducible show wpList _ _ _ (⟨some 100, .binOp .neq 3 _ _ _, _, _, _, _⟩ :: _) _ _); (refine wplD _ (V.neq rfl rfl) (by kernel_rfl) (fun hB => ?_) (fun hB => ?_) <;> (try (have hF : False := (by omega); cases hF)) <;> go_step))
                | ((with_reducible show wpList _ _ _ (⟨some 105, .binOp .gtr _ _ _ _, _, _, _, _⟩ :: _) _ _); (refine wplD _ (V.gtr rfl rfl) (by kernel_rfl) (fun hB => ?_) (fun hB => ?_) <;> (try (have hF : False := (by omega); cases hF)) <;> go_step))
                | ((with_reducible show wpList _ _ _ (⟨some 110, .binOp .lss _ _ _ _, _, _, _, _⟩ :: _) _ _); (refine wplD _ (V.lss rfl rfl) (by kernel_rfl) (fun hB => ?_) (fun hB => ?_) <;> (try (have hF : False := (by omega); cases hF)) <;> go_step))
                | ((with_reducible show wpList _ _ _ (⟨some 115, .binOp .gtr _ _ _ _, _, _, _, _⟩ :: _) _ _); (refine wplD _ (V.gtr rfl rfl) (by kernel_rfl) (fun hB => ?_) (fun hB => ?_) <;> (try (have hF : False := (by omega); cases hF)) <;> go_step))
                | ((with_reducible show wpList _ _ _ (⟨some 120, .binOp .eql 3 _ _ _, _, _, _, _⟩ :: _) _ _); (refine wplD _ (V.eql rfl rfl) (by kernel_rfl) (fun hB => ?_) (fun hB => ?_) <;> (try (have hF : False := (by omega); cases hF)) <;> go_step))
                | ((with_reducible show wpList _ _ _ (⟨some 95, .fieldAddr 69 _ 1, _, _, _, _⟩ :: _) _ _); (refine wplV _ (V.fieldAddr fo69_1 rfl (by first | with_reducible exact Nat.zero_add _ | with_reducible exact Nat.add_zero _ | exact rfl)) (by kernel_rfl) ?_; go_step))
                | ((with_reducible show wpList _ _ _ (⟨some 97, .fieldAddr 69 _ 0, _, _, _, _⟩ :: _) _ _); (refine wplV _ (V.fieldAddr fo69_0 rfl (by first | with_reducible exact Nat.zero_add _ | with_reducible exact Nat.add_zero _ | exact rfl)) (by kernel_rfl) ?_; go_step))
                | ((with_reducible show wpList _ _ _ (⟨some 103, .fieldAddr 69 _ 1, _, _, _, _⟩ :: _) _ _); (refine wplV _ (V.fieldAddr fo69_1 rfl (by first | with_reducible exact Nat.zero_add _ | with_reducible exact Nat.add_zero _ | exact rfl)) (by kernel_rfl) ?_; go_step))
                | ((with_reducible show wpList _ _ _ (⟨some 108, .fieldAddr 69 _ 0, _, _, _, _⟩ :: _) _ _); (refine wplV _ (V.fieldAddr fo69_0 rfl (by first | with_reducible exact Nat.zero_add _ | with_reducible exact Nat.add_zero _ | exact rfl)) (by kernel_rfl) ?_; go_step))
                | ((with_reducible show wpList _ _ _ (⟨some 113, .fieldAddr 69 _ 0, _, _, _, _⟩ :: _) _ _); (refine wplV _ (V.fieldAddr fo69_0 rfl (by first | with_reducible exact Nat.zero_add _ | with_reducible exact Nat.add_zero _ | exact rfl)) (by kernel_rfl) ?_; go_step))
                | ((with_reducible show wpList _ _ _ (⟨some 118, .fieldAddr 69 _ 1, _, _, _, _⟩ :: _) _ _); (refine wplV _ (V.fieldAddr fo69_1 rfl (by first | with_reducible exact Nat.zero_add _ | with_reducible exact Nat.add_zero _ | exact rfl)) (by kernel_rfl) ?_; go_step))
                | ((with_reducible show wpList _ _ _ (⟨_, .load 3 _, _, _, _, _⟩ :: _) _ _); (refine wpl (by kernel_rfl) ?_; apply wp_load1 hS 3 _ rfl _ _ rfl (one_of rfl) _; (case hp => (repeat (first | with_reducible exact Pull.head | apply Pull.tail))); (case hc => rfl); refine put_move ?_; go_step))
                | ((fail_if_success (with_reducible show wpList _ _ _ (_ :: _) _ _)); go_step))
              all_goals (try (have hF : False := (by omega); cases hF))
              repeat' (first
                | ((with_reducible show wpList _ _ _ (⟨some 148, .binOp .shr _ _ _ _, _, _, _, _⟩ :: _) _ _); (refine wplV (.int _ (((r : Nat) : Int))) (V.as (V.shr rfl rfl (by (repeat (first | exact IsN.auto | with_reducible apply IsN.add | with_reducible apply IsN.sub | with_reducible apply IsN.mul | with_reducible apply IsN.div | with_reducible apply IsN.mod | with_reducible apply IsN.min | with_reducible apply IsN.max | (with_reducible show (_ : Nat) ≤ _; omega) | exact IsN.toNat (by omega)))) (by omega) rfl) (by exact HR4.out)) rfl ?_; go_step))
                | ((with_reducible show wpList _ _ _ (⟨some 160, _, _, _, _, _⟩ :: _) _ _); refine wpl (by kernel_rfl) ?_; refine wp_callV (f := 70) rfl rfl Tryd.call70 (none_any _ _) ?_; rintro e w ⟨rfl, hE⟩; replace hS := hS.ext hE; clear hE; refine ⟨_, rfl, ?_⟩; refine put_move ?_; go_step)
                | ((with_reducible show wpList _ _ _ (⟨_, .move _, _, _, _, _⟩ :: _) _ _); (first | go_big_want | go_step); go_step)
                | ((with_reducible show wpList _ _ _ (⟨_, .assign _, _, _, _, _⟩ :: _) _ _); (first | go_big_want | go_step); go_step)
                | ((with_reducible show wpList _ _ _ (⟨some 137, .fieldAddr 69 _ 0, _, _, _, _⟩ :: _) _ _); (refine wplV _ (V.fieldAddr fo69_0 rfl (by first | with_reducible exact Nat.zero_add _ | with_reducible exact Nat.add_zero _ | exact rfl)) (by kernel_rfl) ?_; go_step))
                | ((with_reducible show wpList _ _ _ (⟨some 139, .binOp .eql 3 _ _ _, _, _, _, _⟩ :: _) _ _); (refine wplV _ (V.eql rfl rfl) (by kernel_rfl) ?_; go_step))
                | ((with_reducible show wpList _ _ _ (⟨some 140, .fieldAddr 69 _ 0, _, _, _, _⟩ :: _) _ _); (refine wplV _ (V.fieldAddr fo69_0 rfl (by first | with_reducible exact Nat.zero_add _ | with_reducible exact Nat.add_zero _ | exact rfl)) (by kernel_rfl) ?_; go_step))
                | ((with_reducible show wpList _ _ _ (⟨some 142, .binOp .eql 3 _ _ _, _, _, _, _⟩ :: _) _ _); (refine wplV _ (V.eql rfl rfl) (by kernel_rfl) ?_; go_step))
                | ((with_reducible show wpList _ _ _ (⟨some 146, .fieldAddr 69 _ 0, _, _, _, _⟩ :: _) _ _); (refine wplV _ (V.fieldAddr fo69_0 rfl (by first | with_reducible exact Nat.zero_add _ | with_reducible exact Nat.add_zero _ | exact rfl)) (by kernel_rfl) ?_; go_step))
                | ((with_reducible show wpList _ _ _ (⟨some 149, .binOp .add _ _ _ _, _, _, _, _⟩ :: _) _ _); (refine wplV _ (V.addI rfl rfl (by omega)) (by kernel_rfl) ?_; go_step))
                | ((with_reducible show wpList _ _ _ (⟨some 151, .binOp .lss _ _ _ _, _, _, _, _⟩ :: _) _ _); (refine wplV _ (V.lss rfl rfl) (by kernel_rfl) ?_; go_step))
                | ((with_reducible show wpList _ _ _ (⟨some 156, .binOp .add _ _ _ _, _, _, _, _⟩ :: _) _ _); (refine wplV _ (V.addI rfl rfl (by omega)) (by kernel_rfl) ?_; go_step))
                | ((with_reducible show wpList _ _ _ (⟨some 158, .binOp .gtr _ _ _ _, _, _, _, _⟩ :: _) _ _); (refine wplV _ (V.gtr rfl rfl) (by kernel_rfl) ?_; go_step))
                | ((with_reducible show wpList _ _ _ (⟨some 161, .extract _ _, _, _, _, _⟩ :: _) _ _); (refine wplV _ (V.extract rfl rfl) (by kernel_rfl) ?_; go_step))
                | ((with_reducible show wpList _ _ _ (⟨some 162, .extract _ _, _, _, _, _⟩ :: _) _ _); (refine wplV _ (V.extract rfl rfl) (by kernel_rfl) ?_; go_step))
                | ((with_reducible show wpList _ _ _ (⟨some 163, .extract _ _, _, _, _, _⟩ :: _) _ _); (refine wplV _ (V.extract rfl rfl) (by kernel_rfl) ?_; go_step))
                | ((with_reducible show wpList _ _ _ (⟨_, .load 3 _, _, _, _, _⟩ :: _) _ _); (refine wpl (by kernel_rfl) ?_; apply wp_load1 hS 3 _ rfl _ _ rfl (one_of rfl) _; (case hp => (repeat (first | with_reducible exact Pull.head | apply Pull.tail))); (case hc => rfl); refine put_move ?_; go_step))
                | ((with_reducible show wpList _ _ _ (⟨_, .store 52 _ _, _, _, _, _⟩ :: _) _ _); (refine wpl (by kernel_rfl) ?_; apply wp_storeA hS 52 _ _ rfl _ rfl 64 (row_of rfl) _ _; (case hp => (repeat (first | with_reducible exact Pull.head | apply Pull.tail))); (case hy => rfl); (case hm => (repeat (first | assumption | exact Len.rep | apply Len.set | ((with_reducible show Len (_ :: _) _); exact rfl)))); (case hd => exact rfl); clear hS; intro w hS))
                | ((fail_if_success (with_reducible show wpList _ _ _ (_ :: _) _ _)); go_step))
              all_goals (try (have hF : False := (by omega); cases hF))
              all_goals
                refine ret_all (xs := [_, _, _]) rfl (.cons (OneRes.arr hS rfl (row_of (n := 64) rfl) (by (repeat (first | with_reducible exact Pull.head | apply Pull.tail)))) (.cons (OneRes.tmp rfl) (.cons (OneRes.tmp rfl) (.nil)))) (by simp) rfl ?_
                exact from_no 4 HF2.out hS (by (repeat (first | exact Sub.nil | with_reducible exact Sub.refl | (apply Sub.cons; (case p => (repeat (first | with_reducible exact Pull.head | apply Pull.tail)))) | apply Sub.skip)))
            case neg =>
              rw [if_neg hov] at hlo
              have HLo2 := hid hlo
              have HBl2 : Hid (∀ i, i < 64 → -2047 ≤ nth (bl.set (at_ + r) n2) i ∧ nth (bl.set (at_ + r) n2) i ≤ 2047) := hid fun i hi => by
                rw [nth_set _ _ _ _ (by rw [hbl.out]; omega)]
                split
                · omega
                · exact HBl.out i hi
              have hbl2 : Len (bl.set (at_ + r) n2) 64 := Len.set hbl
              clear hlo
              repeat' (first
                | ((with_reducible show wpList _ _ _ (⟨some 69, _, _, _, _, _⟩ :: _) _ _); refine wpl (by kernel_rfl) ?_; refine wp_callI rfl (.iface Z.tid Z.ptr) rfl [.bool false] rfl Z.f #[Z.ptr, .bool false] (Z.inv false) (Z.call _ _ _ s false _ _ _ _ _ hS (by (repeat (first | with_reducible exact Pull.head | apply Pull.tail))) HN2.out) ?_; clear hS; rintro e w ⟨rfl, hS⟩; refine ⟨_, rfl, ?_⟩; refine put_move ?_; go_step)
                | ((with_reducible show wpList _ _ _ (⟨_, .move _, _, _, _, _⟩ :: _) _ _); (first | go_big_want | go_step); go_step)
                | ((with_reducible show wpList _ _ _ (⟨_, .assign _, _, _, _, _⟩ :: _) _ _); (first | go_big_want | go_step); go_step)
                | ((with_reducible show wpList _ _ _ (⟨some 66, .binOp .lss _ _ _ _, _, _, _, _⟩ :: _) _ _); (refine wplV _ (V.lss rfl rfl) (by kernel_rfl) ?_; go_step))
                | ((with_reducible show wpList _ _ _ (⟨some 70, .extract _ _, _, _, _, _⟩ :: _) _ _); (refine wplV _ (V.extract rfl rfl) (by kernel_rfl) ?_; go_step))
                | ((with_reducible show wpList _ _ _ (⟨some 71, .extract _ _, _, _, _, _⟩ :: _) _ _); (refine wplV _ (V.extract rfl rfl) (by kernel_rfl) ?_; go_step))
                | ((with_reducible show wpList _ _ _ (⟨some 14, .alloc 69, _, _, _, _⟩ :: _) _ _); (refine wpl (by kernel_rfl) ?_; apply wp_alloc (o := ⟨some 14, _, _, _, _, _⟩) hS 69 rfl (.agg #[.int .i64 0, .int .i64 0, .int .i64 0]) [.int .i64 0, .int .i64 0, .int .i64 0] (fun w => Tryd.zeroValue69 w) rfl; clear hS; intro g14 w hS; refine put_move ?_; go_step))
                | ((with_reducible show wpList _ _ _ (⟨_, .store 69 _ _, _, _, _, _⟩ :: _) _ _); (refine wpl (by kernel_rfl) ?_; apply wp_storeG hS 69 _ _ rfl _ rfl 3 (row_of rfl) _ _; (case hp => (repeat (first | with_reducible exact Pull.head | apply Pull.tail))); (case hy => rfl); (case hn => rfl); (case hn' => rfl); (case hv => rfl); (case hd => exact rfl); clear hS; intro w hS))
                | ((fail_if_success (with_reducible show wpList _ _ _ (_ :: _) _ _)); go_step))
              all_goals (try (have hF : False := (by omega); cases hF))
              repeat' (first
                | ((with_reducible show wpList _ _ _ (⟨some 89, _, _, _, _, _⟩ :: _) _ _); refine wpl_call (f := 71) Tryd.call71 (by kernel_rfl) ?_; refine ⟨_, (back_yes u1 u2 _ hB2), ?_⟩; rintro e w' ⟨rfl, rfl⟩; rw [HNb.out]; refine ⟨_, rfl, ?_⟩; refine put_move ?_; go_step)
                | ((with_reducible show wpList _ _ _ (⟨_, .move _, _, _, _, _⟩ :: _) _ _); (first | go_big_want | go_step); go_step)
                | ((with_reducible show wpList _ _ _ (⟨_, .assign _, _, _, _, _⟩ :: _) _ _); (first | go_big_want | go_step); go_step)
                | ((with_reducible show wpList _ _ _ (⟨some 73, .binOp .neq 25 _ _ _, _, _, _, _⟩ :: _) _ _); (refine wplV _ (V.neq rfl rfl) (by kernel_rfl) ?_; go_step))
                | ((with_reducible show wpList _ _ _ (⟨some 85, .fieldAddr 69 _ 1, _, _, _, _⟩ :: _) _ _); (refine wplV _ (V.fieldAddr fo69_1 rfl (by first | with_reducible exact Nat.zero_add _ | with_reducible exact Nat.add_zero _ | exact rfl)) (by kernel_rfl) ?_; go_step))
                | ((with_reducible show wpList _ _ _ (⟨some 87, .fieldAddr 69 _ 2, _, _, _, _⟩ :: _) _ _); (refine wplV _ (V.fieldAddr fo69_2 rfl (by first | with_reducible exact Nat.zero_add _ | with_reducible exact Nat.add_zero _ | exact rfl)) (by kernel_rfl) ?_; go_step))
                | ((with_reducible show wpList _ _ _ (⟨some 90, .extract _ _, _, _, _, _⟩ :: _) _ _); (refine wplV _ (V.extract rfl rfl) (by kernel_rfl) ?_; go_step))
                | ((with_reducible show wpList _ _ _ (⟨some 91, .extract _ _, _, _, _, _⟩ :: _) _ _); (refine wplV _ (V.extract rfl rfl) (by kernel_rfl) ?_; go_step))
                | ((with_reducible show wpList _ _ _ (⟨_, .load 69 _, _, _, _, _⟩ :: _) _ _); (refine wpl (by kernel_rfl) ?_; apply wp_loadG hS 69 _ rfl _ rfl 3 (row_of rfl) _; (case hp => (repeat (first | with_reducible exact Pull.head | apply Pull.tail))); (case hn => rfl); refine put_move ?_; go_step))
                | ((with_reducible show wpList _ _ _ (⟨some 82, .buildSlice 100 _ _, _, _, _, _⟩ :: _) _ _); (refine wpl (by kernel_rfl) ?_; apply wp_buildSlice1 (o := ⟨some 82, _, _, _, _, _⟩) hS 100 1 _ rfl 69 3 24 el100 _ _; (case hvs => (repeat (first | exact Parts.nil | (apply Parts.agg; (rfl); (rfl)) | (apply Parts.one; (first | exact IsV.int rfl | exact IsV.bool rfl | exact IsV.slice rfl | exact IsV.pointer rfl | exact IsV.string rfl | exact IsV.map rfl | exact IsV.func rfl); (rfl); (rfl))))); (case hn => rfl); (case hn0 => decide); (case hns => decide); clear hS; intro g82 w hS; simp only [List.cons_append, List.nil_append] at hS; refine put_move ?_; go_step))
                | ((with_reducible show wpList _ _ _ (⟨some 83, .call ⟨.builtin .append, _, _⟩, _, _, _, _⟩ :: _) _ _); (refine wpl (by kernel_rfl) ?_; apply wp_append (o := ⟨some 83, _, _, _, _, _⟩) hS _ _ 100 rfl 69 3 24 el100 _ _ _ _ rfl; (case hp => (repeat (first | with_reducible exact Pull.head | apply Pull.tail))); (case hx => exact rfl); (case hm => (first | exact hS.slBlk (by (repeat (first | with_reducible exact Pull.head | apply Pull.tail))) (by rfl) (by decide) | exact hS.sl (by (repeat (first | with_reducible exact Pull.head | apply Pull.tail))) | with_reducible assumption | exact Sl.ext (by with_reducible assumption) hS.1 | exact Sl.nil _ _ | exact Sl.ext (by assumption) hS.1 | assumption)); (case h1 => (first | exact oneAll rfl | exact oneMap _ _ | (intro u hu; cases hu))); (case h63 => unfold maxLen; omega); (case hb => omega); clear hS; intro ad83 c83 w hS; (first | simp only [mapk1] at hS | simp only [mapk2] at hS | simp only [mapk3] at hS | simp only [mapk4] at hS | simp only [mapkl] at hS | skip); refine put_move ?_; go_step))
                | ((with_reducible show wpList _ _ _ (⟨_, .load 3 _, _, _, _, _⟩ :: _) _ _); (refine wpl (by kernel_rfl) ?_; apply wp_load1 hS 3 _ rfl _ _ rfl (one_of rfl) _; (case hp => (repeat (first | with_reducible exact Pull.head | apply Pull.tail))); (case hc => rfl); refine put_move ?_; go_step))
                | ((fail_if_success (with_reducible show wpList _ _ _ (_ :: _) _ _)); go_step))
              all_goals (try (have hF : False := (by omega); cases hF))
              repeat' (first
                | ((with_reducible show wpList _ _ _ (⟨some 99, .binOp .and _ _ _ _, _, _, _, _⟩ :: _) _ _); (refine wplV (.int _ ((u0 % 16))) (V.as (V.and rfl rfl) (by exact HAnd.out)) rfl ?_; go_step))
                | go_big_skip
                | ((with_reducible show wpList _ _ _ (⟨_, .move _, _, _, _, _⟩ :: _) _ _); (first | go_big_want | go_step); go_step)
                | ((with_reducible show wpList _ _ _ (⟨_, .pick _ _ _, _, _, _, _⟩ :: _) _ _); (refine wplPickF rfl (by kernel_rfl) ?_; go_step))
                | ((with_reducible show wpList _ _ _ (⟨some 93, .binOp .neq 25 _ _ _, _, _, _, _⟩ :: _) _ _); (refine wplD _ (V.neq rfl rfl) (by kernel_rfl) (fun hB => ?_) (fun hB => ?_) <;> (try (have hF : False := (by omega); cases hF)) <;> go_step))
                | ((with_reducible show wpList _ _ _ (⟨some 100, .binOp .neq 3 _ _ _, _, _, _, _⟩ :: _) _ _); (refine wplD _ (V.neq rfl rfl) (by kernel_rfl) (fun hB => ?_) (fun hB => ?_) <;> (try (have hF : False := (by omega); cases hF)) <;> go_step))
                | ((with_reducible show wpList _ _ _ (⟨some 105, .binOp .gtr _ _ _ _, _, _, _, _⟩ :: _) _ _); (refine wplD _ (V.gtr rfl rfl) (by kernel_rfl) (fun hB => ?_) (fun hB => ?_) <;> (try (have hF : False := (by omega); cases hF)) <;> go_step))
                | ((with_reducible show wpList _ _ _ (⟨some 110, .binOp .lss _ _ _ _, _, _, _, _⟩ :: _) _ _); (refine wplD _ (V.lss rfl rfl) (by kernel_rfl) (fun hB => ?_) (fun hB => ?_) <;> (try (have hF : False := (by omega); cases hF)) <;> go_step))
                | ((with_reducible show wpList _ _ _ (⟨some 115, .binOp .gtr _ _ _ _, _, _, _, _⟩ :: _) _ _); (refine wplD _ (V.gtr rfl rfl) (by kernel_rfl) (fun hB => ?_) (fun hB => ?_) <;> (try (have hF : False := (by omega); cases hF)) <;> go_step))
                | ((with_reducible show wpList _ _ _ (⟨some 120, .binOp .eql 3 _ _ _, _, _, _, _⟩ :: _) _ _); (refine wplD _ (V.eql rfl rfl) (by kernel_rfl) (fun hB => ?_) (fun hB => ?_) <;> (try (have hF : False := (by omega); cases hF)) <;> go_step))
                | ((with_reducible show wpList _ _ _ (⟨some 95, .fieldAddr 69 _ 1, _, _, _, _⟩ :: _) _ _); (refine wplV _ (V.fieldAddr fo69_1 rfl (by first | with_reducible exact Nat.zero_add _ | with_reducible exact Nat.add_zero _ | exact rfl)) (by kernel_rfl) ?_; go_step))
                | ((with_reducible show wpList _ _ _ (⟨some 97, .fieldAddr 69 _ 0, _, _, _, _⟩ :: _) _ _); (refine wplV _ (V.fieldAddr fo69_0 rfl (by first | with_reducible exact Nat.zero_add _ | with_reducible exact Nat.add_zero _ | exact rfl)) (by kernel_rfl) ?_; go_step))
                | ((with_reducible show wpList _ _ _ (⟨some 103, .fieldAddr 69 _ 1, _, _, _, _⟩ :: _) _ _); (refine wplV _ (V.fieldAddr fo69_1 rfl (by first | with_reducible exact Nat.zero_add _ | with_reducible exact Nat.add_zero _ | exact rfl)) (by kernel_rfl) ?_; go_step))
                | ((with_reducible show wpList _ _ _ (⟨some 108, .fieldAddr 69 _ 0, _, _, _, _⟩ :: _) _ _); (refine wplV _ (V.fieldAddr fo69_0 rfl (by first | with_reducible exact Nat.zero_add _ | with_reducible exact Nat.add_zero _ | exact rfl)) (by kernel_rfl) ?_; go_step))
                | ((with_reducible show wpList _ _ _ (⟨some 113, .fieldAddr 69 _ 0, _, _, _, _⟩ :: _) _ _); (refine wplV _ (V.fieldAddr fo69_0 rfl (by first | with_reducible exact Nat.zero_add _ | with_reducible exact Nat.add_zero _ | exact rfl)) (by kernel_rfl) ?_; go_step))
                | ((with_reducible show wpList _ _ _ (⟨some 118, .fieldAddr 69 _ 1, _, _, _, _⟩ :: _) _ _); (refine wplV _ (V.fieldAddr fo69_1 rfl (by first | with_reducible exact Nat.zero_add _ | with_reducible exact Nat.add_zero _ | exact rfl)) (by kernel_rfl) ?_; go_step))
                | ((with_reducible show wpList _ _ _ (⟨_, .load 3 _, _, _, _, _⟩ :: _) _ _); (refine wpl (by kernel_rfl) ?_; apply wp_load1 hS 3 _ rfl _ _ rfl (one_of rfl) _; (case hp => (repeat (first | with_reducible exact Pull.head | apply Pull.tail))); (case hc => rfl); refine put_move ?_; go_step))
                | ((fail_if_success (with_reducible show wpList _ _ _ (_ :: _) _ _)); go_step))
              all_goals (try (have hF : False := (by omega); cases hF))
              repeat' (first
                | ((with_reducible show wpList _ _ _ (⟨some 148, .binOp .shr _ _ _ _, _, _, _, _⟩ :: _) _ _); (refine wplV (.int _ (((r : Nat) : Int))) (V.as (V.shr rfl rfl (by (repeat (first | exact IsN.auto | with_reducible apply IsN.add | with_reducible apply IsN.sub | with_reducible apply IsN.mul | with_reducible apply IsN.div | with_reducible apply IsN.mod | with_reducible apply IsN.min | with_reducible apply IsN.max | (with_reducible show (_ : Nat) ≤ _; omega) | exact IsN.toNat (by omega)))) (by omega) rfl) (by exact HR4.out)) rfl ?_; go_step))
                | ((with_reducible show wpList _ _ _ (⟨_, .move _, _, _, _, _⟩ :: _) _ _); (first | go_big_want | go_step); go_step)
                | ((with_reducible show wpList _ _ _ (⟨_, .assign _, _, _, _, _⟩ :: _) _ _); (first | go_big_want | go_step); go_step)
                | ((with_reducible show wpList _ _ _ (⟨some 137, .fieldAddr 69 _ 0, _, _, _, _⟩ :: _) _ _); (refine wplV _ (V.fieldAddr fo69_0 rfl (by first | with_reducible exact Nat.zero_add _ | with_reducible exact Nat.add_zero _ | exact rfl)) (by kernel_rfl) ?_; go_step))
                | ((with_reducible show wpList _ _ _ (⟨some 139, .binOp .eql 3 _ _ _, _, _, _, _⟩ :: _) _ _); (refine wplV _ (V.eql rfl rfl) (by kernel_rfl) ?_; go_step))
                | ((with_reducible show wpList _ _ _ (⟨some 140, .fieldAddr 69 _ 0, _, _, _, _⟩ :: _) _ _); (refine wplV _ (V.fieldAddr fo69_0 rfl (by first | with_reducible exact Nat.zero_add _ | with_reducible exact Nat.add_zero _ | exact rfl)) (by kernel_rfl) ?_; go_step))
                | ((with_reducible show wpList _ _ _ (⟨some 142, .binOp .eql 3 _ _ _, _, _, _, _⟩ :: _) _ _); (refine wplV _ (V.eql rfl rfl) (by kernel_rfl) ?_; go_step))
                | ((with_reducible show wpList _ _ _ (⟨some 146, .fieldAddr 69 _ 0, _, _, _, _⟩ :: _) _ _); (refine wplV _ (V.fieldAddr fo69_0 rfl (by first | with_reducible exact Nat.zero_add _ | with_reducible exact Nat.add_zero _ | exact rfl)) (by kernel_rfl) ?_; go_step))
                | ((with_reducible show wpList _ _ _ (⟨some 149, .binOp .add _ _ _ _, _, _, _, _⟩ :: _) _ _); (refine wplV _ (V.addI rfl rfl (by omega)) (by kernel_rfl) ?_; go_step))
                | ((with_reducible show wpList _ _ _ (⟨some 151, .binOp .lss _ _ _ _, _, _, _, _⟩ :: _) _ _); (refine wplV _ (V.lss rfl rfl) (by kernel_rfl) ?_; go_step))
                | ((with_reducible show wpList _ _ _ (⟨some 154, .indexAddr 52 _ _, _, _, _, _⟩ :: _) _ _); (refine wplV _ (V.indexAr Tryd.underlying52 isz3 rfl rfl (by (repeat (first | exact IsN.auto | with_reducible apply IsN.add | with_reducible apply IsN.sub | with_reducible apply IsN.mul | with_reducible apply IsN.div | with_reducible apply IsN.mod | with_reducible apply IsN.min | with_reducible apply IsN.max | (with_reducible show (_ : Nat) ≤ _; omega) | exact IsN.toNat (by omega)))) (by omega) (Nat.mul_one _) (by first | with_reducible exact Nat.zero_add _ | with_reducible exact Nat.add_zero _ | exact rfl)) (by kernel_rfl) ?_; go_step))
                | ((with_reducible show wpList _ _ _ (⟨some 156, .binOp .add _ _ _ _, _, _, _, _⟩ :: _) _ _); (refine wplV _ (V.addI rfl rfl (by omega)) (by kernel_rfl) ?_; go_step))
                | ((with_reducible show wpList _ _ _ (⟨some 158, .binOp .gtr _ _ _ _, _, _, _, _⟩ :: _) _ _); (refine wplV _ (V.gtr rfl rfl) (by kernel_rfl) ?_; go_step))
                | ((with_reducible show wpList _ _ _ (⟨_, .load 3 _, _, _, _, _⟩ :: _) _ _); (refine wpl (by kernel_rfl) ?_; apply wp_load1 hS 3 _ rfl _ _ rfl (one_of rfl) _; (case hp => (repeat (first | with_reducible exact Pull.head | apply Pull.tail))); (case hc => rfl); refine put_move ?_; go_step))
                | ((with_reducible show wpList _ _ _ (⟨_, .store 3 _ _, _, _, _, _⟩ :: _) _ _); (refine wpl (by kernel_rfl) ?_; apply wp_store1A hS 3 _ _ rfl _ _ rfl (one_of rfl) _ _; (case hp => (repeat (first | with_reducible exact Pull.head | apply Pull.tail))); (case hy => rfl); (case hi => omega); (case hd => exact rfl); clear hS; intro w hS))
                | ((fail_if_success (with_reducible show wpList _ _ _ (_ :: _) _ _)); go_step))
              all_goals (try (have hF : False := (by omega); cases hF))
              go_roundg gk'
              case measure => omega
              case rel => exact ⟨at_ + r + 1, m + 1, bl.set (at_ + r) n2, all ++ [(u0, u1, u2)], ad83, c83, s2, by omega, by omega, by omega, by omega, by go_num, rfl, hid (by rw [List.length_append, HAl.out]; rfl), hbl2, HBl2, HLo2, (by rw [HFl.out]; exact hS.sub (by (repeat (first | exact Sub.nil | with_reducible exact Sub.refl | (apply Sub.cons; (case p => (repeat (first | with_reducible exact Pull.head | apply Pull.tail)))) | apply Sub.skip))))⟩
    · have hlo := HLo.out
      have hR0 : R = (0, bl, all, s) := by
        cases gk with
        | zero => rw [← hlo, frLoop]
        | succ g => rw [← hlo, frLoop, if_pos (by omega)]
      have HLo2 : Hid ((0, bl, all, s) = R) := hid hR0.symm
      have HAl2 : Hid (all.length = m) := HAl
      clear hlo hR0 HLo
      obtain ⟨zf, hzf⟩ : ∃ x, zfrom bl = x := ⟨_, rfl⟩
      have hzl : Len zf 64 := by rw [← hzf]; exact zfrom_len bl
      have HZf : Veil (zfrom bl = zf) := ⟨hzf⟩
      clear hzf
      repeat' (first
        | ((with_reducible show wpList _ _ _ (⟨_, .move _, _, _, _, _⟩ :: _) _ _); (first | go_big_want | go_step); go_step)
        | ((with_reducible show wpList _ _ _ (⟨some 66, .binOp .lss _ _ _ _, _, _, _, _⟩ :: _) _ _); (refine wplV _ (V.lss rfl rfl) (by kernel_rfl) ?_; go_step))
        | ((fail_if_success (with_reducible show wpList _ _ _ (_ :: _) _ _)); go_step))
      all_goals (try (have hF : False := (by omega); cases hF))
      repeat' (first
        | ((with_reducible show wpList _ _ _ (⟨_, .call ⟨.value (.func 73), _, _⟩, _, _, _, _⟩ :: _) _ _); refine wpl_call (f := 73) Tryd.call73 (by kernel_rfl) ?_; refine ⟨_, (zfrom_any _ bl hbl.out), ?_⟩; rintro e w ⟨rfl, hE⟩; rw [HZf.out]; replace hS := hS.ext hE; clear hE; refine ⟨_, rfl, ?_⟩; refine put_move ?_; go_step)
        | ((with_reducible show wpList _ _ _ (⟨_, .move _, _, _, _, _⟩ :: _) _ _); (first | go_big_want | go_step); go_step)
        | ((with_reducible show wpList _ _ _ (⟨_, .load 52 _, _, _, _, _⟩ :: _) _ _); (refine wpl (by kernel_rfl) ?_; apply wp_loadA hS 52 _ rfl _ rfl 64 (row_of rfl) _; (case hp => (repeat (first | with_reducible exact Pull.head | apply Pull.tail))); refine put_move ?_; go_step))
        | ((with_reducible show wpList _ _ _ (⟨_, .store 52 _ _, _, _, _, _⟩ :: _) _ _); (refine wpl (by kernel_rfl) ?_; apply wp_storeA hS 52 _ _ rfl _ rfl 64 (row_of rfl) _ _; (case hp => (repeat (first | with_reducible exact Pull.head | apply Pull.tail))); (case hy => rfl); (case hm => (repeat (first | assumption | exact Len.rep | apply Len.set | ((with_reducible show Len (_ :: _) _); exact rfl)))); (case hd => exact rfl); clear hS; intro w hS))
        | ((fail_if_success (with_reducible show wpList _ _ _ (_ :: _) _ _)); go_step))
      have hzb : ∀ i, i < 64 → -2047 ≤ nth zf i ∧ nth zf i ≤ 2047 := fun i hi => by
        rw [← HZf.out]; exact zfrom_bd bl HBl.out i hi
      have HZb := hid hzb
      obtain ⟨T, hT⟩ : ∃ T, toksOf before bl = T := ⟨_, rfl⟩
      have HTz : Veil (toksOf before (zto zf) = T) := ⟨by rw [← HZf.out, zto_zfrom bl hbl.out, hT]⟩
      obtain ⟨NT, hNT⟩ : ∃ N, T.length = N := ⟨_, rfl⟩
      have hNT64 : NT ≤ 64 := by rw [← hNT, ← hT]; exact (toks_len before bl hbl.out).2
      have HTl := hid hNT
      have HRT : Veil (frm Z.next before s0 = if T = all then (0, zf, all, s) else (4, nought0, [], s)) := ⟨by
        rw [HF.out, ← HLo2.out]
        dsimp only
        rw [if_neg (by simp), hT, HZf.out]⟩
      clear hzb hT hNT
      by_cases hEq : T = all
      case pos =>
        have HD := hid (show decide (flt T = flt all) = true from decide_eq_true (by rw [hEq]))
        have HRF : Veil (frm Z.next before s0 = (0, zf, all, s)) := ⟨by rw [HRT.out, if_pos hEq]⟩
        clear hEq
        repeat' (first
          | ((with_reducible show wpList _ _ _ (⟨some 168, _, _, _, _, _⟩ :: _) _ _); refine wpl_call (f := 75) Tryd.call75 (by kernel_rfl) ?_; refine ⟨_, (tokens_any _ before zf hzl hb HZb.out), ?_⟩; rintro e w ⟨a5, c5, rfl, hS2⟩; rw [HTz.out, HTl.out] at hS2; rw [HTz.out, HTl.out]; replace hS := hS.call1 hS2; clear hS2; refine ⟨_, rfl, ?_⟩; refine put_move ?_; go_step)
          | ((with_reducible show wpList _ _ _ (⟨some 170, _, _, _, _, _⟩ :: _) _ _); refine wpl_call (f := 74) Tryd.call74 (by kernel_rfl) ?_; refine ⟨_, (slEqTok_any _ a5 a' NT c5 (m) c' (flt T) (flt all) (hS.sl (a := a5) (by (repeat (first | with_reducible exact Pull.head | apply Pull.tail)))) (hS.sl (a := a') (by (repeat (first | with_reducible exact Pull.head | apply Pull.tail)))) (by omega) (by omega)), ?_⟩; rintro e w ⟨he, hE⟩; rw [HD.out] at he; subst he; replace hS := hS.ext hE; clear hE; refine ⟨_, rfl, ?_⟩; refine put_move ?_; go_step)
          | ((with_reducible show wpList _ _ _ (⟨_, .move _, _, _, _, _⟩ :: _) _ _); (first | go_big_want | go_step); go_step)
          | ((with_reducible show wpList _ _ _ (⟨_, .assign _, _, _, _, _⟩ :: _) _ _); (first | go_big_want | go_step); go_step)
          | ((with_reducible show wpList _ _ _ (⟨some 171, .unOp .not _ _, _, _, _, _⟩ :: _) _ _); (refine wplV _ (V.not rfl) (by kernel_rfl) ?_; go_step))
          | ((with_reducible show wpList _ _ _ (⟨_, .load 52 _, _, _, _, _⟩ :: _) _ _); (refine wpl (by kernel_rfl) ?_; apply wp_loadA hS 52 _ rfl _ rfl 64 (row_of rfl) _; (case hp => (repeat (first | with_reducible exact Pull.head | apply Pull.tail))); refine put_move ?_; go_step))
          | ((with_reducible show wpList _ _ _ (⟨_, .store 52 _ _, _, _, _, _⟩ :: _) _ _); (refine wpl (by kernel_rfl) ?_; apply wp_storeA hS 52 _ _ rfl _ rfl 64 (row_of rfl) _ _; (case hp => (repeat (first | with_reducible exact Pull.head | apply Pull.tail))); (case hy => rfl); (case hm => (repeat (first | assumption | exact Len.rep | apply Len.set | ((with_reducible show Len (_ :: _) _); exact rfl)))); (case hd => exact rfl); clear hS; intro w hS))
          | ((fail_if_success (with_reducible show wpList _ _ _ (_ :: _) _ _)); go_step))
        all_goals (try (have hF : False := (by omega); cases hF))
        refine ret_all (xs := [_, _, _]) rfl (.cons (OneRes.arr hS rfl (row_of (n := 64) rfl) (by (repeat (first | with_reducible exact Pull.head | apply Pull.tail)))) (.cons (OneRes.tmp rfl) (.cons (OneRes.tmp rfl) (.nil)))) (by simp) rfl ?_
        refine ⟨a', c', ?_, ?_⟩
        · rw [HRF.out]; dsimp only; rw [HAl2.out]; first | done | rfl
        · rw [HRF.out]; dsimp only; rw [HAl2.out]; exact hS.sub (by (repeat (first | exact Sub.nil | with_reducible exact Sub.refl | (apply Sub.cons; (case p => (repeat (first | with_reducible exact Pull.head | apply Pull.tail)))) | apply Sub.skip)))
      case neg =>
        have HD := hid (show decide (flt T = flt all) = false from decide_eq_false (fun h => hEq (flt_inj h)))
        have HRF : frm Z.next before s0 = (4, nought0, [], s) := by rw [HRT.out, if_neg hEq]
        have HRF2 : Veil (frm Z.next before s0 = (4, nought0, [], s)) := ⟨HRF⟩
        clear hEq HRF
        repeat' (first
          | ((with_reducible show wpList _ _ _ (⟨some 168, _, _, _, _, _⟩ :: _) _ _); refine wpl_call (f := 75) Tryd.call75 (by kernel_rfl) ?_; refine ⟨_, (tokens_any _ before zf hzl hb HZb.out), ?_⟩; rintro e w ⟨a5, c5, rfl, hS2⟩; rw [HTz.out, HTl.out] at hS2; rw [HTz.out, HTl.out]; replace hS := hS.call1 hS2; clear hS2; refine ⟨_, rfl, ?_⟩; refine put_move ?_; go_step)
          | ((with_reducible show wpList _ _ _ (⟨some 170, _, _, _, _, _⟩ :: _) _ _); refine wpl_call (f := 74) Tryd.call74 (by kernel_rfl) ?_; refine ⟨_, (slEqTok_any _ a5 a' NT c5 (m) c' (flt T) (flt all) (hS.sl (a := a5) (by (repeat (first | with_reducible exact Pull.head | apply Pull.tail)))) (hS.sl (a := a') (by (repeat (first | with_reducible exact Pull.head | apply Pull.tail)))) (by omega) (by omega)), ?_⟩; rintro e w ⟨he, hE⟩; rw [HD.out] at he; subst he; replace hS := hS.ext hE; clear hE; refine ⟨_, rfl, ?_⟩; refine put_move ?_; go_step)
          | ((with_reducible show wpList _ _ _ (⟨some 173, _, _, _, _, _⟩ :: _) _ _); refine wpl (by kernel_rfl) ?_; refine wp_callV (f := 70) rfl rfl Tryd.call70 (none_any _ _) ?_; rintro e w ⟨rfl, hE⟩; replace hS := hS.ext hE; clear hE; refine ⟨_, rfl, ?_⟩; refine put_move ?_; go_step)
          | ((with_reducible show wpList _ _ _ (⟨_, .move _, _, _, _, _⟩ :: _) _ _); (first | go_big_want | go_step); go_step)
          | ((with_reducible show wpList _ _ _ (⟨_, .assign _, _, _, _, _⟩ :: _) _ _); (first | go_big_want | go_step); go_step)
          | ((with_reducible show wpList _ _ _ (⟨some 171, .unOp .not _ _, _, _, _, _⟩ :: _) _ _); (refine wplV _ (V.not rfl) (by kernel_rfl) ?_; go_step))
          | ((with_reducible show wpList _ _ _ (⟨some 174, .extract _ _, _, _, _, _⟩ :: _) _ _); (refine wplV _ (V.extract rfl rfl) (by kernel_rfl) ?_; go_step))
          | ((with_reducible show wpList _ _ _ (⟨some 175, .extract _ _, _, _, _, _⟩ :: _) _ _); (refine wplV _ (V.extract rfl rfl) (by kernel_rfl) ?_; go_step))
          | ((with_reducible show wpList _ _ _ (⟨some 176, .extract _ _, _, _, _, _⟩ :: _) _ _); (refine wplV _ (V.extract rfl rfl) (by kernel_rfl) ?_; go_step))
          | ((with_reducible show wpList _ _ _ (⟨_, .store 52 _ _, _, _, _, _⟩ :: _) _ _); (refine wpl (by kernel_rfl) ?_; apply wp_storeA hS 52 _ _ rfl _ rfl 64 (row_of rfl) _ _; (case hp => (repeat (first | with_reducible exact Pull.head | apply Pull.tail))); (case hy => rfl); (case hm => (repeat (first | assumption | exact Len.rep | apply Len.set | ((with_reducible show Len (_ :: _) _); exact rfl)))); (case hd => exact rfl); clear hS; intro w hS))
          | ((fail_if_success (with_reducible show wpList _ _ _ (_ :: _) _ _)); go_step))
        all_goals (try (have hF : False := (by omega); cases hF))
        refine ret_all (xs := [_, _, _]) rfl (.cons (OneRes.arr hS rfl (row_of (n := 64) rfl) (by (repeat (first | with_reducible exact Pull.head | apply Pull.tail)))) (.cons (OneRes.tmp rfl) (.cons (OneRes.tmp rfl) (.nil)))) (by simp) rfl ?_
        exact from_no 4 HRF2.out hS (by (repeat (first | exact Sub.nil | with_reducible exact Sub.refl | (apply Sub.cons; (case p => (repeat (first | with_reducible exact Pull.head | apply Pull.tail)))) | apply Sub.skip)))

end Go.Proofs.YtehbjhocgnfpmaaDoor
/- The source of tokens that seg.Decode reads. -/
namespace Go.Proofs.YtehbjhocgnfpmaaDoor
open Go.RowKit
set_option maxRecDepth 100000
set_option linter.unusedVariables false
def tkWidth (b : Bool) (s : Int) : Int := if b then s else s % 16
def tkNext (L1 L2 : List (Int × Nat × Nat)) (l : List Nat) (i : Nat) (b : Bool) : Tok × Int × Nat :=
 if (gtW (if b then L1 else L2) l i 16 0).2.1 ≠ 0 then ((0, 0, 0), (gtW (if b then L1 else L2) l i 16 0).2.1, (gtW (if b then L1 else L2) l i 16 0).2.2) else
 if 12 < tkWidth b (gtW (if b then L1 else L2) l i 16 0).1 ∨ (b = false ∧ 11 < tkWidth b (gtW (if b then L1 else L2) l i 16 0).1) then ((0, 0, 0), 4, (gtW (if b then L1 else L2) l i 16 0).2.2) else
 if 8 * l.length < (gtW (if b then L1 else L2) l i 16 0).2.2 + (tkWidth b (gtW (if b then L1 else L2) l i 16 0).1).toNat then ((0, 0, 0), 3, (gtW (if b then L1 else L2) l i 16 0).2.2)
 else (((gtW (if b then L1 else L2) l i 16 0).1, tkWidth b (gtW (if b then L1 else L2) l i 16 0).1, (numAt l (gtW (if b then L1 else L2) l i 16 0).2.2 (tkWidth b (gtW (if b then L1 else L2) l i 16 0).1).toNat : Nat)), 0, (gtW (if b then L1 else L2) l i 16 0).2.2 + (tkWidth b (gtW (if b then L1 else L2) l i 16 0).1).toNat)
def srcR (gc gr : Nat) (L1 L2 : List (Int × Nat × Nat)) (ad : Option Addr) (n c : Nat) (l : List Nat) (i : Nat) : Res := bag fun _ : { _u : Unit // i ≤ 8 * n } => [cdr gc L1 L2, rdo gr ad n c i l]
set_option maxHeartbeats 8000000 in
theorem srcTok_any (W w0 : World) (rs rs' : List Res) (gc gr : Nat) (L1 L2 : List (Int × Nat × Nat)) (ad : Option Addr) (n c : Nat) (l : List Nat) (i : Nat) (b : Bool) (t0 t1 t2 er : Int) (s' : Nat) (hL1 : Good L1) (hL2 : Good L2) (hl : ∀ x ∈ l, x < 256) (hn : n ≤ 1000000000000000000) (hS : St W w0 rs) (hp : Pull (srcR gc gr L1 L2 ad n c l i) rs rs') (hnx : tkNext L1 L2 l i b = ((t0, t1, t2), er, s')) :
 Calls Tryd.prog 130 #[.agg #[.pointer (some ⟨gc, 0, none⟩), .pointer (some ⟨gr, 0, none⟩)], .bool b] w0 fun e w => e = .returned (.tuple #[.agg #[.int .i64 t0, .int .i64 t1, .int .i64 t2], .int .i64 er]) ∧ St W w (srcR gc gr L1 L2 ad n c l s' :: rs') := by
 obtain ⟨⟨_, hi⟩, hS⟩ := (hS.pull hp).open
 obtain ⟨⟨p1, p2⟩, hS⟩ := (hS.pull .head).open
 replace hS : St W w0 (blk gc [.pointer (some ⟨p1, 0, none⟩), .pointer (some ⟨p2, 0, none⟩)] :: cod p1 L1 :: cod p2 L2 :: rdo gr ad n c i l :: rs') := hS
 clear hp
 have hln : l.length = n := rdo_len hS (.head) (.tail (.tail .head))
 obtain ⟨L, hL⟩ : ∃ L, (if b then L1 else L2) = L := ⟨_, rfl⟩
 obtain ⟨gb, hgb⟩ : ∃ x, (if b then p1 else p2) = x := ⟨_, rfl⟩
 have hGL : Good L := by rw [← hL]; cases b <;> assumption
 have HGB := hid hgb
 obtain ⟨r2, hS2, hC⟩ : ∃ r2, St W w0 (cod gb L :: r2 :: blk gc [.pointer (some ⟨p1, 0, none⟩), .pointer (some ⟨p2, 0, none⟩)] :: rdo gr ad n c i l :: rs') ∧ ∀ w i rs, i ≤ 8 * n → St W w (cod gb L :: r2 :: blk gc [.pointer (some ⟨p1, 0, none⟩), .pointer (some ⟨p2, 0, none⟩)] :: rdo gr ad n c i l :: rs) → St W w (srcR gc gr L1 L2 ad n c l i :: rs) := by
  have key : ∀ w i rs, i ≤ 8 * n → St W w (blk gc [.pointer (some ⟨p1, 0, none⟩), .pointer (some ⟨p2, 0, none⟩)] :: cod p1 L1 :: cod p2 L2 :: rdo gr ad n c i l :: rs) → St W w (srcR gc gr L1 L2 ad n c l i :: rs) := fun w i rs hi h => by
   refine St.close ⟨(), hi⟩ ?_
   refine St.close (p1, p2) ?_
   exact h
  cases b
  · obtain rfl : L2 = L := by simpa using hL
    obtain rfl : p2 = gb := by simpa using hgb
    exact ⟨cod p1 L1, hS.sub sb9, fun w i rs hi h => key w i rs hi (h.sub sb9)⟩
  · obtain rfl : L1 = L := by simpa using hL
    obtain rfl : p1 = gb := by simpa using hgb
    exact ⟨cod p2 L2, hS.sub sb9, fun w i rs hi h => key w i rs hi (h.sub sb9)⟩
 unfold tkNext at hnx
 rw [hL] at hnx
 obtain ⟨⟨sy, ge, gi⟩, hG⟩ : ∃ y, gtW L l i 16 0 = y := ⟨_, rfl⟩
 rw [hG] at hnx
 dsimp only at hnx
 have hsym : ge = 0 → 0 ≤ sy ∧ sy < 256 := fun h => by
  have h0 := gt_ok (L := L) l i 16 0 (by rw [hG]; exact h)
  obtain ⟨m, _, _, _, _, hm⟩ := h0
  rw [hG] at hm
  exact hGL.range _ hm
 clear hS hL hgb
 have hS := hS2
 have HC := hid hC
 have HG := hid hG
 have HLt := hid hl
 clear hS2 hC hG hl
 by_cases hge : ge = 0
 case neg =>
  rw [if_pos hge] at hnx
  obtain ⟨⟨rfl, rfl, rfl⟩, rfl, rfl⟩ : ((0 : Int) = t0 ∧ (0 : Int) = t1 ∧ (0 : Int) = t2) ∧ ge = er ∧ gi = s' := by simpa using hnx
  clear hnx hsym
  go_enter Tryd.func130, Tryd.ntmps130
  repeat' (first
   | ((with_reducible apply as9); (first | go_big_want | go_step); go_step) | ((with_reducible apply gs9 2); (refine wl9 ?_; apply wp_boxG (o := ⟨some 2, _, _, _, _, _⟩) hS 99 _ rfl _ rfl; clear hS; intro g2 w hS; refine put_move ?_; go_step)) | ((with_reducible apply gs9 4); (refine wl9 ?_; apply wp_alloc (o := ⟨some 4, _, _, _, _, _⟩) hS 69 rfl (.agg #[.int .i64 0, .int .i64 0, .int .i64 0]) [.int .i64 0, .int .i64 0, .int .i64 0] (fun w => Tryd.zeroValue69 w) rfl; clear hS; intro g4 w hS; refine put_move ?_; go_step)) | ((fail_if_success with_reducible apply ga9); go_step))
  refine drawn_lit [6] (fun w => St W w [blk g2 [.pointer (some ⟨gc, 0, none⟩), .pointer (some ⟨gr, 0, none⟩)]]) kr9 ?_
  replace hS := hS.drew
  focus
   (refine takeV 0 _ al9 kr9 kr9 kr9 hq9 (V.fieldAddr fo99_0 rfl nq9) rfl ?_)
   go_step
   apply takeS 1 al9 kr9 kr9 kr9 hq9 [3, 6, 7, 8, 9, 10, 11] kr9 (hS.sub sb9)
   case hfr => intro w hS; ((refine wl9 ?_; apply wp_load1 hS 72 _ rfl _ _ rfl (one_of rfl) _; (case hp => exact pl9); (case hc => rfl); refine put_move ?_; go_step)); refine wpList_nil ?_; exact ⟨rfl, rfl⟩
   case hd => rfl
   refine takeM 2 _ al9 kr9 kr9 kr9 hq9 rfl ?_
   go_step
   (refine takeV 4 _ al9 kr9 kr9 kr9 hq9 (V.fieldAddr fo99_1 rfl nq9) rfl ?_)
   go_step
   apply takeS 5 al9 kr9 kr9 kr9 hq9 [6, 7, 8, 9, 10, 11] kr9 (hS.sub sb9)
   case hfr => intro w hS; ((refine wl9 ?_; apply wp_load1 hS 96 _ rfl _ _ rfl (one_of rfl) _; (case hp => exact pl9); (case hc => rfl); refine put_move ?_; go_step)); refine wpList_nil ?_; exact ⟨rfl, rfl⟩
   case hd => rfl
   refine branch1 3 al9 rfl kr9 ?_
   refine wp_callF (f := 39) rfl Tryd.call39 (of_any W _ _ _ gc p1 p2 b hS pl9) ?_; rintro e w ⟨rfl, hE⟩; replace hS := hS.ext hE; clear hE; rw [HGB.out]; refine ⟨_, rfl, ?_⟩
   refine ⟨fun _ _ => hS.sub sb9, ?_⟩
   refine drawn_move ?_
   go_step
   refine branch1 6 al9 rfl kr9 ?_
   refine wp_callF (f := 131) rfl Tryd.call131 (codGet_own W _ _ _ _ gb gr n c i ad L l hS pl9 pl9 HLt.out hn hi) ?_; clear hS; rw [HG.out]; rintro e w ⟨rfl, hgi, hS⟩; dsimp only at hgi hS; refine ⟨_, rfl, ?_⟩
   refine ⟨fun h => absurd (by decide) h, ?_⟩
   refine drawn_move ?_
   go_step
   refine takeM 7 _ al9 kr9 kr9 kr9 hq9 rfl ?_
   go_step
   (refine takeV 8 _ al9 kr9 kr9 kr9 hq9 (V.extract rfl rfl) rfl ?_)
   go_step
   (refine takeV 9 _ al9 kr9 kr9 kr9 hq9 (V.extract rfl rfl) rfl ?_)
   go_step
   refine takeA 10 _ al9 kr9 kr9 kr9 hq9 rfl ?_
   go_step
   refine takeA 11 _ al9 kr9 kr9 kr9 hq9 rfl ?_
   go_step
   refine drawn_done kr9 ?_ _
  all_goals
   repeat' (first
    | ((first | (with_reducible apply mv9) | (with_reducible apply as9)); (first | go_big_want | go_step); go_step) | ((with_reducible apply gt9 _ (.binOp .neq 25 _ _ _)); (refine wvv9 (V.neq rfl rfl) ?_; go_step)) | ((with_reducible apply gs9 23); (refine wvv9 (V.build (vs := []) rfl (bl69_)) ?_; go_step)) | ((with_reducible apply gt9 _ (.store 69 _ _)); (refine wl9 ?_; apply wp_storeG hS 69 _ _ rfl _ rfl 3 (row_of rfl) _ _; (case hp => exact pl9); (case hy => rfl); (case hn => rfl); (case hn' => rfl); (case hv => rfl); (case hd => exact rfl); clear hS; intro w hS)) | ((fail_if_success with_reducible apply ga9); go_step))
   all_goals (try (have hF : False := (by omega); cases hF))
   refine ret_all (xs := [_, _]) rfl (.cons (OneRes.blk hS rfl (row_of (n := 3) rfl) pl9 rfl) (.cons (OneRes.tmp rfl) (.nil))) (by simp) rfl ?_
   exact ⟨rfl, HC.out _ _ _ hgi (hS.sub sb9)⟩
 subst hge
 have hsy := hsym rfl
 clear hsym
 rw [if_neg (by simp)] at hnx
 have HAnd := hid (and15 sy (by omega))
 obtain ⟨k, hk⟩ : ∃ k : Nat, tkWidth b sy = (k : Int) := ⟨(tkWidth b sy).toNat, by unfold tkWidth; split <;> omega⟩
 rw [hk] at hnx
 have HK := hid hk
 have hk256 : k < 256 := by unfold tkWidth at hk; split at hk <;> omega
 clear hk
 by_cases hbad : 12 < (k : Int) ∨ (b = false ∧ 11 < (k : Int))
 · rw [if_pos hbad] at hnx
   obtain ⟨⟨rfl, rfl, rfl⟩, rfl, rfl⟩ : ((0 : Int) = t0 ∧ (0 : Int) = t1 ∧ (0 : Int) = t2) ∧ (4 : Int) = er ∧ gi = s' := by simpa using hnx
   clear hnx
   go_enter Tryd.func130, Tryd.ntmps130
   repeat' (first
    | ((with_reducible apply as9); (first | go_big_want | go_step); go_step) | ((with_reducible apply gs9 2); (refine wl9 ?_; apply wp_boxG (o := ⟨some 2, _, _, _, _, _⟩) hS 99 _ rfl _ rfl; clear hS; intro g2 w hS; refine put_move ?_; go_step)) | ((with_reducible apply gs9 4); (refine wl9 ?_; apply wp_alloc (o := ⟨some 4, _, _, _, _, _⟩) hS 69 rfl (.agg #[.int .i64 0, .int .i64 0, .int .i64 0]) [.int .i64 0, .int .i64 0, .int .i64 0] (fun w => Tryd.zeroValue69 w) rfl; clear hS; intro g4 w hS; refine put_move ?_; go_step)) | ((fail_if_success with_reducible apply ga9); go_step))
   refine drawn_lit [6] (fun w => St W w [blk g2 [.pointer (some ⟨gc, 0, none⟩), .pointer (some ⟨gr, 0, none⟩)]]) kr9 ?_
   replace hS := hS.drew
   focus
    (refine takeV 0 _ al9 kr9 kr9 kr9 hq9 (V.fieldAddr fo99_0 rfl nq9) rfl ?_)
    go_step
    apply takeS 1 al9 kr9 kr9 kr9 hq9 [3, 6, 7, 8, 9, 10, 11] kr9 (hS.sub sb9)
    case hfr => intro w hS; ((refine wl9 ?_; apply wp_load1 hS 72 _ rfl _ _ rfl (one_of rfl) _; (case hp => exact pl9); (case hc => rfl); refine put_move ?_; go_step)); refine wpList_nil ?_; exact ⟨rfl, rfl⟩
    case hd => rfl
    refine takeM 2 _ al9 kr9 kr9 kr9 hq9 rfl ?_
    go_step
    (refine takeV 4 _ al9 kr9 kr9 kr9 hq9 (V.fieldAddr fo99_1 rfl nq9) rfl ?_)
    go_step
    apply takeS 5 al9 kr9 kr9 kr9 hq9 [6, 7, 8, 9, 10, 11] kr9 (hS.sub sb9)
    case hfr => intro w hS; ((refine wl9 ?_; apply wp_load1 hS 96 _ rfl _ _ rfl (one_of rfl) _; (case hp => exact pl9); (case hc => rfl); refine put_move ?_; go_step)); refine wpList_nil ?_; exact ⟨rfl, rfl⟩
    case hd => rfl
    refine branch1 3 al9 rfl kr9 ?_
    refine wp_callF (f := 39) rfl Tryd.call39 (of_any W _ _ _ gc p1 p2 b hS pl9) ?_; rintro e w ⟨rfl, hE⟩; replace hS := hS.ext hE; clear hE; rw [HGB.out]; refine ⟨_, rfl, ?_⟩
    refine ⟨fun _ _ => hS.sub sb9, ?_⟩
    refine drawn_move ?_
    go_step
    refine branch1 6 al9 rfl kr9 ?_
    refine wp_callF (f := 131) rfl Tryd.call131 (codGet_own W _ _ _ _ gb gr n c i ad L l hS pl9 pl9 HLt.out hn hi) ?_; clear hS; rw [HG.out]; rintro e w ⟨rfl, hgi, hS⟩; dsimp only at hgi hS; refine ⟨_, rfl, ?_⟩
    refine ⟨fun h => absurd (by decide) h, ?_⟩
    refine drawn_move ?_
    go_step
    refine takeM 7 _ al9 kr9 kr9 kr9 hq9 rfl ?_
    go_step
    (refine takeV 8 _ al9 kr9 kr9 kr9 hq9 (V.extract rfl rfl) rfl ?_)
    go_step
    (refine takeV 9 _ al9 kr9 kr9 kr9 hq9 (V.extract rfl rfl) rfl ?_)
    go_step
    refine takeA 10 _ al9 kr9 kr9 kr9 hq9 rfl ?_
    go_step
    refine takeA 11 _ al9 kr9 kr9 kr9 hq9 rfl ?_
    go_step
    refine drawn_done kr9 ?_ _
   all_goals
    cases b
    · have hk1 := hid (show sy % 16 = (k : Int) from HK.out)
      have hk2 : 11 < k := by rcases hbad with h | ⟨_, h⟩ <;> omega
      clear hbad
      repeat' (first
       | ((with_reducible apply mv9); (first | go_big_want | go_step); go_step) | ((with_reducible apply gt9 _ (.binOp .neq 25 _ _ _)); (refine wvv9 (V.neq rfl rfl) ?_; go_step)) | ((fail_if_success with_reducible apply ga9); go_step))
      all_goals (try (have hF : False := (by omega); cases hF))
      repeat' (first
       | ((with_reducible apply gs9 27); (refine wplV (.int _ (((k : Nat) : Int))) (V.as (V.and rfl rfl) (by rw [HAnd.out]; exact hk1.out)) rfl ?_; go_step)) | ((with_reducible apply mv9); (first | go_big_want | go_step); go_step) | ((with_reducible apply gs9 28); (refine wvv9 (V.build (vs := [(0, _), (1, _)]) rfl (bl69_0_1 _ _)) ?_; go_step)) | ((with_reducible apply gs9 8); (refine wl9 ?_; apply wp_alloc (o := ⟨some 8, _, _, _, _, _⟩) hS 69 rfl (.agg #[.int .i64 0, .int .i64 0, .int .i64 0]) [.int .i64 0, .int .i64 0, .int .i64 0] (fun w => Tryd.zeroValue69 w) rfl; clear hS; intro g8 w hS; refine put_move ?_; go_step)) | ((with_reducible apply gt9 _ (.store 69 _ _)); (refine wl9 ?_; apply wp_storeG hS 69 _ _ rfl _ rfl 3 (row_of rfl) _ _; (case hp => exact pl9); (case hy => rfl); (case hn => rfl); (case hn' => rfl); (case hv => rfl); (case hd => exact rfl); clear hS; intro w hS)) | ((fail_if_success with_reducible apply ga9); go_step))
      repeat' (first
       | go_skip | ((first | (with_reducible apply mv9) | (with_reducible apply as9)); (first | go_big_want | go_step); go_step) | ((with_reducible apply gt9 _ (.pick _ _ _)); first | (refine wplPickT rfl kr9 ?_; go_step) | (refine wplPickF rfl kr9 ?_; go_step)) | ((with_reducible apply gs9 34); (refine wplD _ (V.gtr rfl rfl) kr9 (fun hB => ?_) (fun hB => ?_) <;> (try (have hF : False := (by omega); cases hF)) <;> go_step)) | ((with_reducible apply gs9 37); (refine wplB _ (V.not rfl) kr9 (fun hB => ?_) (fun hB => ?_) <;> (try (have hF : False := (absurd hB (by decide)); cases hF)) <;> go_step)) | ((with_reducible apply gt9 _ (.fieldAddr 69 _ 1)); (refine wvv9 (V.fieldAddr fo69_1 rfl nq9) ?_; go_step)) | ((with_reducible apply gt9 _ (.binOp .gtr _ _ _ _)); (refine wvv9 (V.gtr rfl rfl) ?_; go_step)) | ((with_reducible apply gs9 44); (refine wvv9 (V.build (vs := []) rfl (bl69_)) ?_; go_step)) | ((with_reducible apply gt9 _ (.load 3 _)); (refine wl9 ?_; apply wp_load1 hS 3 _ rfl _ _ rfl (one_of rfl) _; (case hp => exact pl9); (case hc => rfl); refine put_move ?_; go_step)) | ((with_reducible apply gt9 _ (.store 69 _ _)); (refine wl9 ?_; apply wp_storeG hS 69 _ _ rfl _ rfl 3 (row_of rfl) _ _; (case hp => exact pl9); (case hy => rfl); (case hn => rfl); (case hn' => rfl); (case hv => rfl); (case hd => exact rfl); clear hS; intro w hS)) | ((fail_if_success with_reducible apply ga9); go_step))
      all_goals (try (have hF : False := (by omega); cases hF))
      all_goals
       refine ret_all (xs := [_, _]) rfl (.cons (OneRes.blk hS rfl (row_of (n := 3) rfl) pl9 rfl) (.cons (OneRes.tmp rfl) (.nil))) (by simp) rfl ?_
       exact ⟨rfl, HC.out _ _ _ hgi (hS.sub sb9)⟩
    · obtain rfl : sy = (k : Int) := HK.out
      have hk2 : 12 < k := by rcases hbad with h | ⟨h, _⟩ <;> first | omega | cases h
      clear hbad
      repeat' (first
       | ((with_reducible apply mv9); (first | go_big_want | go_step); go_step) | ((with_reducible apply gt9 _ (.binOp .neq 25 _ _ _)); (refine wvv9 (V.neq rfl rfl) ?_; go_step)) | ((fail_if_success with_reducible apply ga9); go_step))
      all_goals (try (have hF : False := (by omega); cases hF))
      repeat' (first
       | ((with_reducible apply gs9 27); (refine wplV (.int _ (((k : Int) % 16))) (V.as (V.and rfl rfl) (by exact HAnd.out)) rfl ?_; go_step)) | go_skip | ((first | (with_reducible apply mv9) | (with_reducible apply as9)); (first | go_big_want | go_step); go_step) | ((with_reducible apply gt9 _ (.pick _ _ _)); (refine wplPickT rfl kr9 ?_; go_step)) | ((with_reducible apply gs9 34); (refine wplD _ (V.gtr rfl rfl) kr9 (fun hB => ?_) (fun hB => ?_) <;> (try (have hF : False := (by omega); cases hF)) <;> go_step)) | ((with_reducible apply gs9 28); (refine wvv9 (V.build (vs := [(0, _), (1, _)]) rfl (bl69_0_1 _ _)) ?_; go_step)) | ((with_reducible apply gt9 _ (.fieldAddr 69 _ 1)); (refine wvv9 (V.fieldAddr fo69_1 rfl nq9) ?_; go_step)) | ((with_reducible apply gs9 44); (refine wvv9 (V.build (vs := []) rfl (bl69_)) ?_; go_step)) | ((with_reducible apply gs9 8); (refine wl9 ?_; apply wp_alloc (o := ⟨some 8, _, _, _, _, _⟩) hS 69 rfl (.agg #[.int .i64 0, .int .i64 0, .int .i64 0]) [.int .i64 0, .int .i64 0, .int .i64 0] (fun w => Tryd.zeroValue69 w) rfl; clear hS; intro g8 w hS; refine put_move ?_; go_step)) | ((with_reducible apply gt9 _ (.store 69 _ _)); (refine wl9 ?_; apply wp_storeG hS 69 _ _ rfl _ rfl 3 (row_of rfl) _ _; (case hp => exact pl9); (case hy => rfl); (case hn => rfl); (case hn' => rfl); (case hv => rfl); (case hd => exact rfl); clear hS; intro w hS)) | ((with_reducible apply gt9 _ (.store 3 _ _)); (refine wl9 ?_; apply wp_store1 hS 3 _ _ rfl _ _ rfl (one_of rfl) _ _; (case hp => exact pl9); (case hy => exact isv9); (case hv => rfl); (case hc => (repeat (first | with_reducible exact SetAt.head | apply SetAt.tail))); (case hd => exact rfl); clear hS; intro w hS)) | ((with_reducible apply gt9 _ (.load 3 _)); (refine wl9 ?_; apply wp_load1 hS 3 _ rfl _ _ rfl (one_of rfl) _; (case hp => exact pl9); (case hc => rfl); refine put_move ?_; go_step)) | ((fail_if_success with_reducible apply ga9); go_step))
      all_goals (try (have hF : False := (by omega); cases hF))
      all_goals
       refine ret_all (xs := [_, _]) rfl (.cons (OneRes.blk hS rfl (row_of (n := 3) rfl) pl9 rfl) (.cons (OneRes.tmp rfl) (.nil))) (by simp) rfl ?_
       exact ⟨rfl, HC.out _ _ _ hgi (hS.sub sb9)⟩
 rw [if_neg hbad, hln, Int.toNat_natCast] at hnx
 have hkb : k ≤ 12 ∧ (b = false → k ≤ 11) := by
  refine ⟨by omega, fun h => ?_⟩
  rcases Nat.lt_or_ge 11 k with h1 | h1
  · exact absurd (.inr ⟨h, by omega⟩) hbad
  · exact h1
 by_cases hsh : 8 * n < gi + k
 · rw [if_pos hsh] at hnx
   obtain ⟨⟨rfl, rfl, rfl⟩, rfl, rfl⟩ : ((0 : Int) = t0 ∧ (0 : Int) = t1 ∧ (0 : Int) = t2) ∧ (3 : Int) = er ∧ gi = s' := by simpa using hnx
   clear hnx hbad
   go_enter Tryd.func130, Tryd.ntmps130
   repeat' (first
    | ((with_reducible apply as9); (first | go_big_want | go_step); go_step) | ((with_reducible apply gs9 2); (refine wl9 ?_; apply wp_boxG (o := ⟨some 2, _, _, _, _, _⟩) hS 99 _ rfl _ rfl; clear hS; intro g2 w hS; refine put_move ?_; go_step)) | ((with_reducible apply gs9 4); (refine wl9 ?_; apply wp_alloc (o := ⟨some 4, _, _, _, _, _⟩) hS 69 rfl (.agg #[.int .i64 0, .int .i64 0, .int .i64 0]) [.int .i64 0, .int .i64 0, .int .i64 0] (fun w => Tryd.zeroValue69 w) rfl; clear hS; intro g4 w hS; refine put_move ?_; go_step)) | ((fail_if_success with_reducible apply ga9); go_step))
   refine drawn_lit [6] (fun w => St W w [blk g2 [.pointer (some ⟨gc, 0, none⟩), .pointer (some ⟨gr, 0, none⟩)]]) kr9 ?_
   replace hS := hS.drew
   focus
    (refine takeV 0 _ al9 kr9 kr9 kr9 hq9 (V.fieldAddr fo99_0 rfl nq9) rfl ?_)
    go_step
    apply takeS 1 al9 kr9 kr9 kr9 hq9 [3, 6, 7, 8, 9, 10, 11] kr9 (hS.sub sb9)
    case hfr => intro w hS; ((refine wl9 ?_; apply wp_load1 hS 72 _ rfl _ _ rfl (one_of rfl) _; (case hp => exact pl9); (case hc => rfl); refine put_move ?_; go_step)); refine wpList_nil ?_; exact ⟨rfl, rfl⟩
    case hd => rfl
    refine takeM 2 _ al9 kr9 kr9 kr9 hq9 rfl ?_
    go_step
    (refine takeV 4 _ al9 kr9 kr9 kr9 hq9 (V.fieldAddr fo99_1 rfl nq9) rfl ?_)
    go_step
    apply takeS 5 al9 kr9 kr9 kr9 hq9 [6, 7, 8, 9, 10, 11] kr9 (hS.sub sb9)
    case hfr => intro w hS; ((refine wl9 ?_; apply wp_load1 hS 96 _ rfl _ _ rfl (one_of rfl) _; (case hp => exact pl9); (case hc => rfl); refine put_move ?_; go_step)); refine wpList_nil ?_; exact ⟨rfl, rfl⟩
    case hd => rfl
    refine branch1 3 al9 rfl kr9 ?_
    refine wp_callF (f := 39) rfl Tryd.call39 (of_any W _ _ _ gc p1 p2 b hS pl9) ?_; rintro e w ⟨rfl, hE⟩; replace hS := hS.ext hE; clear hE; rw [HGB.out]; refine ⟨_, rfl, ?_⟩
    refine ⟨fun _ _ => hS.sub sb9, ?_⟩
    refine drawn_move ?_
    go_step
    refine branch1 6 al9 rfl kr9 ?_
    refine wp_callF (f := 131) rfl Tryd.call131 (codGet_own W _ _ _ _ gb gr n c i ad L l hS pl9 pl9 HLt.out hn hi) ?_; clear hS; rw [HG.out]; rintro e w ⟨rfl, hgi, hS⟩; dsimp only at hgi hS; refine ⟨_, rfl, ?_⟩
    refine ⟨fun h => absurd (by decide) h, ?_⟩
    refine drawn_move ?_
    go_step
    refine takeM 7 _ al9 kr9 kr9 kr9 hq9 rfl ?_
    go_step
    (refine takeV 8 _ al9 kr9 kr9 kr9 hq9 (V.extract rfl rfl) rfl ?_)
    go_step
    (refine takeV 9 _ al9 kr9 kr9 kr9 hq9 (V.extract rfl rfl) rfl ?_)
    go_step
    refine takeA 10 _ al9 kr9 kr9 kr9 hq9 rfl ?_
    go_step
    refine takeA 11 _ al9 kr9 kr9 kr9 hq9 rfl ?_
    go_step
    refine drawn_done kr9 ?_ _
   all_goals
    cases b
    · have hk1 := hid (show sy % 16 = (k : Int) from HK.out)
      have hk2 := hkb.2 rfl
      clear hkb
      repeat' (first
       | ((with_reducible apply mv9); (first | go_big_want | go_step); go_step) | ((with_reducible apply gt9 _ (.binOp .neq 25 _ _ _)); (refine wvv9 (V.neq rfl rfl) ?_; go_step)) | ((fail_if_success with_reducible apply ga9); go_step))
      all_goals (try (have hF : False := (by omega); cases hF))
      repeat' (first
       | ((with_reducible apply gs9 27); (refine wplV (.int _ (((k : Nat) : Int))) (V.as (V.and rfl rfl) (by rw [HAnd.out]; exact hk1.out)) rfl ?_; go_step)) | ((with_reducible apply mv9); (first | go_big_want | go_step); go_step) | ((with_reducible apply gs9 28); (refine wvv9 (V.build (vs := [(0, _), (1, _)]) rfl (bl69_0_1 _ _)) ?_; go_step)) | ((with_reducible apply gs9 8); (refine wl9 ?_; apply wp_alloc (o := ⟨some 8, _, _, _, _, _⟩) hS 69 rfl (.agg #[.int .i64 0, .int .i64 0, .int .i64 0]) [.int .i64 0, .int .i64 0, .int .i64 0] (fun w => Tryd.zeroValue69 w) rfl; clear hS; intro g8 w hS; refine put_move ?_; go_step)) | ((with_reducible apply gt9 _ (.store 69 _ _)); (refine wl9 ?_; apply wp_storeG hS 69 _ _ rfl _ rfl 3 (row_of rfl) _ _; (case hp => exact pl9); (case hy => rfl); (case hn => rfl); (case hn' => rfl); (case hv => rfl); (case hd => exact rfl); clear hS; intro w hS)) | ((fail_if_success with_reducible apply ga9); go_step))
      repeat' (first
       | ((with_reducible apply mv9); (first | go_big_want | go_step); go_step) | ((with_reducible apply gt9 _ (.pick _ _ _)); first | (refine wplPickT rfl kr9 ?_; go_step) | (refine wplPickF rfl kr9 ?_; go_step)) | ((with_reducible apply gs9 34); (refine wplD _ (V.gtr rfl rfl) kr9 (fun hB => ?_) (fun hB => ?_) <;> (try (have hF : False := (by omega); cases hF)) <;> go_step)) | ((with_reducible apply gs9 37); (refine wplB _ (V.not rfl) kr9 (fun hB => ?_) (fun hB => ?_) <;> (try (have hF : False := (absurd hB (by decide)); cases hF)) <;> go_step)) | ((with_reducible apply gt9 _ (.fieldAddr 69 _ 1)); (refine wvv9 (V.fieldAddr fo69_1 rfl nq9) ?_; go_step)) | ((with_reducible apply gt9 _ (.binOp .gtr _ _ _ _)); (refine wvv9 (V.gtr rfl rfl) ?_; go_step)) | ((with_reducible apply gt9 _ (.load 3 _)); (refine wl9 ?_; apply wp_load1 hS 3 _ rfl _ _ rfl (one_of rfl) _; (case hp => exact pl9); (case hc => rfl); refine put_move ?_; go_step)) | ((fail_if_success with_reducible apply ga9); go_step))
      all_goals (try (have hF : False := (by omega); cases hF))
      repeat' (first
       | ((with_reducible apply gs9 50); refine wpl_call (f := 51) Tryd.call51 kr9 ?_; refine ⟨_, (get_own W _ _ _ gr n c gi k ad l hS pl9 HLt.out hn hgi (by omega)), ?_⟩; rintro e w ⟨hq, _⟩; obtain ⟨rfl, hS2⟩ := hq hsh; clear hq hS; have hS := hS2; clear hS2; refine ⟨_, rfl, ?_⟩; refine put_move ?_; go_step) | ((first | (with_reducible apply mv9) | (with_reducible apply as9)); (first | go_big_want | go_step); go_step) | ((with_reducible apply gt9 _ (.fieldAddr 99 _ 1)); (refine wvv9 (V.fieldAddr fo99_1 rfl nq9) ?_; go_step)) | ((with_reducible apply gt9 _ (.fieldAddr 69 _ 1)); (refine wvv9 (V.fieldAddr fo69_1 rfl nq9) ?_; go_step)) | ((with_reducible apply gt9 _ (.extract _ _)); (refine wvv9 (V.extract rfl rfl) ?_; go_step)) | ((with_reducible apply gt9 _ (.unOp .not _ _)); (refine wvv9 (V.not rfl) ?_; go_step)) | ((with_reducible apply gs9 55); (refine wvv9 (V.build (vs := []) rfl (bl69_)) ?_; go_step)) | ((with_reducible apply gt9 _ (.load 96 _)); (refine wl9 ?_; apply wp_load1 hS 96 _ rfl _ _ rfl (one_of rfl) _; (case hp => exact pl9); (case hc => rfl); refine put_move ?_; go_step)) | ((with_reducible apply gt9 _ (.load 3 _)); (refine wl9 ?_; apply wp_load1 hS 3 _ rfl _ _ rfl (one_of rfl) _; (case hp => exact pl9); (case hc => rfl); refine put_move ?_; go_step)) | ((with_reducible apply gt9 _ (.store 69 _ _)); (refine wl9 ?_; apply wp_storeG hS 69 _ _ rfl _ rfl 3 (row_of rfl) _ _; (case hp => exact pl9); (case hy => rfl); (case hn => rfl); (case hn' => rfl); (case hv => rfl); (case hd => exact rfl); clear hS; intro w hS)) | ((fail_if_success with_reducible apply ga9); go_step))
      refine ret_all (xs := [_, _]) rfl (.cons (OneRes.blk hS rfl (row_of (n := 3) rfl) pl9 rfl) (.cons (OneRes.tmp rfl) (.nil))) (by simp) rfl ?_
      exact ⟨rfl, HC.out _ _ _ hgi (hS.sub sb9)⟩
    · obtain rfl : sy = (k : Int) := HK.out
      have hk2 := hkb.1
      clear hkb
      repeat' (first
       | ((with_reducible apply mv9); (first | go_big_want | go_step); go_step) | ((with_reducible apply gt9 _ (.binOp .neq 25 _ _ _)); (refine wvv9 (V.neq rfl rfl) ?_; go_step)) | ((fail_if_success with_reducible apply ga9); go_step))
      all_goals (try (have hF : False := (by omega); cases hF))
      repeat' (first
       | ((with_reducible apply gs9 27); (refine wplV (.int _ (((k : Int) % 16))) (V.as (V.and rfl rfl) (by exact HAnd.out)) rfl ?_; go_step)) | go_skip | ((with_reducible apply mv9); (first | go_big_want | go_step); go_step) | ((with_reducible apply gt9 _ (.pick _ _ _)); (refine wplPickF rfl kr9 ?_; go_step)) | ((with_reducible apply gs9 34); (refine wplD _ (V.gtr rfl rfl) kr9 (fun hB => ?_) (fun hB => ?_) <;> (try (have hF : False := (by omega); cases hF)) <;> go_step)) | ((with_reducible apply gs9 37); (refine wplB _ (V.not rfl) kr9 (fun hB => ?_) (fun hB => ?_) <;> (try (have hF : False := (absurd hB (by decide)); cases hF)) <;> go_step)) | ((with_reducible apply gs9 28); (refine wvv9 (V.build (vs := [(0, _), (1, _)]) rfl (bl69_0_1 _ _)) ?_; go_step)) | ((with_reducible apply gt9 _ (.fieldAddr 69 _ 1)); (refine wvv9 (V.fieldAddr fo69_1 rfl nq9) ?_; go_step)) | ((with_reducible apply gs9 8); (refine wl9 ?_; apply wp_alloc (o := ⟨some 8, _, _, _, _, _⟩) hS 69 rfl (.agg #[.int .i64 0, .int .i64 0, .int .i64 0]) [.int .i64 0, .int .i64 0, .int .i64 0] (fun w => Tryd.zeroValue69 w) rfl; clear hS; intro g8 w hS; refine put_move ?_; go_step)) | ((with_reducible apply gt9 _ (.store 69 _ _)); (refine wl9 ?_; apply wp_storeG hS 69 _ _ rfl _ rfl 3 (row_of rfl) _ _; (case hp => exact pl9); (case hy => rfl); (case hn => rfl); (case hn' => rfl); (case hv => rfl); (case hd => exact rfl); clear hS; intro w hS)) | ((with_reducible apply gt9 _ (.store 3 _ _)); (refine wl9 ?_; apply wp_store1 hS 3 _ _ rfl _ _ rfl (one_of rfl) _ _; (case hp => exact pl9); (case hy => exact isv9); (case hv => rfl); (case hc => (repeat (first | with_reducible exact SetAt.head | apply SetAt.tail))); (case hd => exact rfl); clear hS; intro w hS)) | ((with_reducible apply gt9 _ (.load 3 _)); (refine wl9 ?_; apply wp_load1 hS 3 _ rfl _ _ rfl (one_of rfl) _; (case hp => exact pl9); (case hc => rfl); refine put_move ?_; go_step)) | ((fail_if_success with_reducible apply ga9); go_step))
      all_goals (try (have hF : False := (by omega); cases hF))
      repeat' (first
       | ((with_reducible apply gs9 50); refine wpl_call (f := 51) Tryd.call51 kr9 ?_; refine ⟨_, (get_own W _ _ _ gr n c gi k ad l hS pl9 HLt.out hn hgi (by omega)), ?_⟩; rintro e w ⟨hq, _⟩; obtain ⟨rfl, hS2⟩ := hq hsh; clear hq hS; have hS := hS2; clear hS2; refine ⟨_, rfl, ?_⟩; refine put_move ?_; go_step) | ((first | (with_reducible apply mv9) | (with_reducible apply as9)); (first | go_big_want | go_step); go_step) | ((with_reducible apply gt9 _ (.fieldAddr 99 _ 1)); (refine wvv9 (V.fieldAddr fo99_1 rfl nq9) ?_; go_step)) | ((with_reducible apply gt9 _ (.fieldAddr 69 _ 1)); (refine wvv9 (V.fieldAddr fo69_1 rfl nq9) ?_; go_step)) | ((with_reducible apply gt9 _ (.extract _ _)); (refine wvv9 (V.extract rfl rfl) ?_; go_step)) | ((with_reducible apply gt9 _ (.unOp .not _ _)); (refine wvv9 (V.not rfl) ?_; go_step)) | ((with_reducible apply gs9 55); (refine wvv9 (V.build (vs := []) rfl (bl69_)) ?_; go_step)) | ((with_reducible apply gt9 _ (.load 96 _)); (refine wl9 ?_; apply wp_load1 hS 96 _ rfl _ _ rfl (one_of rfl) _; (case hp => exact pl9); (case hc => rfl); refine put_move ?_; go_step)) | ((with_reducible apply gt9 _ (.load 3 _)); (refine wl9 ?_; apply wp_load1 hS 3 _ rfl _ _ rfl (one_of rfl) _; (case hp => exact pl9); (case hc => rfl); refine put_move ?_; go_step)) | ((with_reducible apply gt9 _ (.store 69 _ _)); (refine wl9 ?_; apply wp_storeG hS 69 _ _ rfl _ rfl 3 (row_of rfl) _ _; (case hp => exact pl9); (case hy => rfl); (case hn => rfl); (case hn' => rfl); (case hv => rfl); (case hd => exact rfl); clear hS; intro w hS)) | ((fail_if_success with_reducible apply ga9); go_step))
      refine ret_all (xs := [_, _]) rfl (.cons (OneRes.blk hS rfl (row_of (n := 3) rfl) pl9 rfl) (.cons (OneRes.tmp rfl) (.nil))) (by simp) rfl ?_
      exact ⟨rfl, HC.out _ _ _ hgi (hS.sub sb9)⟩
 rw [if_neg hsh] at hnx
 obtain ⟨⟨rfl, rfl, rfl⟩, rfl, rfl⟩ : (sy = t0 ∧ (k : Int) = t1 ∧ ((numAt l gi k : Nat) : Int) = t2) ∧ (0 : Int) = er ∧ gi + k = s' := by simpa using hnx
 clear hnx hbad
 go_enter Tryd.func130, Tryd.ntmps130
 repeat' (first
  | ((with_reducible apply as9); (first | go_big_want | go_step); go_step) | ((with_reducible apply gs9 2); (refine wl9 ?_; apply wp_boxG (o := ⟨some 2, _, _, _, _, _⟩) hS 99 _ rfl _ rfl; clear hS; intro g2 w hS; refine put_move ?_; go_step)) | ((with_reducible apply gs9 4); (refine wl9 ?_; apply wp_alloc (o := ⟨some 4, _, _, _, _, _⟩) hS 69 rfl (.agg #[.int .i64 0, .int .i64 0, .int .i64 0]) [.int .i64 0, .int .i64 0, .int .i64 0] (fun w => Tryd.zeroValue69 w) rfl; clear hS; intro g4 w hS; refine put_move ?_; go_step)) | ((fail_if_success with_reducible apply ga9); go_step))
 refine drawn_lit [6] (fun w => St W w [blk g2 [.pointer (some ⟨gc, 0, none⟩), .pointer (some ⟨gr, 0, none⟩)]]) kr9 ?_
 replace hS := hS.drew
 focus
  (refine takeV 0 _ al9 kr9 kr9 kr9 hq9 (V.fieldAddr fo99_0 rfl nq9) rfl ?_)
  go_step
  apply takeS 1 al9 kr9 kr9 kr9 hq9 [3, 6, 7, 8, 9, 10, 11] kr9 (hS.sub sb9)
  case hfr => intro w hS; ((refine wl9 ?_; apply wp_load1 hS 72 _ rfl _ _ rfl (one_of rfl) _; (case hp => exact pl9); (case hc => rfl); refine put_move ?_; go_step)); refine wpList_nil ?_; exact ⟨rfl, rfl⟩
  case hd => rfl
  refine takeM 2 _ al9 kr9 kr9 kr9 hq9 rfl ?_
  go_step
  (refine takeV 4 _ al9 kr9 kr9 kr9 hq9 (V.fieldAddr fo99_1 rfl nq9) rfl ?_)
  go_step
  apply takeS 5 al9 kr9 kr9 kr9 hq9 [6, 7, 8, 9, 10, 11] kr9 (hS.sub sb9)
  case hfr => intro w hS; ((refine wl9 ?_; apply wp_load1 hS 96 _ rfl _ _ rfl (one_of rfl) _; (case hp => exact pl9); (case hc => rfl); refine put_move ?_; go_step)); refine wpList_nil ?_; exact ⟨rfl, rfl⟩
  case hd => rfl
  refine branch1 3 al9 rfl kr9 ?_
  refine wp_callF (f := 39) rfl Tryd.call39 (of_any W _ _ _ gc p1 p2 b hS pl9) ?_; rintro e w ⟨rfl, hE⟩; replace hS := hS.ext hE; clear hE; rw [HGB.out]; refine ⟨_, rfl, ?_⟩
  refine ⟨fun _ _ => hS.sub sb9, ?_⟩
  refine drawn_move ?_
  go_step
  refine branch1 6 al9 rfl kr9 ?_
  refine wp_callF (f := 131) rfl Tryd.call131 (codGet_own W _ _ _ _ gb gr n c i ad L l hS pl9 pl9 HLt.out hn hi) ?_; clear hS; rw [HG.out]; rintro e w ⟨rfl, hgi, hS⟩; dsimp only at hgi hS; refine ⟨_, rfl, ?_⟩
  refine ⟨fun h => absurd (by decide) h, ?_⟩
  refine drawn_move ?_
  go_step
  refine takeM 7 _ al9 kr9 kr9 kr9 hq9 rfl ?_
  go_step
  (refine takeV 8 _ al9 kr9 kr9 kr9 hq9 (V.extract rfl rfl) rfl ?_)
  go_step
  (refine takeV 9 _ al9 kr9 kr9 kr9 hq9 (V.extract rfl rfl) rfl ?_)
  go_step
  refine takeA 10 _ al9 kr9 kr9 kr9 hq9 rfl ?_
  go_step
  refine takeA 11 _ al9 kr9 kr9 kr9 hq9 rfl ?_
  go_step
  refine drawn_done kr9 ?_ _
 all_goals
  cases b
  · have hk1 := hid (show sy % 16 = (k : Int) from HK.out)
    have hk2 := hkb.2 rfl
    clear hkb
    repeat' (first
     | ((with_reducible apply mv9); (first | go_big_want | go_step); go_step) | ((with_reducible apply gt9 _ (.binOp .neq 25 _ _ _)); (refine wvv9 (V.neq rfl rfl) ?_; go_step)) | ((fail_if_success with_reducible apply ga9); go_step))
    all_goals (try (have hF : False := (by omega); cases hF))
    repeat' (first
     | ((with_reducible apply gs9 27); (refine wplV (.int _ (((k : Nat) : Int))) (V.as (V.and rfl rfl) (by rw [HAnd.out]; exact hk1.out)) rfl ?_; go_step)) | ((with_reducible apply mv9); (first | go_big_want | go_step); go_step) | ((with_reducible apply gs9 28); (refine wvv9 (V.build (vs := [(0, _), (1, _)]) rfl (bl69_0_1 _ _)) ?_; go_step)) | ((with_reducible apply gs9 8); (refine wl9 ?_; apply wp_alloc (o := ⟨some 8, _, _, _, _, _⟩) hS 69 rfl (.agg #[.int .i64 0, .int .i64 0, .int .i64 0]) [.int .i64 0, .int .i64 0, .int .i64 0] (fun w => Tryd.zeroValue69 w) rfl; clear hS; intro g8 w hS; refine put_move ?_; go_step)) | ((with_reducible apply gt9 _ (.store 69 _ _)); (refine wl9 ?_; apply wp_storeG hS 69 _ _ rfl _ rfl 3 (row_of rfl) _ _; (case hp => exact pl9); (case hy => rfl); (case hn => rfl); (case hn' => rfl); (case hv => rfl); (case hd => exact rfl); clear hS; intro w hS)) | ((fail_if_success with_reducible apply ga9); go_step))
    repeat' (first
     | ((with_reducible apply mv9); (first | go_big_want | go_step); go_step) | ((with_reducible apply gt9 _ (.pick _ _ _)); first | (refine wplPickT rfl kr9 ?_; go_step) | (refine wplPickF rfl kr9 ?_; go_step)) | ((with_reducible apply gs9 34); (refine wplD _ (V.gtr rfl rfl) kr9 (fun hB => ?_) (fun hB => ?_) <;> (try (have hF : False := (by omega); cases hF)) <;> go_step)) | ((with_reducible apply gs9 37); (refine wplB _ (V.not rfl) kr9 (fun hB => ?_) (fun hB => ?_) <;> (try (have hF : False := (absurd hB (by decide)); cases hF)) <;> go_step)) | ((with_reducible apply gt9 _ (.fieldAddr 69 _ 1)); (refine wvv9 (V.fieldAddr fo69_1 rfl nq9) ?_; go_step)) | ((with_reducible apply gt9 _ (.binOp .gtr _ _ _ _)); (refine wvv9 (V.gtr rfl rfl) ?_; go_step)) | ((with_reducible apply gt9 _ (.load 3 _)); (refine wl9 ?_; apply wp_load1 hS 3 _ rfl _ _ rfl (one_of rfl) _; (case hp => exact pl9); (case hc => rfl); refine put_move ?_; go_step)) | ((fail_if_success with_reducible apply ga9); go_step))
    all_goals (try (have hF : False := (by omega); cases hF))
    repeat' (first
     | ((with_reducible apply gs9 50); refine wpl_call (f := 51) Tryd.call51 kr9 ?_; refine ⟨_, (get_own W _ _ _ gr n c gi k ad l hS pl9 HLt.out hn hgi (by omega)), ?_⟩; rintro e w ⟨_, hq⟩; obtain ⟨rfl, hS2⟩ := hq (by omega); clear hq hS; have hS := hS2; clear hS2; refine ⟨_, rfl, ?_⟩; refine put_move ?_; go_step) | ((first | (with_reducible apply mv9) | (with_reducible apply as9)); (first | go_big_want | go_step); go_step) | ((with_reducible apply gt9 _ (.fieldAddr 99 _ 1)); (refine wvv9 (V.fieldAddr fo99_1 rfl nq9) ?_; go_step)) | ((with_reducible apply gt9 _ (.fieldAddr 69 _ 1)); (refine wvv9 (V.fieldAddr fo69_1 rfl nq9) ?_; go_step)) | ((with_reducible apply gt9 _ (.extract _ _)); (refine wvv9 (V.extract rfl rfl) ?_; go_step)) | ((with_reducible apply gt9 _ (.unOp .not _ _)); (refine wvv9 (V.not rfl) ?_; go_step)) | ((with_reducible apply gt9 _ (.load 96 _)); (refine wl9 ?_; apply wp_load1 hS 96 _ rfl _ _ rfl (one_of rfl) _; (case hp => exact pl9); (case hc => rfl); refine put_move ?_; go_step)) | ((with_reducible apply gt9 _ (.load 3 _)); (refine wl9 ?_; apply wp_load1 hS 3 _ rfl _ _ rfl (one_of rfl) _; (case hp => exact pl9); (case hc => rfl); refine put_move ?_; go_step)) | ((fail_if_success with_reducible apply ga9); go_step))
    all_goals (try (have hF : False := (by omega); cases hF))
    repeat' (first
     | ((with_reducible apply as9); (first | go_big_want | go_step); go_step) | ((with_reducible apply gt9 _ (.fieldAddr 69 _ 2)); (refine wvv9 (V.fieldAddr fo69_2 rfl nq9) ?_; go_step)) | ((with_reducible apply gt9 _ (.store 3 _ _)); (refine wl9 ?_; apply wp_store1 hS 3 _ _ rfl _ _ rfl (one_of rfl) _ _; (case hp => exact pl9); (case hy => exact isv9); (case hv => rfl); (case hc => (repeat (first | with_reducible exact SetAt.head | apply SetAt.tail))); (case hd => exact rfl); clear hS; intro w hS)) | ((with_reducible apply gt9 _ (.load 69 _)); (refine wl9 ?_; apply wp_loadG hS 69 _ rfl _ rfl 3 (row_of rfl) _; (case hp => exact pl9); (case hn => rfl); refine put_move ?_; go_step)) | ((with_reducible apply gt9 _ (.store 69 _ _)); (refine wl9 ?_; apply wp_storeG hS 69 _ _ rfl _ rfl 3 (row_of rfl) _ _; (case hp => exact pl9); (case hy => rfl); (case hn => rfl); (case hn' => rfl); (case hv => rfl); (case hd => exact rfl); clear hS; intro w hS)) | ((fail_if_success with_reducible apply ga9); go_step))
    refine ret_all (xs := [_, _]) rfl (.cons (OneRes.blk hS rfl (row_of (n := 3) rfl) pl9 rfl) (.cons (OneRes.tmp rfl) (.nil))) (by simp) rfl ?_
    exact ⟨rfl, HC.out _ _ _ (by omega) (hS.sub sb9)⟩
  · obtain rfl : sy = (k : Int) := HK.out
    have hk2 := hkb.1
    clear hkb
    repeat' (first
     | ((with_reducible apply mv9); (first | go_big_want | go_step); go_step) | ((with_reducible apply gt9 _ (.binOp .neq 25 _ _ _)); (refine wvv9 (V.neq rfl rfl) ?_; go_step)) | ((fail_if_success with_reducible apply ga9); go_step))
    all_goals (try (have hF : False := (by omega); cases hF))
    repeat' (first
     | ((with_reducible apply gs9 27); (refine wplV (.int _ (((k : Int) % 16))) (V.as (V.and rfl rfl) (by exact HAnd.out)) rfl ?_; go_step)) | go_skip | ((with_reducible apply mv9); (first | go_big_want | go_step); go_step) | ((with_reducible apply gt9 _ (.pick _ _ _)); (refine wplPickF rfl kr9 ?_; go_step)) | ((with_reducible apply gs9 34); (refine wplD _ (V.gtr rfl rfl) kr9 (fun hB => ?_) (fun hB => ?_) <;> (try (have hF : False := (by omega); cases hF)) <;> go_step)) | ((with_reducible apply gs9 37); (refine wplB _ (V.not rfl) kr9 (fun hB => ?_) (fun hB => ?_) <;> (try (have hF : False := (absurd hB (by decide)); cases hF)) <;> go_step)) | ((with_reducible apply gs9 28); (refine wvv9 (V.build (vs := [(0, _), (1, _)]) rfl (bl69_0_1 _ _)) ?_; go_step)) | ((with_reducible apply gt9 _ (.fieldAddr 69 _ 1)); (refine wvv9 (V.fieldAddr fo69_1 rfl nq9) ?_; go_step)) | ((with_reducible apply gs9 8); (refine wl9 ?_; apply wp_alloc (o := ⟨some 8, _, _, _, _, _⟩) hS 69 rfl (.agg #[.int .i64 0, .int .i64 0, .int .i64 0]) [.int .i64 0, .int .i64 0, .int .i64 0] (fun w => Tryd.zeroValue69 w) rfl; clear hS; intro g8 w hS; refine put_move ?_; go_step)) | ((with_reducible apply gt9 _ (.store 69 _ _)); (refine wl9 ?_; apply wp_storeG hS 69 _ _ rfl _ rfl 3 (row_of rfl) _ _; (case hp => exact pl9); (case hy => rfl); (case hn => rfl); (case hn' => rfl); (case hv => rfl); (case hd => exact rfl); clear hS; intro w hS)) | ((with_reducible apply gt9 _ (.store 3 _ _)); (refine wl9 ?_; apply wp_store1 hS 3 _ _ rfl _ _ rfl (one_of rfl) _ _; (case hp => exact pl9); (case hy => exact isv9); (case hv => rfl); (case hc => (repeat (first | with_reducible exact SetAt.head | apply SetAt.tail))); (case hd => exact rfl); clear hS; intro w hS)) | ((with_reducible apply gt9 _ (.load 3 _)); (refine wl9 ?_; apply wp_load1 hS 3 _ rfl _ _ rfl (one_of rfl) _; (case hp => exact pl9); (case hc => rfl); refine put_move ?_; go_step)) | ((fail_if_success with_reducible apply ga9); go_step))
    all_goals (try (have hF : False := (by omega); cases hF))
    repeat' (first
     | ((with_reducible apply gs9 50); refine wpl_call (f := 51) Tryd.call51 kr9 ?_; refine ⟨_, (get_own W _ _ _ gr n c gi k ad l hS pl9 HLt.out hn hgi (by omega)), ?_⟩; rintro e w ⟨_, hq⟩; obtain ⟨rfl, hS2⟩ := hq (by omega); clear hq hS; have hS := hS2; clear hS2; refine ⟨_, rfl, ?_⟩; refine put_move ?_; go_step) | ((first | (with_reducible apply mv9) | (with_reducible apply as9)); (first | go_big_want | go_step); go_step) | ((with_reducible apply gt9 _ (.fieldAddr 99 _ 1)); (refine wvv9 (V.fieldAddr fo99_1 rfl nq9) ?_; go_step)) | ((with_reducible apply gt9 _ (.fieldAddr 69 _ 1)); (refine wvv9 (V.fieldAddr fo69_1 rfl nq9) ?_; go_step)) | ((with_reducible apply gt9 _ (.extract _ _)); (refine wvv9 (V.extract rfl rfl) ?_; go_step)) | ((with_reducible apply gt9 _ (.unOp .not _ _)); (refine wvv9 (V.not rfl) ?_; go_step)) | ((with_reducible apply gt9 _ (.load 96 _)); (refine wl9 ?_; apply wp_load1 hS 96 _ rfl _ _ rfl (one_of rfl) _; (case hp => exact pl9); (case hc => rfl); refine put_move ?_; go_step)) | ((with_reducible apply gt9 _ (.load 3 _)); (refine wl9 ?_; apply wp_load1 hS 3 _ rfl _ _ rfl (one_of rfl) _; (case hp => exact pl9); (case hc => rfl); refine put_move ?_; go_step)) | ((fail_if_success with_reducible apply ga9); go_step))
    all_goals (try (have hF : False := (by omega); cases hF))
    repeat' (first
     | ((with_reducible apply as9); (first | go_big_want | go_step); go_step) | ((with_reducible apply gt9 _ (.fieldAddr 69 _ 2)); (refine wvv9 (V.fieldAddr fo69_2 rfl nq9) ?_; go_step)) | ((with_reducible apply gt9 _ (.store 3 _ _)); (refine wl9 ?_; apply wp_store1 hS 3 _ _ rfl _ _ rfl (one_of rfl) _ _; (case hp => exact pl9); (case hy => exact isv9); (case hv => rfl); (case hc => (repeat (first | with_reducible exact SetAt.head | apply SetAt.tail))); (case hd => exact rfl); clear hS; intro w hS)) | ((with_reducible apply gt9 _ (.load 69 _)); (refine wl9 ?_; apply wp_loadG hS 69 _ rfl _ rfl 3 (row_of rfl) _; (case hp => exact pl9); (case hn => rfl); refine put_move ?_; go_step)) | ((with_reducible apply gt9 _ (.store 69 _ _)); (refine wl9 ?_; apply wp_storeG hS 69 _ _ rfl _ rfl 3 (row_of rfl) _ _; (case hp => exact pl9); (case hy => rfl); (case hn => rfl); (case hn' => rfl); (case hv => rfl); (case hd => exact rfl); clear hS; intro w hS)) | ((fail_if_success with_reducible apply ga9); go_step))
    refine ret_all (xs := [_, _]) rfl (.cons (OneRes.blk hS rfl (row_of (n := 3) rfl) pl9 rfl) (.cons (OneRes.tmp rfl) (.nil))) (by simp) rfl ?_
    exact ⟨rfl, HC.out _ _ _ (by omega) (hS.sub sb9)⟩

set_option maxRecDepth 100000
set_option linter.unusedVariables false
def Bd (b : List Int) : Prop := b.length = 64 ∧ ∀ i, i < 64 → -2047 ≤ nth b i ∧ nth b i ≤ 2047
theorem Bd.set {b : List Int} (h : Bd b) (i : Nat) (n : Int) (hn : -2047 ≤ n ∧ n ≤ 2047) (hi : i < 64) : Bd (b.set i n) := by
 refine ⟨by rw [List.length_set]; exact h.1, fun j hj => ?_⟩
 rw [nth_set _ _ _ _ (by rw [h.1]; exact hi)]
 split
 · exact hn
 · exact h.2 j hj
theorem numT_in (t : Tok) (h : badT t = false) : -2047 ≤ numT t ∧ numT t ≤ 2047 := by
 obtain ⟨t0, t1, t2⟩ := t
 have hiff := badT_eq t0 t1 t2
 rw [h] at hiff
 by_cases hB : okB t1 t2 = true
 · have h11 : t1 ≤ 11 := by
    by_cases h1 : t1 ≤ 11
    · exact h1
    · have := hiff.2 (.inr (.inl (by omega))); cases this
   have := (numT_bd t0 t1 t2 hB).2.2 h11
   omega
 · have := hiff.2 (.inl (by simpa using hB)); cases this
theorem nth_nought (i : Nat) : nth (List.replicate 64 (0 : Int)) i = 0 := by
 unfold nth List.getD
 rw [List.getElem?_replicate]
 split <;> rfl
theorem first0_bd (n : Int) (h : -2047 ≤ n ∧ n ≤ 2047) : Bd (first0 n) := by
 unfold first0
 exact Bd.set ⟨List.length_replicate, fun i hi => by rw [nth_nought]; omega⟩ 0 n h (by omega)
theorem okFirst_bd {before : Int} {t : Tok} (h : okFirst before t = true) : -2047 ≤ before + numT t ∧ before + numT t ≤ 2047 := by
 unfold okFirst at h
 simp only [Bool.and_eq_true, decide_eq_true_eq] at h
 exact h.2
def Fed {σ : Type} (next : σ → Bool → Tok × Int × σ) : List (Tok × Bool) → σ → σ → Prop
 | [], s, s' => s = s'
 | x :: r, s, s' => (next s x.2).1 = x.1 ∧ (next s x.2).2.1 = 0 ∧ Fed next r (next s x.2).2.2 s'
theorem Fed.app {σ : Type} {next : σ → Bool → Tok × Int × σ} : ∀ {A B : List (Tok × Bool)} {s s1 s2 : σ}, Fed next A s s1 → Fed next B s1 s2 → Fed next (A ++ B) s s2
 | [], B, s, s1, s2, h, k => by rw [show s = s1 from h]; exact k
 | x :: A, B, s, s1, s2, h, k => ⟨h.1, h.2.1, Fed.app h.2.2 k⟩
theorem fed_rest {σ : Type} {next : σ → Bool → Tok × Int × σ} : ∀ {A : List Tok} {s s' : σ}, Feeds next A s s' → Fed next (A.map fun x => (x, false)) s s'
 | [], s, s', h => h
 | t :: A, s, s', h => ⟨h.1, h.2.1, fed_rest h.2.2⟩
section
variable {σ : Type} (next : σ → Bool → Tok × Int × σ)
theorem loop_fed : ∀ (f at_ : Nat) (b : List Int) (all : List Tok) (s : σ), (frLoop next f at_ b all s).1 = 0 → Bd b →
 ∃ c, (frLoop next f at_ b all s).2.2.1 = all ++ c ∧ Feeds next c s (frLoop next f at_ b all s).2.2.2 ∧ Bd (frLoop next f at_ b all s).2.1
 | 0, at_, b, all, s, h, hb => ⟨[], by simp [frLoop], by simp [frLoop, Feeds], hb⟩
 | f + 1, at_, b, all, s, h, hb => by
  rw [frLoop] at h ⊢
  by_cases h64 : 64 ≤ at_
  · rw [if_pos h64] at h ⊢
    exact ⟨[], by simp, rfl, hb⟩
  rw [if_neg h64] at h ⊢
  by_cases he : (next s false).2.1 ≠ 0
  · rw [if_pos he] at h; exact absurd h he
  rw [if_neg he] at h ⊢
  have he0 : (next s false).2.1 = 0 := by simpa using he
  by_cases hbad : badT (next s false).1 = true
  · rw [if_pos hbad] at h; cases h
  rw [if_neg hbad] at h ⊢
  by_cases h0 : (next s false).1.1 = 0
  · rw [if_pos h0] at h ⊢
    exact ⟨[(next s false).1], rfl, ⟨rfl, he0, rfl⟩, hb⟩
  rw [if_neg h0] at h ⊢
  by_cases h240 : (next s false).1.1 = 240
  · rw [if_pos h240] at h ⊢
    by_cases h16 : 64 < at_ + 16
    · rw [if_pos h16] at h; cases h
    rw [if_neg h16] at h ⊢
    obtain ⟨c, k1, k2, k3⟩ := loop_fed f _ b _ _ h hb
    exact ⟨(next s false).1 :: c, by rw [k1, List.append_assoc]; rfl, ⟨rfl, he0, k2⟩, k3⟩
  · rw [if_neg h240] at h ⊢
    by_cases hq : 64 ≤ at_ + (next s false).1.1.toNat / 16
    · rw [if_pos hq] at h; cases h
    rw [if_neg hq] at h ⊢
    obtain ⟨c, k1, k2, k3⟩ := loop_fed f _ _ _ _ h (hb.set _ _ (numT_in _ (by simpa using hbad)) (by omega))
    exact ⟨(next s false).1 :: c, by rw [k1, List.append_assoc]; rfl, ⟨rfl, he0, k2⟩, k3⟩
theorem frm_fed (before : Int) (s : σ) (h : (frm next before s).1 = 0) : ∃ z, Bd z ∧ (frm next before s).2.1 = zfrom z ∧ toksOf before z = (frm next before s).2.2.1 ∧ Fed next (mark (toksOf before z)) s (frm next before s).2.2.2 := by
 unfold frm at h ⊢
 by_cases h1 : (next s true).2.1 ≠ 0
 · rw [if_pos h1] at h; exact absurd h h1
 rw [if_neg h1] at h ⊢
 by_cases h2 : okFirst before (next s true).1 = false
 · rw [if_pos h2] at h; cases h
 rw [if_neg h2] at h ⊢
 have h2' : okFirst before (next s true).1 = true := by simpa using h2
 obtain ⟨q, hq⟩ : ∃ q, frLoop next 64 1 (first0 (before + numT (next s true).1)) [(next s true).1] (next s true).2.2 = q := ⟨_, rfl⟩
 rw [hq] at h ⊢
 by_cases h3 : q.1 ≠ 0
 · rw [if_pos h3] at h; exact absurd h h3
 rw [if_neg h3] at h ⊢
 by_cases h4 : toksOf before q.2.1 = q.2.2.1
 · obtain ⟨zf, hzf⟩ : ∃ y, zfrom q.2.1 = y := ⟨_, rfl⟩
   rw [if_pos h4, hzf]
   have hl := loop_fed next 64 1 (first0 (before + numT (next s true).1)) [(next s true).1] (next s true).2.2 (by rw [hq]; simpa using h3) (first0_bd _ (okFirst_bd h2'))
   rw [hq] at hl
   obtain ⟨c, k1, k2, k3⟩ := hl
   dsimp only
   refine ⟨q.2.1, k3, hzf.symm, h4, ?_⟩
   rw [h4, k1]
   exact ⟨rfl, by simpa using h1, fed_rest k2⟩
 · rw [if_neg h4] at h; cases h
theorem frm_len2 (before : Int) (s : σ) : (frm next before s).2.1.length = 64 := by
 have hz : (List.replicate 64 (0 : Int)).length = 64 := List.length_replicate
 have key : ∀ q : Int × List Int × List Tok × σ, ((if q.1 ≠ 0 then (q.1, List.replicate 64 0, [], q.2.2.2) else if toksOf before q.2.1 = q.2.2.1 then (0, zfrom q.2.1, q.2.2.1, q.2.2.2) else (4, List.replicate 64 0, [], q.2.2.2)) : Int × List Int × List Tok × σ).2.1.length = 64 := fun q => by
  by_cases h1 : q.1 ≠ 0
  · rw [if_pos h1]; exact hz
  · rw [if_neg h1]
    by_cases h2 : toksOf before q.2.1 = q.2.2.1
    · rw [if_pos h2]
      have h3 := zfrom_len q.2.1
      generalize zfrom q.2.1 = y at h3 ⊢
      exact h3
    · rw [if_neg h2]; exact hz
 unfold frm
 by_cases h1 : (next s true).2.1 ≠ 0
 · rw [if_pos h1]; exact hz
 · rw [if_neg h1]
   by_cases h2 : okFirst before (next s true).1 = false
   · rw [if_pos h2]; exact hz
   · rw [if_neg h2]; exact key _
def dcl : Nat → Int → σ → Int × List Int × σ
 | 0, _, s => (0, [], s)
 | f + 1, p, s => if (frm next p s).1 ≠ 0 then ((frm next p s).1, [], (frm next p s).2.2.2) else
  ((dcl f (nth (frm next p s).2.1 0) (frm next p s).2.2.2).1, (frm next p s).2.1 ++ (dcl f (nth (frm next p s).2.1 0) (frm next p s).2.2.2).2.1, (dcl f (nth (frm next p s).2.1 0) (frm next p s).2.2.2).2.2)
theorem frm_bd (before : Int) (s : σ) (h : (frm next before s).1 = 0) : Bd (frm next before s).2.1 := by
 obtain ⟨z, h1, h2, _⟩ := frm_fed next before s h
 rw [h2]
 exact ⟨zfrom_len z, fun i hi => zfrom_bd z h1.2 i hi⟩
theorem dcl_len : ∀ (f : Nat) (p : Int) (s : σ), (dcl next f p s).1 = 0 → (dcl next f p s).2.1.length = f * 64
 | 0, p, s, _ => by simp [dcl]
 | f + 1, p, s, h => by
  rw [dcl] at h ⊢
  by_cases h1 : (frm next p s).1 ≠ 0
  · rw [if_pos h1] at h; exact absurd h h1
  · rw [if_neg h1] at h ⊢
    dsimp only at h ⊢
    rw [List.length_append, frm_len2, dcl_len f _ _ h]; omega
end

set_option maxRecDepth 100000
set_option linter.unusedVariables false
def words (L1 L2 : List (Int × Nat × Nat)) (T : List (Tok × Bool)) : Prop := ∀ x ∈ T, (symW (if x.2 then L1 else L2) x.1.1).isSome = true
theorem enc_all (L1 L2 : List (Int × Nat × Nat)) : ∀ (T : List (Tok × Bool)) (bs : List Bool), words L1 L2 T → ech (encStep L1 L2) T bs = (0, bs ++ T.flatMap (tkBits L1 L2))
 | [], bs, _ => by simp [ech]
 | x :: T, bs, h => by
  have h1 : encStep L1 L2 bs x.1 x.2 = (0, bs ++ tkBits L1 L2 x) := by unfold encStep; rw [if_pos (h x (by simp))]
  rw [ech, h1, if_pos rfl, enc_all L1 L2 T _ (fun y hy => h y (by simp [hy])), List.flatMap_cons, List.append_assoc]

set_option maxRecDepth 100000
set_option linter.unusedVariables false
theorem bits_at (l : List Nat) (i m : Nat) (h : i + m ≤ 8 * l.length) : (unpack l).drop i = bitsOf m (numAt l i m) ++ (unpack l).drop (i + m) := by
 have h1 : (((unpack l).drop i).take m).length = m := by rw [List.length_take, List.length_drop, unpack_len]; omega
 have h2 := bitsOf_num (((unpack l).drop i).take m)
 rw [h1] at h2
 unfold numAt
 rw [h2, ← List.drop_drop, List.take_append_drop]
section
variable {L1 L2 : List (Int × Nat × Nat)} (h1 : Good L1) (h2 : Good L2) (l : List Nat)
include h1 h2
theorem tk_read (i : Nat) (x : Tok × Bool) (s' : Nat) (ht : (tkNext L1 L2 l i x.2).1 = x.1) (he : (tkNext L1 L2 l i x.2).2.1 = 0) (hs : (tkNext L1 L2 l i x.2).2.2 = s') :
 s' ≤ 8 * l.length ∧ (symW (if x.2 then L1 else L2) x.1.1).isSome = true ∧ (unpack l).drop i = tkBits L1 L2 x ++ (unpack l).drop s' := by
 obtain ⟨t, b⟩ := x
 dsimp only at ht he hs ⊢
 have hG : Good (if b then L1 else L2) := by cases b <;> assumption
 unfold tkBits
 dsimp only
 unfold tkNext at ht he hs
 generalize (if b then L1 else L2) = L at *
 by_cases hg : (gtW L l i 16 0).2.1 ≠ 0
 · rw [if_pos hg] at he; exact absurd he hg
 rw [if_neg hg] at ht he hs
 obtain ⟨m, hm1, hm2, hm3, hm4, hm5⟩ := gt_ok (L := L) l i 16 0 (by simpa using hg)
 obtain ⟨⟨sy, ge, gi⟩, hG0⟩ : ∃ y, gtW L l i 16 0 = y := ⟨_, rfl⟩
 rw [hG0] at ht he hs hm3 hm5
 dsimp only at ht he hs hm3 hm5
 by_cases hw : 12 < tkWidth b sy ∨ (b = false ∧ 11 < tkWidth b sy)
 · rw [if_pos hw] at he; cases he
 rw [if_neg hw] at ht he hs
 by_cases hsh : 8 * l.length < gi + (tkWidth b sy).toNat
 · rw [if_pos hsh] at he; cases he
 rw [if_neg hsh] at ht he hs
 dsimp only at ht he hs
 subst ht; subst hs
 dsimp only
 refine ⟨by omega, by rw [hG.symW hm5]; rfl, ?_⟩
 rw [wb_of hG hm5, bits_at l i m hm4, List.append_assoc, ← hm3, Int.toNat_natCast, ← bits_at l gi _ (by omega)]
theorem fed_read : ∀ (T : List (Tok × Bool)) (i i' : Nat), Fed (tkNext L1 L2 l) T i i' → i ≤ 8 * l.length → i' ≤ 8 * l.length ∧ words L1 L2 T ∧ (unpack l).drop i = T.flatMap (tkBits L1 L2) ++ (unpack l).drop i'
 | [], i, i', h, hi => by rw [show i = i' from h] at hi ⊢; exact ⟨hi, fun x hx => (by cases hx), by simp⟩
 | x :: T, i, i', h, hi => by
  obtain ⟨k1, k2, k3⟩ := tk_read h1 h2 l i x _ h.1 h.2.1 rfl
  obtain ⟨m1, m2, m3⟩ := fed_read T _ i' h.2.2 k1
  refine ⟨m1, fun y hy => ?_, by rw [k3, m3, List.flatMap_cons, List.append_assoc]⟩
  rcases List.mem_cons.1 hy with rfl | hy
  · exact k2
  · exact m2 y hy
end

set_option maxRecDepth 100000
set_option linter.unusedVariables false
def tfq : Int → List Int → Nat → List (Tok × Bool)
 | _, _, 0 => []
 | p, l, f + 1 => mark (tokL p (seg l 64 0)) ++ tfq (nth (seg l 64 0) 0) (l.drop 64) f
theorem seg_drop (l : List Int) (k j : Nat) : seg (l.drop (k * 64)) 64 j = seg l 64 (k + j) := by
 unfold seg
 rw [List.drop_drop, ← Nat.add_mul]
theorem tfl_q (l : List Int) : ∀ (f k : Nat), tfl l k f = tfq (bef l k) (l.drop (k * 64)) f
 | 0, k => rfl
 | f + 1, k => by
  rw [tfl, tfq, tfl_q l f (k + 1), seg_drop, bef_succ, List.drop_drop, show k * 64 + 64 = (k + 1) * 64 by omega]
  rfl
theorem blk_of {x : List Int} (h : Bd x) : blkIn x = true := (allIn_iff _ _ _).2 (by rw [h.1]; exact h.2)
theorem tokL_of {p : Int} {x : List Int} (hp : -2047 ≤ p ∧ p ≤ 2047) (h : Bd x) : tokL p x = toksOf p (zto x) := by
 unfold tokL
 rw [if_pos (tokE_of h.1 hp h.2)]
section
variable {σ : Type} (next : σ → Bool → Tok × Int × σ)
theorem dcl_fed : ∀ (f : Nat) (p : Int) (s : σ), (dcl next f p s).1 = 0 → (-2047 ≤ p ∧ p ≤ 2047) → Fed next (tfq p (dcl next f p s).2.1 f) s (dcl next f p s).2.2 ∧ ∀ k, k < f → blkIn (seg (dcl next f p s).2.1 64 k) = true
 | 0, p, s, _, _ => ⟨rfl, fun k hk => by omega⟩
 | f + 1, p, s, h, hp => by
  rw [dcl] at h ⊢
  by_cases h1 : (frm next p s).1 ≠ 0
  · rw [if_pos h1] at h; exact absurd h h1
  rw [if_neg h1] at h ⊢
  dsimp only at h ⊢
  obtain ⟨z, hz, e1, e2, e3⟩ := frm_fed next p s (by simpa using h1)
  have hb := frm_bd next p s (by simpa using h1)
  obtain ⟨F, hF⟩ : ∃ F, frm next p s = F := ⟨_, rfl⟩
  rw [hF] at h h1 e1 e2 e3 hb ⊢
  obtain ⟨E, b0, all, s1⟩ := F
  dsimp only at h h1 e1 e2 e3 hb ⊢
  obtain ⟨k1, k2⟩ := dcl_fed f (nth b0 0) s1 h (hb.2 0 (by omega))
  have hs0 : seg (b0 ++ (dcl next f (nth b0 0) s1).2.1) 64 0 = b0 := by
   unfold seg
   rw [Nat.zero_mul, List.drop_zero, List.take_left' hb.1]
  have hz2 : zto b0 = z := by rw [e1]; exact zto_zfrom z hz.1
  refine ⟨?_, fun k hk => ?_⟩
  · rw [tfq, hs0, List.drop_left' hb.1, tokL_of hp hb, hz2]
    exact e3.app k1
  · cases k with
    | zero => rw [hs0]; exact blk_of hb
    | succ k =>
     have := seg_drop (b0 ++ (dcl next f (nth b0 0) s1).2.1) 1 k
     rw [Nat.one_mul, List.drop_left' hb.1] at this
     rw [show k + 1 = 1 + k by omega, ← this]
     exact k2 k (by omega)
end
def dcf (L1 L2 : List (Int × Nat × Nat)) (l : List Nat) (n : Nat) : Int × List Int :=
 if (dcl (tkNext L1 L2 l) n 0 0).1 ≠ 0 then ((dcl (tkNext L1 L2 l) n 0 0).1, []) else
 if 8 * l.length - (dcl (tkNext L1 L2 l) n 0 0).2.2 ≤ 7 ∧ numAt l (dcl (tkNext L1 L2 l) n 0 0).2.2 (8 * l.length - (dcl (tkNext L1 L2 l) n 0 0).2.2) = 2 ^ (8 * l.length - (dcl (tkNext L1 L2 l) n 0 0).2.2) - 1 then (0, (dcl (tkNext L1 L2 l) n 0 0).2.1) else (4, [])
theorem tfl_zero (l : List Int) (n : Nat) : tfl l 0 n = tfq 0 l n := by rw [tfl_q, Nat.zero_mul, List.drop_zero]; rfl
theorem unpack_inj {a b : List Nat} (ha : ∀ x ∈ a, x < 256) (hb : ∀ x ∈ b, x < 256) (h : unpack a = unpack b) : a = b := by
 have hl : a.length = b.length := by have := congrArg List.length h; rw [unpack_len, unpack_len] at this; omega
 rw [← packs_unpack a ha, ← packs_unpack b hb, h, hl]
theorem ones_rep (m : Nat) : bitsOf m (2 ^ m - 1) = List.replicate m true := by
 refine num_inj _ _ (by rw [bitsOf_len, List.length_replicate]) ?_
 rw [num_bitsOf_lt _ _ (by have := Nat.two_pow_pos m; omega)]
 induction m with
 | zero => rfl
 | succ m ih =>
  rw [List.replicate_succ', num_snoc, ← ih, Nat.pow_succ]
  have := Nat.two_pow_pos m
  simp
  omega
theorem dcf_again {L1 L2 : List (Int × Nat × Nat)} (h1 : Good L1) (h2 : Good L2) {by_ : List Nat} {n : Nat} (hby : ∀ x ∈ by_, x < 256) (h : (dcf L1 L2 by_ n).1 = 0) :
 (dcf L1 L2 by_ n).2.length = n * 64 ∧ allBlk (dcf L1 L2 by_ n).2 n = true ∧ words L1 L2 (tfl (dcf L1 L2 by_ n).2 0 n) ∧ bytesOf ((tfl (dcf L1 L2 by_ n).2 0 n).flatMap (tkBits L1 L2)) = by_ := by
 unfold dcf at h ⊢
 by_cases he : (dcl (tkNext L1 L2 by_) n 0 0).1 ≠ 0
 · rw [if_pos he] at h; exact absurd h he
 rw [if_neg he] at h ⊢
 have he0 : (dcl (tkNext L1 L2 by_) n 0 0).1 = 0 := by simpa using he
 obtain ⟨k1, k2⟩ := dcl_fed (tkNext L1 L2 by_) n 0 0 he0 (by omega)
 have hlen := dcl_len (tkNext L1 L2 by_) n 0 0 he0
 obtain ⟨⟨E, B, i⟩, hd⟩ : ∃ d, dcl (tkNext L1 L2 by_) n 0 0 = d := ⟨_, rfl⟩
 rw [hd] at h k1 k2 hlen ⊢
 dsimp only at h k1 k2 hlen ⊢
 by_cases hc : 8 * by_.length - i ≤ 7 ∧ numAt by_ i (8 * by_.length - i) = 2 ^ (8 * by_.length - i) - 1
 · rw [if_pos hc]
   dsimp only
   obtain ⟨m1, m2, m3⟩ := fed_read h1 h2 by_ _ 0 i k1 (by omega)
   refine ⟨hlen, ?_, by rw [tfl_zero]; exact m2, ?_⟩
   · unfold allBlk
     rw [List.all_eq_true]
     exact fun k hk => k2 k (List.mem_range.1 hk)
   rw [tfl_zero]
   refine unpack_inj (bytesOf_lt _) hby ?_
   rw [unpack_bytesOf, ← List.drop_zero (l := unpack by_), m3]
   congr 1
   have h3 := bits_at by_ i (8 * by_.length - i) (by omega)
   rw [hc.2, ones_rep, List.drop_of_length_le (i := i + (8 * by_.length - i)) (by rw [unpack_len]; omega), List.append_nil] at h3
   rw [h3]
   unfold padding
   congr 1
   have h4 := congrArg List.length m3
   rw [List.drop_zero, unpack_len, List.length_append, List.length_drop, unpack_len] at h4
   omega
 · rw [if_neg hc] at h; cases h

set_option maxRecDepth 100000
set_option linter.unusedVariables false
structure Veil5 (p : Prop) : Prop where
 out : p
theorem V.mkIf {P : Program} {t ty : TypeId} {x : Operand} {a : Act} {v : Value} (hx : a.eval x = v) (hr : ∀ w : World, (Instr.makeInterface t v).run P w = .ok (.iface t v) w) : Val P (.makeInterface t x) ty a (.iface t v) := fun d pos af g w => by
 simp only [execOp, hx, Sem.run_bind, hr, Result.andThen_ok, Sem.run_pure]
def segSrc (W : World) (gc gr : Nat) (L1 L2 : List (Int × Nat × Nat)) (ad : Option Addr) (n c : Nat) (l : List Nat) (hL1 : Good L1) (hL2 : Good L2) (hl : ∀ x ∈ l, x < 256) (hn : n ≤ 1000000000000000000) : Src W Nat where
 next := tkNext L1 L2 l
 res := srcR gc gr L1 L2 ad n c l
 tid := 99
 ptr := .agg #[.pointer (some ⟨gc, 0, none⟩), .pointer (some ⟨gr, 0, none⟩)]
 f := 130
 inv := fun b w => by kernel_rfl
 call := fun w rs rs' s b t0 t1 t2 er s' hS hp h => srcTok_any W w rs rs' gc gr L1 L2 ad n c l s b t0 t1 t2 er s' hL1 hL2 hl hn hS hp h
theorem segFrom_any {W : World} (w0 : World) (rs rs' : List Res) (gc gr : Nat) (L1 L2 : List (Int × Nat × Nat)) (ad : Option Addr) (n c : Nat) (l : List Nat) (hL1 : Good L1) (hL2 : Good L2) (hl : ∀ x ∈ l, x < 256) (hn : n ≤ 1000000000000000000) (i : Nat) (p : Int) (hb : -2047 ≤ p ∧ p ≤ 2047) (hS : St W w0 rs) (hp : Pull (srcR gc gr L1 L2 ad n c l i) rs rs') (E : Int) (bl : List Int) (all : List Tok) (i' : Nat) (hF : frm (tkNext L1 L2 l) p i = (E, bl, all, i')) :
 Calls Tryd.prog 49 #[.int .i64 p, .iface 99 (.agg #[.pointer (some ⟨gc, 0, none⟩), .pointer (some ⟨gr, 0, none⟩)])] w0 fun e w => ∃ ad2 c2 m, e = .returned (.tuple #[.agg (iv bl), .slice ad2 m c2, .int .i64 E]) ∧ St W w (srcR gc gr L1 L2 ad n c l i' :: rs') := by
 refine (from_any (segSrc W gc gr L1 L2 ad n c l hL1 hL2 hl hn) w0 rs rs' i p hb hS hp).mono ?_
 rintro e w ⟨ad2, c2, rfl, hS2⟩
 have hq : frm (segSrc W gc gr L1 L2 ad n c l hL1 hL2 hl hn).next p i = (E, bl, all, i') := hF
 rw [hq] at hS2 ⊢
 exact ⟨ad2, c2, _, rfl, hS2.drop⟩
theorem stf_in {l : List Int} (h : ∀ x ∈ l, 0 ≤ x ∧ x < 256) : ∀ x ∈ stf l, 0 ≤ x ∧ x < 256 := by
 intro x hx
 unfold stf rep1 at hx
 obtain ⟨y, hy, hx⟩ := List.mem_flatMap.1 hx
 split at hx
 · simp at hx
   rcases hx with rfl | rfl <;> omega
 · simp at hx
   subst hx
   exact h x hy
def SegDec (w0 : World) (E : Int) (B : List Int) (e : Ending) (w : World) : Prop :=
 ∃ ao c m, B.length = m * 64 ∧ e = .returned (.tuple #[.slice ao m c, .int .i64 E]) ∧ St w0 w [own 52 64 ao m c (B.map (Value.int .i64))]
theorem dec_err {w0 w : World} {E : Int} {B : List Int} (E' : Int) (h : E = E') (hB : B = []) (hE : Ext w0 w) : SegDec w0 E B (.returned (.tuple #[.slice none 0 0, .int .i64 E'])) w := by
 subst h; subst hB
 exact ⟨none, 0, 0, rfl, rfl, (St.of_ext hE).nil _ _⟩
theorem mk_src {w0 w : World} {gc gr n c : Nat} {L1 L2 : List (Int × Nat × Nat)} {ad : Option Addr} {l : List Nat} {rs : List Res} {rs' : List Res} (h : St w0 w rs) (s : Sub (cdr gc L1 L2 :: rd gr ad n c 0 :: own 5 1 ad n c (bv l) :: rs') rs) : St w0 w (srcR gc gr L1 L2 ad n c l 0 :: rs') := by
 refine St.close ⟨(), by omega⟩ ?_
 have h2 := h.sub s
 have h3 : St w0 w (rdo gr ad n c 0 l :: cdr gc L1 L2 :: rs') := St.close () (by dsimp only [List.cons_append, List.nil_append]; exact h2.sub sb9)
 dsimp only [List.cons_append, List.nil_append]
 exact h3.sub sb9
set_option maxHeartbeats 8000000 in
theorem segDecode_run (w0 : World) (C1 C2 S1 S2 : List Int) (a1 a2 : Option Addr) (n1 n2 k1 k2 : Nat) (hC1 : Len C1 16) (hC2 : Len C2 16) (hs1 : Sl w0 1 (.slice a1 n1 k1) n1 (S1.map (Value.int .i64))) (hs2 : Sl w0 1 (.slice a2 n2 k2) n2 (S2.map (Value.int .i64))) (hn1 : n1 ≤ 9223372036854775807) (hn2 : n2 ≤ 9223372036854775807) (ad : Option Addr) (nb c : Nat) (l : List Nat) (n : Nat)
 (hb : nb ≤ 1000000000) (hv : Sl w0 1 (.slice ad nb c) nb ((stf (byI l)).map (Value.int .u8))) (hnil : ad = none → c = 0) (hl : ∀ x ∈ l, x < 256) (hml : ∃ m, w0.cell? ⟨0, 0, none⟩ = some (.int .i64 m)) (hn : n ≤ 400) (hT1 : tabE C1 S1 = 0) (hT2 : tabE C2 S2 = 0) (R : Int × List Int) (hR : dcf (wds C1 S1) (wds C2 S2) l n = R) :
 Calls Tryd.prog 24 #[.agg (pcells [.ints C1, .val (.slice a1 n1 k1), .ints C2, .val (.slice a2 n2 k2)]).toArray, .slice ad nb c, .int .i64 n] w0 (SegDec w0 R.1 R.2) := by
 have hS := St.start w0
 have HT1 := hid hT1
 have HT2 := hid hT2
 have HG1 := hid (wds_good hT1)
 have HG2 := hid (wds_good hT2)
 obtain ⟨L1, hL1⟩ : ∃ L, wds C1 S1 = L := ⟨_, rfl⟩
 obtain ⟨L2, hL2⟩ : ∃ L, wds C2 S2 = L := ⟨_, rfl⟩
 rw [hL1] at HG1
 rw [hL2] at HG2
 rw [hL1, hL2] at hR
 have HL1 := hid hL1
 have HL2 := hid hL2
 have HLt := hid hl
 have HR : Veil5 (dcf L1 L2 l n = R) := ⟨hR⟩
 obtain ⟨nl, hnl⟩ : ∃ nl, l.length = nl := ⟨_, rfl⟩
 have hnlb : nl ≤ 1000000000 := by
  have h1 := hv.1
  rw [List.length_map, stf_len, byI, List.length_map] at h1
  omega
 have HNL := hid hnl
 have hbyl := hid (show (byI l).length = nl by unfold byI; rw [List.length_map]; exact hnl)
 have HBI := hid (show ∀ x ∈ stf (byI l), 0 ≤ x ∧ x < 256 from fun x hx => stf_in (fun y hy => by
  obtain ⟨z, hz, rfl⟩ := List.mem_map.1 hy
  have := hl z hz
  omega) x hx)
 have HBV := hid (bv_byI l)
 have HPL := hid (plain_any w0 ad nb c (stf (byI l)) hv hnil HBI.out hb hml)
 clear hl hT1 hT2 hL1 hL2 hR hnl
 go_enter Tryd.func24, Tryd.ntmps24
 repeat' (first
  | ((with_reducible apply gs9 21); refine wpl_call (f := 37) Tryd.call37 kr9 ?_; refine ⟨_, (made_ok _ C1 C2 S1 S2 a1 a2 n1 n2 k1 k2 hC1 hC2 (hs1.ext hS.1) (hs2.ext hS.1) hn1 hn2 HT1.out HT2.out), ?_⟩; rintro e w ⟨gc, rfl, hS2⟩; rw [HL1.out, HL2.out] at hS2; replace hS := hS.call1 hS2; clear hS2; refine ⟨_, rfl, ?_⟩; refine put_move ?_; go_step) | ((first | (with_reducible apply mv9) | (with_reducible apply as9)); (first | go_big_want | go_step); go_step) | ((with_reducible apply gt9 _ (.extract _ _)); (refine wvv9 (V.extract rfl rfl) ?_; go_step)) | ((with_reducible apply gt9 _ (.binOp .neq 25 _ _ _)); (refine wvv9 (V.neq rfl rfl) ?_; go_step)) | ((with_reducible apply gs9 3); (refine wl9 ?_; apply wp_boxP (o := ⟨some 3, _, _, _, _, _⟩) hS 33 _ rfl _ rfl; clear hS; intro g3 w hS; refine put_move ?_; go_step)) | ((with_reducible apply gt9 _ (.load 33 _)); (refine wl9 ?_; apply wp_loadPP hS 33 _ rfl _ _ rfl 34 (row_of rfl) _; (case hp => exact pl9); (case hi => (repeat (first | (apply AtP.head; (repeat (first | exact Pre.nil | (apply Pre.ints; (case hn => (first | (with_reducible assumption) | exact Len.rep | exact Len.set (by with_reducible assumption) | exact Len.set Len.rep | exact Len.set (Len.set Len.rep))); (case h => omega); (case hm => rfl)) | apply Pre.val))) | (apply AtP.skipI; (case hn => (first | (with_reducible assumption) | exact Len.rep | exact Len.set (by with_reducible assumption) | exact Len.set Len.rep | exact Len.set (Len.set Len.rep))); (case h => omega); (case ho => rfl)) | apply AtP.skipV))); refine put_move ?_; go_step)) | ((fail_if_success with_reducible apply ga9); go_step))
 all_goals (try (have hF : False := (by omega); cases hF))
 repeat' (first
  | ((with_reducible apply mv9); (first | go_big_want | go_step); go_step) | ((with_reducible apply gt9 _ (.pick _ _ _)); (refine wplPickF rfl kr9 ?_; go_step)) | ((with_reducible apply gs9 28); (refine wplD _ (V.lss rfl rfl) kr9 (fun hB => ?_) (fun hB => ?_) <;> (try (have hF : False := (by omega); cases hF)) <;> go_step)) | ((with_reducible apply gt9 _ (.binOp .gtr _ _ _ _)); (refine wvv9 (V.gtr rfl rfl) ?_; go_step)) | ((fail_if_success with_reducible apply ga9); go_step))
 all_goals (try (have hF : False := (by omega); cases hF))
 repeat' (first
  | ((with_reducible apply gs9 35); refine wpl_call (f := 20) Tryd.call20 kr9 ?_; refine ⟨_, (plain_any w ad nb c (stf (byI l)) (hv.ext hS.1) hnil HBI.out hb (by obtain ⟨m, hm⟩ := hml; exact ⟨m, hS.1.cell hm⟩)), ?_⟩; rintro e w ⟨hq, _⟩; obtain ⟨ap, cp, rfl, hS2⟩ := hq _ rfl; clear hq; rw [hbyl.out, ← HBV.out] at hS2; rw [hbyl.out]; replace hS := hS.call1 hS2; clear hS2; refine ⟨_, rfl, ?_⟩; refine put_move ?_; go_step) | ((first | (with_reducible apply mv9) | (with_reducible apply as9)); (first | go_big_want | go_step); go_step) | ((with_reducible apply gt9 _ (.extract _ _)); (refine wvv9 (V.extract rfl rfl) ?_; go_step)) | ((with_reducible apply gt9 _ (.binOp .neq 25 _ _ _)); (refine wvv9 (V.neq rfl rfl) ?_; go_step)) | ((fail_if_success with_reducible apply ga9); go_step))
 all_goals (try (have hF : False := (by omega); cases hF))
 repeat' (first
  | ((with_reducible apply gs9 43); refine wpl_call (f := 48) Tryd.call48 kr9 ?_; refine ⟨_, (newReader_any w ap nl cp), ?_⟩; rintro e w ⟨gr, rfl, hS2⟩; replace hS := hS.call1 hS2; clear hS2; refine ⟨_, rfl, ?_⟩; refine put_move ?_; go_step) | ((first | (with_reducible apply mv9) | (with_reducible apply as9)); (first | go_big_want | go_step); go_step) | ((with_reducible apply gs9 44); (refine wvv9 (V.build (vs := [(0, _), (1, _)]) rfl (bl99_0_1 _ _)) ?_; go_step)) | ((with_reducible apply gs9 10); (refine wl9 ?_; apply wp_alloc (o := ⟨some 10, _, _, _, _, _⟩) hS 99 rfl (.agg #[.pointer none, .pointer none]) [.pointer none, .pointer none] (fun w => Tryd.zeroValue99 w) rfl; clear hS; intro g10 w hS; refine put_move ?_; go_step)) | ((with_reducible apply gt9 _ (.store 99 _ _)); (refine wl9 ?_; apply wp_storeG hS 99 _ _ rfl _ rfl 2 (row_of rfl) _ _; (case hp => exact pl9); (case hy => rfl); (case hn => rfl); (case hn' => rfl); (case hv => rfl); (case hd => exact rfl); clear hS; intro w hS)) | ((fail_if_success with_reducible apply ga9); go_step))
 all_goals (try (have hF : False := (by omega); cases hF))
 replace hS : St w0 w [srcR gc gr L1 L2 ap nl cp l 0, blk g10 [.pointer (some ⟨gc, 0, none⟩), .pointer (some ⟨gr, 0, none⟩)]] := mk_src hS sb9
 replace hS := hS.nilk 52 64 .i64
 go_loopg [11, 12, 46] n (fun gk pv ov kv w => ∃ (k i : Nat) (p : Int) (acc : List Int) (ao : Option Addr) (co : Nat), gk + k = n ∧ kv = .int .i64 k ∧ pv = .int .i64 p ∧ ov = .slice ao k co ∧ (-2047 ≤ p ∧ p ≤ 2047) ∧ Veil5 (dcl (tkNext L1 L2 l) n 0 0 = ((dcl (tkNext L1 L2 l) (n - k) p i).1, acc ++ (dcl (tkNext L1 L2 l) (n - k) p i).2.1, (dcl (tkNext L1 L2 l) (n - k) p i).2.2)) ∧ St w0 w [own 52 64 ao k co (acc.map (Value.int .i64)), srcR gc gr L1 L2 ap nl cp l i, blk g10 [.pointer (some ⟨gc, 0, none⟩), .pointer (some ⟨gr, 0, none⟩)]])
 case atStart => exact ⟨0, 0, 0, [], none, 0, by omega, rfl, rfl, rfl, by omega, ⟨rfl⟩, hS⟩
 case round =>
  clear hS HPL
  obtain ⟨k, i, p, acc, ao, co, hk, rfl, rfl, rfl, hpb, HV, hS⟩ := hrel
  by_cases hlt : k < n
  · obtain ⟨⟨E, bl, all, i'⟩, hF⟩ : ∃ F, frm (tkNext L1 L2 l) p i = F := ⟨_, rfl⟩
    have hbl : Len bl 64 := by have := frm_len2 (tkNext L1 L2 l) p i; rw [hF] at this; exact this
    have hd : dcl (tkNext L1 L2 l) (n - k) p i = if E ≠ 0 then (E, [], i') else ((dcl (tkNext L1 L2 l) (n - (k + 1)) (nth bl 0) i').1, bl ++ (dcl (tkNext L1 L2 l) (n - (k + 1)) (nth bl 0) i').2.1, (dcl (tkNext L1 L2 l) (n - (k + 1)) (nth bl 0) i').2.2) := by
     rw [show n - k = (n - (k + 1)) + 1 by omega, dcl, hF]
    have HF : Veil5 (frm (tkNext L1 L2 l) p i = (E, bl, all, i')) := ⟨hF⟩
    have HBB : Veil5 (E = 0 → -2047 ≤ nth bl 0 ∧ nth bl 0 ≤ 2047) := ⟨fun h => by
     have := frm_bd (tkNext L1 L2 l) p i (by rw [hF]; exact h)
     rw [hF] at this
     exact this.2 0 (by omega)⟩
    have HD : Veil5 (dcl (tkNext L1 L2 l) (n - k) p i = if E ≠ 0 then (E, [], i') else ((dcl (tkNext L1 L2 l) (n - (k + 1)) (nth bl 0) i').1, bl ++ (dcl (tkNext L1 L2 l) (n - (k + 1)) (nth bl 0) i').2.1, (dcl (tkNext L1 L2 l) (n - (k + 1)) (nth bl 0) i').2.2)) := ⟨hd⟩
    clear hF hd
    by_cases hE0 : E = 0
    case neg =>
     have he : (dcl (tkNext L1 L2 l) n 0 0).1 = E := by rw [HV.out, HD.out, if_pos hE0]
     have hR1 : Veil5 (R = (E, [])) := ⟨by rw [← HR.out]; unfold dcf; rw [if_pos (by rw [he]; exact hE0), he]⟩
     clear he HD HV
     repeat' (first
      | ((with_reducible apply gs9 51); refine wplV (.iface 99 (.agg #[.pointer (some ⟨gc, 0, none⟩), .pointer (some ⟨gr, 0, none⟩)])) (V.mkIf rfl (fun w => by kernel_rfl)) kr9 ?_; go_step) | ((with_reducible apply gs9 52); refine wpl_call (f := 49) Tryd.call49 kr9 ?_; refine ⟨_, (segFrom_any _ _ _ gc gr L1 L2 ap nl cp l HG1.out HG2.out HLt.out (by omega) i p hpb hS pl9 E bl all i' HF.out), ?_⟩; clear hS; rintro e w ⟨ad5, c5, m5, rfl, hS⟩; refine ⟨_, rfl, ?_⟩; refine put_move ?_; go_step) | ((first | (with_reducible apply mv9) | (with_reducible apply as9)); (first | go_big_want | go_step); go_step) | ((with_reducible apply gt9 _ (.binOp .lss _ _ _ _)); (refine wvv9 (V.lss rfl rfl) ?_; go_step)) | ((with_reducible apply gt9 _ (.extract _ _)); (refine wvv9 (V.extract rfl rfl) ?_; go_step)) | ((with_reducible apply gt9 _ (.binOp .neq 25 _ _ _)); (refine wvv9 (V.neq rfl rfl) ?_; go_step)) | ((with_reducible apply gt9 _ (.load 99 _)); (refine wl9 ?_; apply wp_loadG hS 99 _ rfl _ rfl 2 (row_of rfl) _; (case hp => exact pl9); (case hn => rfl); refine put_move ?_; go_step)) | ((with_reducible apply gs9 13); (refine wl9 ?_; apply wp_allocA (o := ⟨some 13, _, _, _, _, _⟩) hS 52 rfl (List.replicate 64 0) 64 List.length_replicate za52; clear hS; intro g13 w hS; refine put_move ?_; go_step)) | ((with_reducible apply gt9 _ (.store 52 _ _)); (refine wl9 ?_; apply wp_storeA hS 52 _ _ rfl _ rfl 64 (row_of rfl) _ _; (case hp => exact pl9); (case hy => rfl); (case hm => (repeat (first | assumption | exact Len.rep | apply Len.set | ((with_reducible show Len (_ :: _) _); exact rfl)))); (case hd => exact rfl); clear hS; intro w hS)) | ((fail_if_success with_reducible apply ga9); go_step))
     all_goals (try (have hF : False := (by omega); cases hF))
     refine ret_all (xs := [_, _]) rfl (.cons (OneRes.tmp rfl) (.cons (OneRes.tmp rfl) (.nil))) (by simp) rfl ?_
     exact dec_err E (by rw [hR1.out]) (by rw [hR1.out]) hS.1
    have hbb := HBB.out hE0
    have HV2 : Veil5 (dcl (tkNext L1 L2 l) n 0 0 = ((dcl (tkNext L1 L2 l) (n - (k + 1)) (nth bl 0) i').1, (acc ++ bl) ++ (dcl (tkNext L1 L2 l) (n - (k + 1)) (nth bl 0) i').2.1, (dcl (tkNext L1 L2 l) (n - (k + 1)) (nth bl 0) i').2.2)) := ⟨by rw [HV.out, HD.out, if_neg (by simpa using hE0), List.append_assoc]⟩
    clear HV HD HBB
    repeat' (first
     | ((with_reducible apply gs9 51); refine wplV (.iface 99 (.agg #[.pointer (some ⟨gc, 0, none⟩), .pointer (some ⟨gr, 0, none⟩)])) (V.mkIf rfl (fun w => by kernel_rfl)) kr9 ?_; go_step) | ((with_reducible apply gs9 52); refine wpl_call (f := 49) Tryd.call49 kr9 ?_; refine ⟨_, (segFrom_any _ _ _ gc gr L1 L2 ap nl cp l HG1.out HG2.out HLt.out (by omega) i p hpb hS pl9 E bl all i' HF.out), ?_⟩; clear hS; rintro e w ⟨ad5, c5, m5, rfl, hS⟩; refine ⟨_, rfl, ?_⟩; refine put_move ?_; go_step) | ((first | (with_reducible apply mv9) | (with_reducible apply as9)); (first | go_big_want | go_step); go_step) | ((with_reducible apply gt9 _ (.binOp .lss _ _ _ _)); (refine wvv9 (V.lss rfl rfl) ?_; go_step)) | ((with_reducible apply gt9 _ (.extract _ _)); (refine wvv9 (V.extract rfl rfl) ?_; go_step)) | ((with_reducible apply gt9 _ (.binOp .neq 25 _ _ _)); (refine wvv9 (V.neq rfl rfl) ?_; go_step)) | ((with_reducible apply gt9 _ (.load 99 _)); (refine wl9 ?_; apply wp_loadG hS 99 _ rfl _ rfl 2 (row_of rfl) _; (case hp => exact pl9); (case hn => rfl); refine put_move ?_; go_step)) | ((with_reducible apply gs9 13); (refine wl9 ?_; apply wp_allocA (o := ⟨some 13, _, _, _, _, _⟩) hS 52 rfl (List.replicate 64 0) 64 List.length_replicate za52; clear hS; intro g13 w hS; refine put_move ?_; go_step)) | ((with_reducible apply gt9 _ (.store 52 _ _)); (refine wl9 ?_; apply wp_storeA hS 52 _ _ rfl _ rfl 64 (row_of rfl) _ _; (case hp => exact pl9); (case hy => rfl); (case hm => (repeat (first | assumption | exact Len.rep | apply Len.set | ((with_reducible show Len (_ :: _) _); exact rfl)))); (case hd => exact rfl); clear hS; intro w hS)) | ((fail_if_success with_reducible apply ga9); go_step))
    all_goals (try (have hF : False := (by omega); cases hF))
    repeat' (first
     | ((with_reducible apply gs9 61); refine wl9 ?_; refine wp_buildSlice1 (o := ⟨some 61, _, _, _, _, _⟩) hS 22 1 _ rfl 52 64 512 el22 _ _ (Parts.agg rfl (by rw [List.length_map]; exact hbl) Parts.nil) rfl (by decide) (by decide) ?_; clear hS; intro g61 w hS; rw [List.append_nil] at hS; have hsl61 := hS.slBlk (n := 1) (s := 64) Pull.head (by rw [List.length_map]; exact hbl) (by decide); refine put_move ?_; go_step) | ((first | (with_reducible apply mv9) | (with_reducible apply as9)); (first | go_big_want | go_step); go_step) | ((with_reducible apply gs9 63); (refine wvv9 (V.indexAr Tryd.underlying52 isz3 rfl rfl (show IsN 0 0 from rfl) (by omega) (show 0 * 1 = 0 from rfl) nq9) ?_; go_step)) | ((with_reducible apply gt9 _ (.binOp .add _ _ _ _)); (refine wvv9 (V.addI rfl rfl (by omega)) ?_; go_step)) | ((with_reducible apply gt9 _ (.load 52 _)); (refine wl9 ?_; apply wp_loadA hS 52 _ rfl _ rfl 64 (row_of rfl) _; (case hp => exact pl9); refine put_move ?_; go_step)) | ((with_reducible apply gs9 62); (refine wl9 ?_; apply wp_append (o := ⟨some 62, _, _, _, _, _⟩) hS _ _ 22 rfl 52 64 512 el22 _ _ _ _ rfl; (case hp => exact pl9); (case hx => exact rfl); (case hm => (first | exact hS.slBlk pl9 (by rfl) (by decide) | exact hS.sl pl9 | with_reducible assumption | exact Sl.ext (by with_reducible assumption) hS.1 | exact Sl.nil _ _ | exact Sl.ext (by assumption) hS.1 | assumption)); (case h1 => (first | exact oneAll rfl | exact oneMap _ _ | (intro u hu; cases hu))); (case h63 => unfold maxLen; omega); (case hb => omega); clear hS; intro ad62 c62 w hS; (first | simp only [mapk1] at hS | simp only [mapk2] at hS | simp only [mapk3] at hS | simp only [mapk4] at hS | simp only [mapkl] at hS | skip); refine put_move ?_; go_step)) | ((with_reducible apply gt9 _ (.load 3 _)); (refine wl9 ?_; apply wp_load1A hS 3 _ rfl _ _ rfl (one_of rfl) _ _; (case hp => exact pl9); (case hi => omega); refine put_move ?_; go_step)) | ((fail_if_success with_reducible apply ga9); go_step))
    go_roundg (gk - 1)
    case measure => omega
    case rel => exact ⟨k + 1, i', nth bl 0, acc ++ bl, _, _, by omega, by go_num, rfl, rfl, hbb, HV2, hS.sub sb9⟩
  · obtain rfl : k = n := by omega
    have HV2 : Veil5 (dcl (tkNext L1 L2 l) k 0 0 = (0, acc, i)) := ⟨by rw [HV.out, Nat.sub_self, dcl]; simp⟩
    clear HV
    repeat' (first
     | ((with_reducible apply gt9 _ (.binOp .lss _ _ _ _)); (refine wvv9 (V.lss rfl rfl) ?_; go_step)) | ((fail_if_success with_reducible apply ga9); go_step))
    obtain ⟨⟨_, hi⟩, hS⟩ := (hS.pull (.tail .head)).open
    dsimp only [List.cons_append, List.nil_append] at hS
    have hcl := ((hS.pull (.tail .head)).open)
    obtain ⟨_, hcl⟩ := hcl
    dsimp only [List.cons_append, List.nil_append] at hcl
    have hcc := (hcl.blk Pull.head).1
    have c0 : wr.cell? ⟨gr, 0, none⟩ = some (.slice ap nl cp) := by rw [hcc.cell]; rfl
    have c1 : wr.cell? ⟨gr, 1, none⟩ = some (.int .i64 (i : Nat)) := by rw [hcc.cell]; rfl
    clear hcl hcc
    obtain ⟨Lf, hLf⟩ : ∃ x, 8 * nl - i = x := ⟨_, rfl⟩
    have HLF := hid hLf
    obtain ⟨N, hN⟩ : ∃ N, numAt l i (Lf % 8) = N := ⟨_, rfl⟩
    have HN := hid hN
    have HR2 : Veil5 (R = if Lf ≤ 7 ∧ numAt l i Lf = 2 ^ Lf - 1 then (0, acc) else (4, [])) := ⟨by rw [← HR.out]; unfold dcf; rw [HV2.out]; dsimp only; rw [if_neg (by simp), HNL.out, hLf]⟩
    have hal := hS.ownLen (xs := acc.map (Value.int .i64)) pl9
    rw [List.length_map] at hal
    have HL0 := hid (left_any wr gr nl cp i ap c0 c1 (by omega) hi)
    have HAL := hid hal
    clear c0 c1 HV2 HR hN hal
    by_cases h7 : 7 < Lf
    · have hR4 : Veil5 (R = (4, [])) := ⟨by rw [HR2.out, if_neg (by omega)]⟩
      clear HR2
      repeat' (first
       | ((with_reducible apply gs9 68); refine wpl_call (f := 50) Tryd.call50 kr9 ?_; refine ⟨_, (HL0.out), ?_⟩; rintro e w ⟨rfl, hE⟩; rw [HLF.out]; replace hS := hS.ext hE; clear hE; refine ⟨_, rfl, ?_⟩; refine put_move ?_; go_step) | ((with_reducible apply gs9 73); (refine wplV (.int _ (((Lf % 8 : Nat) : Int))) (V.as (V.rem rfl rfl (by omega) (by omega)) (by omega)) rfl ?_; go_step)) | ((with_reducible apply gs9 74); refine wpl_call (f := 51) Tryd.call51 kr9 ?_; refine ⟨_, (get_own w0 _ _ _ gr nl cp i (Lf % 8) ap l hS pl9 HLt.out (by omega) hi (by omega)), ?_⟩; rintro e w ⟨_, hq⟩; obtain ⟨rfl, hS2⟩ := hq (by omega); clear hq hS; have hS := hS2; clear hS2; rw [HN.out]; refine ⟨_, rfl, ?_⟩; refine put_move ?_; go_step) | go_skip | ((first | (with_reducible apply mv9) | (with_reducible apply as9)); (first | go_big_want | go_step); go_step) | ((with_reducible apply gt9 _ (.pick _ _ _)); (refine wplPickT rfl kr9 ?_; go_step)) | ((with_reducible apply gs9 78); (refine wplD _ (V.gtr rfl rfl) kr9 (fun hB => ?_) (fun hB => ?_) <;> (try (have hF : False := (by omega); cases hF)) <;> go_step)) | ((with_reducible apply gt9 _ (.fieldAddr 99 _ 1)); (refine wvv9 (V.fieldAddr fo99_1 rfl nq9) ?_; go_step)) | ((with_reducible apply gt9 _ (.extract _ _)); (refine wvv9 (V.extract rfl rfl) ?_; go_step)) | ((with_reducible apply gt9 _ (.load 96 _)); (refine wl9 ?_; apply wp_load1 hS 96 _ rfl _ _ rfl (one_of rfl) _; (case hp => exact pl9); (case hc => rfl); refine put_move ?_; go_step)) | ((fail_if_success with_reducible apply ga9); go_step))
      all_goals (try (have hF : False := (by omega); cases hF))
      all_goals
       refine ret_all (xs := [_, _]) rfl (.cons (OneRes.tmp rfl) (.cons (OneRes.tmp rfl) (.nil))) (by simp) rfl ?_
       exact dec_err 4 (by rw [hR4.out]) (by rw [hR4.out]) hS.1
    · have hm : Lf % 8 = Lf := by omega
      have hpow : (2 : Int) ^ Lf ≤ 128 ∧ 1 ≤ (2 : Int) ^ Lf := by
       have h1 : Lf = 0 ∨ Lf = 1 ∨ Lf = 2 ∨ Lf = 3 ∨ Lf = 4 ∨ Lf = 5 ∨ Lf = 6 ∨ Lf = 7 := by omega
       rcases h1 with h | h | h | h | h | h | h | h <;> rw [h] <;> decide
      have hNl : numAt l i Lf = N := by rw [← HN.out, hm]
      by_cases hyes : (N : Int) = 2 ^ Lf - 1
      · have hR0 : Veil5 (R = (0, acc)) := ⟨by
         have h1 : (((2 ^ Lf : Nat)) : Int) = (2 : Int) ^ Lf := by push_cast; rfl
         rw [HR2.out, if_pos ⟨by omega, by rw [hNl]; omega⟩]⟩
        clear HR2 hNl hm
        repeat' (first
         | ((with_reducible apply gs9 68); refine wpl_call (f := 50) Tryd.call50 kr9 ?_; refine ⟨_, (HL0.out), ?_⟩; rintro e w ⟨rfl, hE⟩; rw [HLF.out]; replace hS := hS.ext hE; clear hE; refine ⟨_, rfl, ?_⟩; refine put_move ?_; go_step) | ((with_reducible apply gs9 73); (refine wplV (.int _ (((Lf % 8 : Nat) : Int))) (V.as (V.rem rfl rfl (by omega) (by omega)) (by omega)) rfl ?_; go_step)) | ((with_reducible apply gs9 74); refine wpl_call (f := 51) Tryd.call51 kr9 ?_; refine ⟨_, (get_own w0 _ _ _ gr nl cp i (Lf % 8) ap l hS pl9 HLt.out (by omega) hi (by omega)), ?_⟩; rintro e w ⟨_, hq⟩; obtain ⟨rfl, hS2⟩ := hq (by omega); clear hq hS; have hS := hS2; clear hS2; rw [HN.out]; refine ⟨_, rfl, ?_⟩; refine put_move ?_; go_step) | ((first | (with_reducible apply mv9) | (with_reducible apply as9)); (first | go_big_want | go_step); go_step) | ((with_reducible apply gt9 _ (.pick _ _ _)); (refine wplPickF rfl kr9 ?_; go_step)) | ((with_reducible apply gs9 78); (refine wplD _ (V.gtr rfl rfl) kr9 (fun hB => ?_) (fun hB => ?_) <;> (try (have hF : False := (by omega); cases hF)) <;> go_step)) | ((with_reducible apply gt9 _ (.fieldAddr 99 _ 1)); (refine wvv9 (V.fieldAddr fo99_1 rfl nq9) ?_; go_step)) | ((with_reducible apply gt9 _ (.extract _ _)); (refine wvv9 (V.extract rfl rfl) ?_; go_step)) | ((with_reducible apply gt9 _ (.binOp .shl _ _ _ _)); (refine wvv9 (V.shl1 rfl rfl isn9 (by omega)) ?_; go_step)) | ((with_reducible apply gt9 _ (.binOp .sub _ _ _ _)); (refine wvv9 (V.subI rfl rfl (by omega)) ?_; go_step)) | ((with_reducible apply gt9 _ (.binOp .neq 3 _ _ _)); (refine wvv9 (V.neq rfl rfl) ?_; go_step)) | ((with_reducible apply gt9 _ (.load 96 _)); (refine wl9 ?_; apply wp_load1 hS 96 _ rfl _ _ rfl (one_of rfl) _; (case hp => exact pl9); (case hc => rfl); refine put_move ?_; go_step)) | ((fail_if_success with_reducible apply ga9); go_step))
        all_goals (try (have hF : False := (by omega); cases hF))
        repeat' (first
         | ((fail_if_success with_reducible apply ga9); go_step))
        refine ret_all (xs := [_, _]) rfl (.cons (OneRes.tmp rfl) (.cons (OneRes.tmp rfl) (.nil))) (by simp) rfl ?_
        exact ⟨ao, co, k, by rw [hR0.out]; exact HAL.out, by rw [hR0.out]; rfl, by rw [hR0.out]; exact hS.sub sb9⟩
      · have hR4 : Veil5 (R = (4, [])) := ⟨by
         rw [HR2.out, if_neg ?_]
         rintro ⟨_, h⟩
         rw [hNl] at h
         have h1 : (((2 ^ Lf : Nat)) : Int) = (2 : Int) ^ Lf := by push_cast; rfl
         have h2 := Nat.two_pow_pos Lf
         omega⟩
        clear HR2 hNl hm
        repeat' (first
         | ((with_reducible apply gs9 68); refine wpl_call (f := 50) Tryd.call50 kr9 ?_; refine ⟨_, (HL0.out), ?_⟩; rintro e w ⟨rfl, hE⟩; rw [HLF.out]; replace hS := hS.ext hE; clear hE; refine ⟨_, rfl, ?_⟩; refine put_move ?_; go_step) | ((with_reducible apply gs9 73); (refine wplV (.int _ (((Lf % 8 : Nat) : Int))) (V.as (V.rem rfl rfl (by omega) (by omega)) (by omega)) rfl ?_; go_step)) | ((with_reducible apply gs9 74); refine wpl_call (f := 51) Tryd.call51 kr9 ?_; refine ⟨_, (get_own w0 _ _ _ gr nl cp i (Lf % 8) ap l hS pl9 HLt.out (by omega) hi (by omega)), ?_⟩; rintro e w ⟨_, hq⟩; obtain ⟨rfl, hS2⟩ := hq (by omega); clear hq hS; have hS := hS2; clear hS2; rw [HN.out]; refine ⟨_, rfl, ?_⟩; refine put_move ?_; go_step) | ((first | (with_reducible apply mv9) | (with_reducible apply as9)); (first | go_big_want | go_step); go_step) | ((with_reducible apply gt9 _ (.pick _ _ _)); (refine wplPickF rfl kr9 ?_; go_step)) | ((with_reducible apply gs9 78); (refine wplD _ (V.gtr rfl rfl) kr9 (fun hB => ?_) (fun hB => ?_) <;> (try (have hF : False := (by omega); cases hF)) <;> go_step)) | ((with_reducible apply gt9 _ (.fieldAddr 99 _ 1)); (refine wvv9 (V.fieldAddr fo99_1 rfl nq9) ?_; go_step)) | ((with_reducible apply gt9 _ (.extract _ _)); (refine wvv9 (V.extract rfl rfl) ?_; go_step)) | ((with_reducible apply gt9 _ (.binOp .shl _ _ _ _)); (refine wvv9 (V.shl1 rfl rfl isn9 (by omega)) ?_; go_step)) | ((with_reducible apply gt9 _ (.binOp .sub _ _ _ _)); (refine wvv9 (V.subI rfl rfl (by omega)) ?_; go_step)) | ((with_reducible apply gt9 _ (.binOp .neq 3 _ _ _)); (refine wvv9 (V.neq rfl rfl) ?_; go_step)) | ((with_reducible apply gt9 _ (.load 96 _)); (refine wl9 ?_; apply wp_load1 hS 96 _ rfl _ _ rfl (one_of rfl) _; (case hp => exact pl9); (case hc => rfl); refine put_move ?_; go_step)) | ((fail_if_success with_reducible apply ga9); go_step))
        all_goals (try (have hF : False := (by omega); cases hF))
        all_goals
         refine ret_all (xs := [_, _]) rfl (.cons (OneRes.tmp rfl) (.cons (OneRes.tmp rfl) (.nil))) (by simp) rfl ?_
         exact dec_err 4 (by rw [hR4.out]) (by rw [hR4.out]) hS.1

set_option maxRecDepth 100000
set_option linter.unusedVariables false
set_option maxHeartbeats 8000000 in
theorem segDecode_tab (w0 : World) (C1 C2 S1 S2 : List Int) (a1 a2 : Option Addr) (n1 n2 k1 k2 : Nat) (hC1 : Len C1 16) (hC2 : Len C2 16) (hs1 : Sl w0 1 (.slice a1 n1 k1) n1 (S1.map (Value.int .i64))) (hs2 : Sl w0 1 (.slice a2 n2 k2) n2 (S2.map (Value.int .i64))) (hn1 : n1 ≤ 9223372036854775807) (hn2 : n2 ≤ 9223372036854775807) (ad : Option Addr) (nb c : Nat) (z : Int) (E : Int) (hE : tbE C1 S1 C2 S2 = E) (h0 : E ≠ 0) :
 Calls Tryd.prog 24 #[.agg (pcells [.ints C1, .val (.slice a1 n1 k1), .ints C2, .val (.slice a2 n2 k2)]).toArray, .slice ad nb c, .int .i64 z] w0 (SegDec w0 E []) := by
 have hS := St.start w0
 have HE := hid hE
 clear hE
 go_enter Tryd.func24, Tryd.ntmps24
 repeat' (first
  | ((with_reducible apply gs9 21); refine wpl_call (f := 37) Tryd.call37 kr9 ?_; refine ⟨_, (made_bad _ C1 C2 S1 S2 a1 a2 n1 n2 k1 k2 hC1 hC2 (hs1.ext hS.1) (hs2.ext hS.1) hn1 hn2 E HE.out h0), ?_⟩; rintro e w ⟨rfl, hE2⟩; replace hS := hS.ext hE2; clear hE2; refine ⟨_, rfl, ?_⟩; refine put_move ?_; go_step) | ((first | (with_reducible apply mv9) | (with_reducible apply as9)); (first | go_big_want | go_step); go_step) | ((with_reducible apply gt9 _ (.extract _ _)); (refine wvv9 (V.extract rfl rfl) ?_; go_step)) | ((with_reducible apply gt9 _ (.binOp .neq 25 _ _ _)); (refine wvv9 (V.neq rfl rfl) ?_; go_step)) | ((with_reducible apply gs9 3); (refine wl9 ?_; apply wp_boxP (o := ⟨some 3, _, _, _, _, _⟩) hS 33 _ rfl _ rfl; clear hS; intro g3 w hS; refine put_move ?_; go_step)) | ((with_reducible apply gt9 _ (.load 33 _)); (refine wl9 ?_; apply wp_loadPP hS 33 _ rfl _ _ rfl 34 (row_of rfl) _; (case hp => exact pl9); (case hi => (repeat (first | (apply AtP.head; (repeat (first | exact Pre.nil | (apply Pre.ints; (case hn => (first | (with_reducible assumption) | exact Len.rep | exact Len.set (by with_reducible assumption) | exact Len.set Len.rep | exact Len.set (Len.set Len.rep))); (case h => omega); (case hm => rfl)) | apply Pre.val))) | (apply AtP.skipI; (case hn => (first | (with_reducible assumption) | exact Len.rep | exact Len.set (by with_reducible assumption) | exact Len.set Len.rep | exact Len.set (Len.set Len.rep))); (case h => omega); (case ho => rfl)) | apply AtP.skipV))); refine put_move ?_; go_step)) | ((fail_if_success with_reducible apply ga9); go_step))
 all_goals (try (have hF : False := (by omega); cases hF))
 refine ret_all (xs := [_, _]) rfl (.cons (OneRes.tmp rfl) (.cons (OneRes.tmp rfl) (.nil))) (by simp) rfl ?_
 exact dec_err E rfl rfl hS.1
set_option maxHeartbeats 8000000 in
theorem segDecode_arg (w0 : World) (C1 C2 S1 S2 : List Int) (a1 a2 : Option Addr) (n1 n2 k1 k2 : Nat) (hC1 : Len C1 16) (hC2 : Len C2 16) (hs1 : Sl w0 1 (.slice a1 n1 k1) n1 (S1.map (Value.int .i64))) (hs2 : Sl w0 1 (.slice a2 n2 k2) n2 (S2.map (Value.int .i64))) (hn1 : n1 ≤ 9223372036854775807) (hn2 : n2 ≤ 9223372036854775807) (ad : Option Addr) (nb c : Nat) (z : Int) (hT1 : tabE C1 S1 = 0) (hT2 : tabE C2 S2 = 0) (hz : z < 0 ∨ 400 < z) :
 Calls Tryd.prog 24 #[.agg (pcells [.ints C1, .val (.slice a1 n1 k1), .ints C2, .val (.slice a2 n2 k2)]).toArray, .slice ad nb c, .int .i64 z] w0 (SegDec w0 1 []) := by
 have hS := St.start w0
 have HT1 := hid hT1
 have HT2 := hid hT2
 clear hT1 hT2
 rcases hz with hz | hz
 all_goals
  go_enter Tryd.func24, Tryd.ntmps24
  repeat' (first
   | ((with_reducible apply gs9 21); refine wpl_call (f := 37) Tryd.call37 kr9 ?_; refine ⟨_, (made_ok _ C1 C2 S1 S2 a1 a2 n1 n2 k1 k2 hC1 hC2 (hs1.ext hS.1) (hs2.ext hS.1) hn1 hn2 HT1.out HT2.out), ?_⟩; rintro e w ⟨gc, rfl, hS2⟩; replace hS := hS.call1 hS2; clear hS2; refine ⟨_, rfl, ?_⟩; refine put_move ?_; go_step) | ((first | (with_reducible apply mv9) | (with_reducible apply as9)); (first | go_big_want | go_step); go_step) | ((with_reducible apply gt9 _ (.extract _ _)); (refine wvv9 (V.extract rfl rfl) ?_; go_step)) | ((with_reducible apply gt9 _ (.binOp .neq 25 _ _ _)); (refine wvv9 (V.neq rfl rfl) ?_; go_step)) | ((with_reducible apply gs9 3); (refine wl9 ?_; apply wp_boxP (o := ⟨some 3, _, _, _, _, _⟩) hS 33 _ rfl _ rfl; clear hS; intro g3 w hS; refine put_move ?_; go_step)) | ((with_reducible apply gt9 _ (.load 33 _)); (refine wl9 ?_; apply wp_loadPP hS 33 _ rfl _ _ rfl 34 (row_of rfl) _; (case hp => exact pl9); (case hi => (repeat (first | (apply AtP.head; (repeat (first | exact Pre.nil | (apply Pre.ints; (case hn => (first | (with_reducible assumption) | exact Len.rep | exact Len.set (by with_reducible assumption) | exact Len.set Len.rep | exact Len.set (Len.set Len.rep))); (case h => omega); (case hm => rfl)) | apply Pre.val))) | (apply AtP.skipI; (case hn => (first | (with_reducible assumption) | exact Len.rep | exact Len.set (by with_reducible assumption) | exact Len.set Len.rep | exact Len.set (Len.set Len.rep))); (case h => omega); (case ho => rfl)) | apply AtP.skipV))); refine put_move ?_; go_step)) | ((fail_if_success with_reducible apply ga9); go_step))
  all_goals (try (have hF : False := (by omega); cases hF))
  repeat' (first
   | go_skip | ((first | (with_reducible apply mv9) | (with_reducible apply as9)); (first | go_big_want | go_step); go_step) | ((with_reducible apply gt9 _ (.pick _ _ _)); first | (refine wplPickT rfl kr9 ?_; go_step) | (refine wplPickF rfl kr9 ?_; go_step)) | ((with_reducible apply gs9 28); (refine wplD _ (V.lss rfl rfl) kr9 (fun hB => ?_) (fun hB => ?_) <;> (try (have hF : False := (by omega); cases hF)) <;> go_step)) | ((with_reducible apply gt9 _ (.binOp .gtr _ _ _ _)); (refine wvv9 (V.gtr rfl rfl) ?_; go_step)) | ((fail_if_success with_reducible apply ga9); go_step))
  all_goals (try (have hF : False := (by omega); cases hF))
  refine ret_all (xs := [_, _]) rfl (.cons (OneRes.tmp rfl) (.cons (OneRes.tmp rfl) (.nil))) (by simp) rfl ?_
  exact dec_err 1 rfl rfl hS.1
set_option maxHeartbeats 8000000 in
theorem segDecode_plain (w0 : World) (C1 C2 S1 S2 : List Int) (a1 a2 : Option Addr) (n1 n2 k1 k2 : Nat) (hC1 : Len C1 16) (hC2 : Len C2 16) (hs1 : Sl w0 1 (.slice a1 n1 k1) n1 (S1.map (Value.int .i64))) (hs2 : Sl w0 1 (.slice a2 n2 k2) n2 (S2.map (Value.int .i64))) (hn1 : n1 ≤ 9223372036854775807) (hn2 : n2 ≤ 9223372036854775807) (ad : Option Addr) (nb c : Nat) (b : List Int) (z : Int)
 (hb : nb ≤ 1000000000) (hv : Sl w0 1 (.slice ad nb c) nb (b.map (Value.int .u8))) (hnil : ad = none → c = 0) (hx : ∀ x ∈ b, 0 ≤ x ∧ x < 256) (hml : ∃ m, w0.cell? ⟨0, 0, none⟩ = some (.int .i64 m)) (hT1 : tabE C1 S1 = 0) (hT2 : tabE C2 S2 = 0) (hz : 0 ≤ z ∧ z ≤ 400) (hno : ∀ cc, b ≠ stf cc) :
 Calls Tryd.prog 24 #[.agg (pcells [.ints C1, .val (.slice a1 n1 k1), .ints C2, .val (.slice a2 n2 k2)]).toArray, .slice ad nb c, .int .i64 z] w0 (SegDec w0 4 []) := by
 have hS := St.start w0
 have HT1 := hid hT1
 have HT2 := hid hT2
 have HX := hid hx
 have HNO := hid hno
 clear hT1 hT2 hx hno
 go_enter Tryd.func24, Tryd.ntmps24
 repeat' (first
  | ((with_reducible apply gs9 21); refine wpl_call (f := 37) Tryd.call37 kr9 ?_; refine ⟨_, (made_ok _ C1 C2 S1 S2 a1 a2 n1 n2 k1 k2 hC1 hC2 (hs1.ext hS.1) (hs2.ext hS.1) hn1 hn2 HT1.out HT2.out), ?_⟩; rintro e w ⟨gc, rfl, hS2⟩; replace hS := hS.call1 hS2; clear hS2; refine ⟨_, rfl, ?_⟩; refine put_move ?_; go_step) | ((first | (with_reducible apply mv9) | (with_reducible apply as9)); (first | go_big_want | go_step); go_step) | ((with_reducible apply gt9 _ (.extract _ _)); (refine wvv9 (V.extract rfl rfl) ?_; go_step)) | ((with_reducible apply gt9 _ (.binOp .neq 25 _ _ _)); (refine wvv9 (V.neq rfl rfl) ?_; go_step)) | ((with_reducible apply gs9 3); (refine wl9 ?_; apply wp_boxP (o := ⟨some 3, _, _, _, _, _⟩) hS 33 _ rfl _ rfl; clear hS; intro g3 w hS; refine put_move ?_; go_step)) | ((with_reducible apply gt9 _ (.load 33 _)); (refine wl9 ?_; apply wp_loadPP hS 33 _ rfl _ _ rfl 34 (row_of rfl) _; (case hp => exact pl9); (case hi => (repeat (first | (apply AtP.head; (repeat (first | exact Pre.nil | (apply Pre.ints; (case hn => (first | (with_reducible assumption) | exact Len.rep | exact Len.set (by with_reducible assumption) | exact Len.set Len.rep | exact Len.set (Len.set Len.rep))); (case h => omega); (case hm => rfl)) | apply Pre.val))) | (apply AtP.skipI; (case hn => (first | (with_reducible assumption) | exact Len.rep | exact Len.set (by with_reducible assumption) | exact Len.set Len.rep | exact Len.set (Len.set Len.rep))); (case h => omega); (case ho => rfl)) | apply AtP.skipV))); refine put_move ?_; go_step)) | ((fail_if_success with_reducible apply ga9); go_step))
 all_goals (try (have hF : False := (by omega); cases hF))
 repeat' (first
  | ((with_reducible apply mv9); (first | go_big_want | go_step); go_step) | ((with_reducible apply gt9 _ (.pick _ _ _)); (refine wplPickF rfl kr9 ?_; go_step)) | ((with_reducible apply gs9 28); (refine wplD _ (V.lss rfl rfl) kr9 (fun hB => ?_) (fun hB => ?_) <;> (try (have hF : False := (by omega); cases hF)) <;> go_step)) | ((with_reducible apply gt9 _ (.binOp .gtr _ _ _ _)); (refine wvv9 (V.gtr rfl rfl) ?_; go_step)) | ((fail_if_success with_reducible apply ga9); go_step))
 all_goals (try (have hF : False := (by omega); cases hF))
 repeat' (first
  | ((with_reducible apply gs9 35); refine wpl_call (f := 20) Tryd.call20 kr9 ?_; refine ⟨_, (plain_any w ad nb c b (hv.ext hS.1) hnil HX.out hb (by obtain ⟨m, hm⟩ := hml; exact ⟨m, hS.1.cell hm⟩)), ?_⟩; rintro e w ⟨_, hq⟩; obtain ⟨rfl, hE2⟩ := hq HNO.out; clear hq; replace hS := hS.ext hE2; clear hE2; refine ⟨_, rfl, ?_⟩; refine put_move ?_; go_step) | ((first | (with_reducible apply mv9) | (with_reducible apply as9)); (first | go_big_want | go_step); go_step) | ((with_reducible apply gt9 _ (.extract _ _)); (refine wvv9 (V.extract rfl rfl) ?_; go_step)) | ((with_reducible apply gt9 _ (.binOp .neq 25 _ _ _)); (refine wvv9 (V.neq rfl rfl) ?_; go_step)) | ((fail_if_success with_reducible apply ga9); go_step))
 all_goals (try (have hF : False := (by omega); cases hF))
 refine ret_all (xs := [_, _]) rfl (.cons (OneRes.tmp rfl) (.cons (OneRes.tmp rfl) (.nil))) (by simp) rfl ?_
 exact dec_err 4 rfl rfl hS.1
open Classical in
noncomputable def dsf (b : List Int) : Option (List Nat) := if h : ∃ l : List Nat, (∀ x ∈ l, x < 256) ∧ b = stf (byI l) then some h.choose else none
theorem dsf_some {b : List Int} {l : List Nat} (h : dsf b = some l) : (∀ x ∈ l, x < 256) ∧ b = stf (byI l) := by
 unfold dsf at h
 split at h
 · rename_i h1
   have := h1.choose_spec
   rw [Option.some.inj h] at this
   exact this
 · cases h
theorem stf_of {cc : List Int} : ∀ x ∈ cc, x ∈ stf cc := by
 intro x hx
 unfold stf rep1
 rw [List.mem_flatMap]
 refine ⟨x, hx, ?_⟩
 split
 · rename_i h; subst h; simp
 · simp
theorem dsf_none {b : List Int} (hx : ∀ x ∈ b, 0 ≤ x ∧ x < 256) (h : dsf b = none) : ∀ cc, b ≠ stf cc := by
 rintro cc rfl
 have h1 : ∃ l : List Nat, (∀ x ∈ l, x < 256) ∧ stf cc = stf (byI l) := by
  refine ⟨cc.map Int.toNat, fun x hx2 => ?_, ?_⟩
  · obtain ⟨y, hy, rfl⟩ := List.mem_map.1 hx2
    have := hx y (stf_of y hy)
    omega
  · congr 1
    unfold byI
    rw [List.map_map]
    symm
    rw [List.map_congr_left (g := id) (fun x hx2 => by have := hx x (stf_of x hx2); simp; omega), List.map_id]
 unfold dsf at h
 rw [dif_pos h1] at h
 cases h
noncomputable def segD (C1 S1 C2 S2 : List Int) (b : List Int) (z : Int) : Int × List Int :=
 if tbE C1 S1 C2 S2 = 0 then if 0 ≤ z ∧ z ≤ 400 then match dsf b with
  | none => (4, [])
  | some l => dcf (wds C1 S1) (wds C2 S2) l z.toNat
 else (1, []) else (tbE C1 S1 C2 S2, [])
theorem tbE_zero {C1 S1 C2 S2 : List Int} (h : tbE C1 S1 C2 S2 = 0) : tabE C1 S1 = 0 ∧ tabE C2 S2 = 0 := by
 unfold tbE at h
 by_cases h1 : tabE C1 S1 = 0
 · rw [if_pos h1] at h; exact ⟨h1, h⟩
 · rw [if_neg h1] at h; exact absurd h h1
theorem segDecode_any (w0 : World) (C1 C2 S1 S2 : List Int) (a1 a2 : Option Addr) (n1 n2 k1 k2 : Nat) (hC1 : Len C1 16) (hC2 : Len C2 16) (hs1 : Sl w0 1 (.slice a1 n1 k1) n1 (S1.map (Value.int .i64))) (hs2 : Sl w0 1 (.slice a2 n2 k2) n2 (S2.map (Value.int .i64))) (hn1 : n1 ≤ 9223372036854775807) (hn2 : n2 ≤ 9223372036854775807) (ad : Option Addr) (nb c : Nat) (b : List Int) (z : Int)
 (hb : nb ≤ 1000000000) (hv : Sl w0 1 (.slice ad nb c) nb (b.map (Value.int .u8))) (hnil : ad = none → c = 0) (hx : ∀ x ∈ b, 0 ≤ x ∧ x < 256) (hml : ∃ m, w0.cell? ⟨0, 0, none⟩ = some (.int .i64 m)) (R : Int × List Int) (hR : segD C1 S1 C2 S2 b z = R) :
 Calls Tryd.prog 24 #[.agg (pcells [.ints C1, .val (.slice a1 n1 k1), .ints C2, .val (.slice a2 n2 k2)]).toArray, .slice ad nb c, .int .i64 z] w0 (SegDec w0 R.1 R.2) := by
 subst hR
 unfold segD
 by_cases hT : tbE C1 S1 C2 S2 = 0
 · rw [if_pos hT]
   obtain ⟨h1, h2⟩ := tbE_zero hT
   by_cases hz : 0 ≤ z ∧ z ≤ 400
   · rw [if_pos hz]
     cases hd : dsf b with
     | none => exact segDecode_plain w0 C1 C2 S1 S2 a1 a2 n1 n2 k1 k2 hC1 hC2 hs1 hs2 hn1 hn2 ad nb c b z hb hv hnil hx hml h1 h2 hz (dsf_none hx hd)
     | some l =>
      obtain ⟨hl, rfl⟩ := dsf_some hd
      obtain ⟨n, rfl⟩ : ∃ n : Nat, z = (n : Int) := ⟨z.toNat, by omega⟩
      exact segDecode_run w0 C1 C2 S1 S2 a1 a2 n1 n2 k1 k2 hC1 hC2 hs1 hs2 hn1 hn2 ad nb c l n hb hv hnil hl hml (by omega) h1 h2 _ rfl
   · rw [if_neg hz]
     exact segDecode_arg w0 C1 C2 S1 S2 a1 a2 n1 n2 k1 k2 hC1 hC2 hs1 hs2 hn1 hn2 ad nb c z h1 h2 (by omega)
 · rw [if_neg hT]
   exact segDecode_tab w0 C1 C2 S1 S2 a1 a2 n1 n2 k1 k2 hC1 hC2 hs1 hs2 hn1 hn2 ad nb c z _ rfl hT

set_option maxRecDepth 100000
set_option linter.unusedVariables false
theorem segD_again {C1 S1 C2 S2 b : List Int} {z : Int} (h : (segD C1 S1 C2 S2 b z).1 = 0) :
 ∃ n : Nat, z = (n : Int) ∧ n ≤ 400 ∧ (segD C1 S1 C2 S2 b z).2.length = n * 64 ∧ segE C1 S1 C2 S2 (segD C1 S1 C2 S2 b z).2 n = 0 ∧ segB C1 S1 C2 S2 (segD C1 S1 C2 S2 b z).2 n = b := by
 unfold segD at h ⊢
 by_cases ht : tbE C1 S1 C2 S2 = 0
 case neg => rw [if_neg ht] at h; exact absurd h ht
 rw [if_pos ht] at h ⊢
 obtain ⟨t1, t2⟩ := tbE_zero ht
 by_cases hz : 0 ≤ z ∧ z ≤ 400
 case neg => rw [if_neg hz] at h; cases h
 rw [if_pos hz] at h ⊢
 cases hd : dsf b with
 | none => rw [hd] at h; cases h
 | some l =>
  rw [hd] at h
  dsimp only at h ⊢
  obtain ⟨hl, hb⟩ := dsf_some hd
  obtain ⟨k1, k2, k3, k4⟩ := dcf_again (wds_good t1) (wds_good t2) hl h
  have hz2 : z.toNat ≤ 400 := by omega
  have hblk : blkE (dcf (wds C1 S1) (wds C2 S2) l z.toNat).2 z.toNat = 0 := by
   unfold blkE
   rw [if_neg (by omega), if_pos k2]
  have he := enc_all (wds C1 S1) (wds C2 S2) _ [] k3
  have h0 : segE C1 S1 C2 S2 (dcf (wds C1 S1) (wds C2 S2) l z.toNat).2 z.toNat = 0 := by
   unfold segE
   rw [if_pos ht, if_pos hblk, he]
  refine ⟨z.toNat, by omega, hz2, k1, h0, ?_⟩
  unfold segB segBits
  rw [if_pos h0, he]
  dsimp only
  rw [List.nil_append, k4, hb]
theorem segD_nil {C1 S1 C2 S2 b : List Int} {z : Int} (h : (segD C1 S1 C2 S2 b z).1 ≠ 0) : (segD C1 S1 C2 S2 b z).2 = [] := by
 unfold segD at h ⊢
 by_cases ht : tbE C1 S1 C2 S2 = 0
 case neg => rw [if_neg ht]
 rw [if_pos ht] at h ⊢
 by_cases hz : 0 ≤ z ∧ z ≤ 400
 case neg => rw [if_neg hz]
 rw [if_pos hz] at h ⊢
 cases hd : dsf b with
 | none => rfl
 | some l =>
  rw [hd] at h
  dsimp only at h ⊢
  unfold dcf at h ⊢
  by_cases he : (dcl (tkNext (wds C1 S1) (wds C2 S2) l) z.toNat 0 0).1 ≠ 0
  · rw [if_pos he]
  · rw [if_neg he] at h ⊢
    split at h
    · exact absurd rfl h
    · rename_i hc
      rw [if_neg hc]

end Go.Proofs.YtehbjhocgnfpmaaDoor
/- The walks of the reference's parts, and of evenly and pieces. -/
namespace Go.Proofs.YtehbjhocgnfpmaaDoor
open Go.RowKit
set_option linter.unusedVariables false
def ptsA (every : Nat) : Nat → Nat → List Int
 | 0, _ => []
 | f + 1, n => if 0 < n then ((min n every : Nat) : Int) :: ptsA every f (n - min n every) else []
def pts (n every : Nat) : List Int := if every = 0 ∨ n = 0 then [(n : Int)] else ptsA every n n
theorem ptsA_len (every : Nat) (h : 0 < every) : ∀ f n, (ptsA every f n).length ≤ n
 | 0, n => by simp [ptsA]
 | f + 1, n => by
  unfold ptsA
  by_cases h0 : 0 < n
  · rw [if_pos h0, List.length_cons]
    have := ptsA_len every h f (n - min n every)
    omega
  · rw [if_neg h0]; simp
set_option maxRecDepth 100000 in
set_option maxHeartbeats 4000000 in
theorem parts_any (w0 : World) (n every : Nat) (hn : n ≤ 1048576) (he : every ≤ 1048576) :
 Calls Tryd.prog 64 #[.int .i64 n, .int .i64 every] w0 fun e w => ∃ ad c m, (pts n every).length = m ∧ e = .returned (.slice ad m c) ∧ St w0 w [own 3 1 ad m c ((pts n every).map (Value.int .i64))] := by
 have hS := St.start w0
 by_cases h0 : every = 0 ∨ n = 0
 · have HP := hid (show pts n every = [(n : Int)] by unfold pts; rw [if_pos h0])
   go_enter Tryd.func64, Tryd.ntmps64
   repeat' (first
    | ((with_reducible apply gs9 13); (refine wl9 ?_; apply wp_buildSliceO (o := ⟨some 13, _, _, _, _, _⟩) hS 24 1 _ rfl 3 1 8 el24 _ _; (case hvs => (repeat (first | exact Parts.nil | (apply Parts.agg; (rfl); (rfl)) | (apply Parts.one; exact isv9; (rfl); (rfl))))); (case hn => rfl); (case hn0 => decide); (case hns => decide); clear hS; intro g13 w hS; refine put_move ?_; go_step)) | go_skip | ((first | (with_reducible apply mv9) | (with_reducible apply as9)); (first | go_big_want | go_step); go_step) | ((with_reducible apply gt9 _ (.pick _ _ _)); first | (refine wplPickT rfl kr9 ?_; go_step) | (refine wplPickF rfl kr9 ?_; go_step)) | ((with_reducible apply gs9 7); (refine wplD _ (V.eql rfl rfl) kr9 (fun hB => ?_) (fun hB => ?_) <;> (try (have hF : False := (by omega); cases hF)) <;> go_step)) | ((with_reducible apply gt9 _ (.binOp .eql 3 _ _ _)); (refine wvv9 (V.eql rfl rfl) ?_; go_step)) | ((fail_if_success with_reducible apply ga9); go_step))
   all_goals
    go_ret
    refine ⟨_, _, 1, by rw [HP.out]; rfl, rfl, ?_⟩
    rw [HP.out]
    exact hS.sub (xs := [own 3 1 (some ⟨g13, 0, none⟩) 1 1 [.int .i64 (n : Nat)]]) sb9
 · have HP := hid (show pts n every = ptsA every n n by unfold pts; rw [if_neg h0])
   go_enter Tryd.func64, Tryd.ntmps64
   repeat' (first
    | ((first | (with_reducible apply mv9) | (with_reducible apply as9)); (first | go_big_want | go_step); go_step) | ((with_reducible apply gt9 _ (.pick _ _ _)); (refine wplPickF rfl kr9 ?_; go_step)) | ((with_reducible apply gs9 7); (refine wplD _ (V.eql rfl rfl) kr9 (fun hB => ?_) (fun hB => ?_) <;> (try (have hF : False := (by omega); cases hF)) <;> go_step)) | ((with_reducible apply gt9 _ (.binOp .eql 3 _ _ _)); (refine wvv9 (V.eql rfl rfl) ?_; go_step)) | ((fail_if_success with_reducible apply ga9); go_step))
   repeat' (first
    | ((fail_if_success with_reducible apply ga9); go_step))
   replace hS := hS.nilk 3 1 .i64
   have he1 : 0 < every := by omega
   go_loopg [0, 5] n (fun gk nv ov w => ∃ (r m : Nat) (o : List Int) (ad : Option Addr) (c : Nat), nv = .int .i64 r ∧ ov = .slice ad m c ∧ r ≤ gk ∧ gk ≤ n ∧ m + r ≤ n ∧ Hid (o.length = m) ∧ Hid (pts n every = o ++ ptsA every gk r) ∧ St w0 w [own 3 1 ad m c (o.map (Value.int .i64))])
   case atStart => exact ⟨n, 0, [], none, 0, rfl, rfl, Nat.le_refl _, Nat.le_refl _, by omega, hid rfl, hid (by rw [HP.out]; rfl), hS⟩
   case round =>
    clear hS
    obtain ⟨r, m, o, ad, c, rfl, rfl, hr, hg, hm, HO, HA, hS⟩ := hrel
    by_cases hr0 : 0 < r
    · obtain ⟨f, rfl⟩ : ∃ f, gk = f + 1 := ⟨gk - 1, by omega⟩
      have ha := HA.out
      rw [ptsA, if_pos hr0] at ha
      obtain ⟨q, hq⟩ : ∃ q, min r every = q := ⟨_, rfl⟩
      have hq1 : 1 ≤ q ∧ q ≤ r := by omega
      rw [hq] at ha
      have HA2 := hid ha
      have HQ := hid hq
      clear ha
      repeat' (first
       | ((with_reducible apply gs9 19); (refine wplV (.int _ (((q : Nat) : Int))) (V.as (V.min rfl rfl) (by omega)) rfl ?_; go_step)) | ((with_reducible apply gs9 25); (refine wplV (.int _ (((q : Nat) : Int))) (V.as (V.min rfl rfl) (by omega)) rfl ?_; go_step)) | ((with_reducible apply gs9 26); (refine wplV (.int _ (((r - q : Nat) : Int))) (V.as (V.subI rfl rfl (by omega)) (by omega)) rfl ?_; go_step)) | ((first | (with_reducible apply mv9) | (with_reducible apply as9)); (first | go_big_want | go_step); go_step) | ((with_reducible apply gt9 _ (.binOp .gtr _ _ _ _)); (refine wvv9 (V.gtr rfl rfl) ?_; go_step)) | ((with_reducible apply gs9 20); (refine wl9 ?_; apply wp_buildSlice1 (o := ⟨some 20, _, _, _, _, _⟩) hS 24 1 _ rfl 3 1 8 el24 _ _; (case hvs => (repeat (first | exact Parts.nil | (apply Parts.agg; (rfl); (rfl)) | (apply Parts.one; exact isv9; (rfl); (rfl))))); (case hn => rfl); (case hn0 => decide); (case hns => decide); clear hS; intro g20 w hS; refine put_move ?_; go_step)) | ((with_reducible apply gs9 21); (refine wl9 ?_; apply wp_append (o := ⟨some 21, _, _, _, _, _⟩) hS _ _ 24 rfl 3 1 8 el24 _ _ _ _ rfl; (case hp => exact pl9); (case hx => exact rfl); (case hm => (first | exact hS.slBlk pl9 (by rfl) (by decide) | exact hS.sl pl9 | with_reducible assumption | exact Sl.ext (by with_reducible assumption) hS.1 | exact Sl.nil _ _ | exact Sl.ext (by assumption) hS.1 | assumption)); (case h1 => (first | exact oneAll rfl | exact oneMap _ _ | (intro u hu; cases hu))); (case h63 => unfold maxLen; omega); (case hb => omega); clear hS; intro ad21 c21 w hS; (first | simp only [mapk1] at hS | simp only [mapk2] at hS | simp only [mapk3] at hS | simp only [mapk4] at hS | simp only [mapkl] at hS | skip); refine put_move ?_; go_step)) | ((fail_if_success with_reducible apply ga9); go_step))
      go_roundg f
      case measure => omega
      case rel => exact ⟨r - q, m + 1, o ++ [(q : Int)], ad21, c21, rfl, rfl, by omega, by omega, by omega, hid (by rw [List.length_append, HO.out]; rfl), hid (by rw [HA2.out]; simp), hS.sub sb9⟩
    · have hp : pts n every = o := by
       rw [HA.out]
       have : ptsA every gk r = [] := by
        cases gk with
        | zero => rfl
        | succ f => rw [ptsA, if_neg hr0]
       rw [this, List.append_nil]
      have HPO := hid hp
      clear hp
      repeat' (first
       | ((first | (with_reducible apply mv9) | (with_reducible apply as9)); (first | go_big_want | go_step); go_step) | ((with_reducible apply gt9 _ (.binOp .gtr _ _ _ _)); (refine wvv9 (V.gtr rfl rfl) ?_; go_step)) | ((fail_if_success with_reducible apply ga9); go_step))
      repeat' (first
       | ((fail_if_success with_reducible apply ga9); go_step))
      go_ret
      refine ⟨_, _, m, by rw [HPO.out]; exact HO.out, rfl, ?_⟩
      rw [HPO.out]
      exact hS.sub sb9

def frF (l : List Int) : List Int → List Int
 | [] => []
 | q :: ps => syF l q.toNat ++ frF (l.drop (q.toNat * 64)) ps
def frR (l : List Int) : List Int → List Int
 | [] => []
 | q :: ps => syR l q.toNat ++ frR (l.drop (q.toNat * 64)) ps
theorem seg_take {l : List Int} {q k : Nat} (h : k < q) : seg (l.take (q * 64)) 64 k = seg l 64 k := by
 unfold seg
 rw [List.drop_take, List.take_take, Nat.min_eq_left (by omega)]
theorem tkb_take {l : List Int} {q k : Nat} (h : k < q) : tkb (l.take (q * 64)) k = tkb l k := by
 unfold tkb bef
 rw [seg_take h]
 by_cases h0 : k = 0
 · rw [if_pos h0, if_pos h0]
 · rw [if_neg h0, if_neg h0, seg_take (by omega)]
theorem syF_take (l : List Int) (q : Nat) : syF (l.take (q * 64)) q = syF l q := by
 unfold syF
 have : ∀ n, n ≤ q → (List.range n).flatMap (fun k => ((tkb (l.take (q * 64)) k).take 1).map (·.1)) = (List.range n).flatMap (fun k => ((tkb l k).take 1).map (·.1)) := by
  intro n
  induction n with
  | zero => intro _; rfl
  | succ n ih =>
   intro hn
   rw [List.range_succ, List.flatMap_append, List.flatMap_append, ih (by omega)]
   simp [tkb_take (l := l) (show n < q by omega)]
 exact this q (Nat.le_refl _)
theorem syR_take (l : List Int) (q : Nat) : syR (l.take (q * 64)) q = syR l q := by
 unfold syR
 have : ∀ n, n ≤ q → (List.range n).flatMap (fun k => ((tkb (l.take (q * 64)) k).drop 1).map (·.1)) = (List.range n).flatMap (fun k => ((tkb l k).drop 1).map (·.1)) := by
  intro n
  induction n with
  | zero => intro _; rfl
  | succ n ih =>
   intro hn
   rw [List.range_succ, List.flatMap_append, List.flatMap_append, ih (by omega)]
   simp [tkb_take (l := l) (show n < q by omega)]
 exact this q (Nat.le_refl _)
def ptsOk : Nat → List Int → Prop
 | _, [] => True
 | r, q :: ps => 0 ≤ q ∧ q.toNat ≤ r ∧ ptsOk (r - q.toNat) ps
theorem ptsA_ok (every : Nat) : ∀ f n, ptsOk n (ptsA every f n)
 | 0, n => trivial
 | f + 1, n => by
  unfold ptsA
  by_cases h0 : 0 < n
  · rw [if_pos h0]
    exact ⟨by omega, by omega, by rw [Int.toNat_natCast]; exact ptsA_ok every f _⟩
  · rw [if_neg h0]; trivial
theorem pts_ok (n every : Nat) : ptsOk n (pts n every) := by
 unfold pts
 split
 · exact ⟨by omega, by omega, trivial⟩
 · exact ptsA_ok every n n
theorem pts_len (n every : Nat) : (pts n every).length ≤ n + 1 := by
 unfold pts
 by_cases h : every = 0 ∨ n = 0
 · rw [if_pos h]; simp
 · rw [if_neg h]
   have := ptsA_len every (by omega) n n
   omega
theorem cnt_add {A X : List Int} {s : Nat} (h : s < 256) : nth (cnt A) s + nth (cnt X) s = nth (cnt (A ++ X)) s := by
 rw [cnt_nth _ h, cnt_nth _ h, cnt_nth _ h, List.count_append]; push_cast; rfl
theorem call_two {W w w' : World} {rs : List Res} {r s : Res} (h : St W w rs) (h' : St w w' [r, s]) : St W w' (r :: s :: rs) := h.call h'
set_option maxRecDepth 100000 in
set_option maxHeartbeats 8000000 in
theorem frameCounts_any (w0 : World) (ad : Option Addr) (n c : Nat) (l : List Int) (every : Nat) (hn : n ≤ 1048576) (he : every ≤ 1048576) (hv : Sl w0 64 (.slice ad n c) n (l.map (Value.int .i64))) :
 Calls Tryd.prog 46 #[.slice ad n c, .int .i64 every] w0 fun e w => ∃ g1 g2, e = .returned (.tuple #[.slice (some ⟨g1, 0, none⟩) 256 256, .slice (some ⟨g2, 0, none⟩) 256 256]) ∧ St w0 w [own 3 1 (some ⟨g1, 0, none⟩) 256 256 ((cnt (frF l (pts n every))).map (Value.int .i64)), own 3 1 (some ⟨g2, 0, none⟩) 256 256 ((cnt (frR l (pts n every))).map (Value.int .i64))] := by
 have hl : l.length = n * 64 := by have := hv.1; simpa using this
 have HL := hid hl
 clear hl
 have hps := pts_ok n every
 obtain ⟨P, hP⟩ : ∃ P, pts n every = P := ⟨_, rfl⟩
 rw [hP] at hps ⊢
 have HPS := hid hps
 have HPE := hid hP
 clear hP hps
 have hS := St.start w0
 go_enter Tryd.func46, Tryd.ntmps46
 repeat' (first
  | ((with_reducible apply as9); (first | go_big_want | go_step); go_step) | ((fail_if_success with_reducible apply ga9); go_step))
 apply wp_join2 (rs := fun g13 g14 => [own 3 1 (some ⟨g13, 0, none⟩) 256 256 ((cnt []).map (Value.int .i64)), own 3 1 (some ⟨g14, 0, none⟩) 256 256 ((cnt []).map (Value.int .i64))])
 · skip
   refine drawn_lit [] (fun _ => True) kr9 ?_
   replace hS := hS.drew
   focus
    refine branch [0, 1] kr9 (by simp) (.cons al9 rfl ?_ (.cons al9 rfl ?_ (.nil)))
    rotate_left 1
    focus
     (refine wp_make (o := ⟨some 14, _, _, _, _, _⟩) hS 24 _ _ rfl _ _ _ _ elz24 _ _ _ _ _ _ rfl rfl isn9 isn9 (by omega) (by omega) (by unfold maxLen; omega) ?_; clear hS; intro g14 w hS)
     refine ⟨fun _ h => h, ?_⟩
     refine drawn_move ?_
     go_step
     refine branch1 0 al9 rfl kr9 ?_
     (refine wp_make (o := ⟨some 13, _, _, _, _, _⟩) hS 24 _ _ rfl _ _ _ _ elz24 _ _ _ _ _ _ rfl rfl isn9 isn9 (by omega) (by omega) (by unfold maxLen; omega) ?_; clear hS; intro g13 w hS)
     refine ⟨fun _ h => h, ?_⟩
     refine drawn_move ?_
     go_step
     refine takeA 2 _ al9 kr9 kr9 kr9 (fun _ _ _ _ h => nomatch h.1) rfl ?_
     go_step
     refine takeA 3 _ al9 kr9 kr9 kr9 (fun _ _ _ _ h => nomatch h.1) rfl ?_
     go_step
     refine drawn_done kr9 ?_ _
     exact ⟨rfl, g13, g14, rfl, by rw [cnt_nil]; exact hS.sub sb9⟩
    rotate_right 1
    focus
     (refine wp_make (o := ⟨some 13, _, _, _, _, _⟩) hS 24 _ _ rfl _ _ _ _ elz24 _ _ _ _ _ _ rfl rfl isn9 isn9 (by omega) (by omega) (by unfold maxLen; omega) ?_; clear hS; intro g13 w hS)
     refine ⟨fun _ h => h, ?_⟩
     refine drawn_move ?_
     go_step
     refine takeA 2 _ al9 kr9 kr9 kr9 (fun _ _ _ _ h => nomatch h.1) rfl ?_
     go_step
     refine branch1 1 al9 rfl kr9 ?_
     (refine wp_make (o := ⟨some 14, _, _, _, _, _⟩) hS 24 _ _ rfl _ _ _ _ elz24 _ _ _ _ _ _ rfl rfl isn9 isn9 (by omega) (by omega) (by unfold maxLen; omega) ?_; clear hS; intro g14 w hS)
     refine ⟨fun _ h => h, ?_⟩
     refine drawn_move ?_
     go_step
     refine takeA 3 _ al9 kr9 kr9 kr9 (fun _ _ _ _ h => nomatch h.1) rfl ?_
     go_step
     refine drawn_done kr9 ?_ _
     exact ⟨rfl, g13, g14, rfl, by rw [cnt_nil]; exact hS.sub sb9⟩
 clear hS
 intro g13 g14 w hS
 · skip
   repeat' (first
    | ((with_reducible apply gt9 _ (.call ⟨.value (.func 64), _, _⟩)); refine wpl_call (f := 64) Tryd.call64 kr9 ?_; refine ⟨_, (parts_any _ n every hn he), ?_⟩; rintro e w ⟨a8, c8, m8, hm8, rfl, hS2⟩; rw [HPE.out] at hm8 hS2; have HM8 := hid hm8; replace hS := hS.call1 hS2; clear hS2 hm8; refine ⟨_, rfl, ?_⟩; refine put_move ?_; go_step) | ((with_reducible apply mv9); (first | go_big_want | go_step); go_step) | ((with_reducible apply gt9 _ (.call ⟨.builtin .len, _, _⟩)); (refine wvv9 (V.len Tryd.underlying22 rfl) ?_; go_step)) | ((with_reducible apply gt9 _ (.call ⟨.builtin .len, _, _⟩)); (refine wvv9 (V.len Tryd.underlying24 rfl) ?_; go_step)) | ((fail_if_success with_reducible apply ga9); go_step))
   have hm8b : m8 ≤ n + 1 := by rw [← HM8.out, ← HPE.out]; exact pts_len n every
   go_loopg [0, 20] m8 (fun gk sv kv w => ∃ (k r : Nat) (ad : Option Addr) (c : Nat) (L A B : List Int), gk + k = m8 ∧ kv = .int .i64 k ∧ sv = .slice ad r c ∧ r ≤ n ∧ A.length + r * 64 ≤ n * 64 ∧ B.length + r * 64 ≤ n * 64 ∧ Sl w0 64 (.slice ad r c) r (L.map (Value.int .i64)) ∧ Hid (ptsOk r (P.drop k)) ∧ Hid (frF l P = A ++ frF L (P.drop k)) ∧ Hid (frR l P = B ++ frR L (P.drop k)) ∧ St w0 w [own 3 1 a8 m8 c8 (P.map (Value.int .i64)), own 3 1 (some ⟨g13, 0, none⟩) 256 256 ((cnt A).map (Value.int .i64)), own 3 1 (some ⟨g14, 0, none⟩) 256 256 ((cnt B).map (Value.int .i64))])
   case atStart => exact ⟨0, n, ad, c, l, [], [], rfl, rfl, rfl, Nat.le_refl _, by simp, by simp, hv, HPS, hid rfl, hid rfl, hS⟩
   case round =>
    clear hS
    obtain ⟨k, r, ad3, c3, L, A, B, hk, rfl, rfl, hrn, hAl, hBl, hv3, HO, HF, HR, hS⟩ := hrel
    by_cases hlt : k < m8
    · have hLl : L.length = r * 64 := by have := hv3.1; simpa using this
      have hdr : P.drop k = nth P k :: P.drop (k + 1) := by
       rw [List.drop_eq_getElem_cons (by rw [HM8.out]; omega)]
       simp [nth, List.getD, HM8.out, hlt]
      obtain ⟨q, hq⟩ : ∃ q, nth P k = q := ⟨_, rfl⟩
      rw [hq] at hdr
      have ho := HO.out
      have hf := HF.out
      have hr := HR.out
      rw [hdr] at ho hf hr
      obtain ⟨o1, o2, o3⟩ := ho
      rw [frF] at hf
      rw [frR] at hr
      obtain ⟨b, rfl⟩ : ∃ b : Nat, q = (b : Int) := ⟨q.toNat, by omega⟩
      rw [Int.toNat_natCast] at o2 o3 hf hr
      have HQ := hid hq
      have HO2 := hid o3
      have HF2 := hid hf
      have HR2 := hid hr
      clear HO HF HR hdr hq o3 hf hr
      have hcc := hv3.cutAt 0 b (by omega) (by omega)
      rw [show ((L.map (Value.int .i64)).drop (0 * 64)).take ((b - 0) * 64) = (L.take (b * 64)).map (Value.int .i64) by simp] at hcc
      have hc2 := hv3.cutAt b r (by omega) (by omega)
      rw [show ((L.map (Value.int .i64)).drop (b * 64)).take ((r - b) * 64) = (L.drop (b * 64)).map (Value.int .i64) by rw [← List.map_drop, List.take_of_length_le]; simp; omega] at hc2
      have hsy := sy_len hLl b o2
      have hrc : r ≤ c3 := by
       obtain ⟨_, a', c', e1, hnc, _⟩ := hv3
       cases e1
       exact hnc
      have HX1 := hid (syF_take L b)
      have HX2 := hid (syR_take L b)
      obtain ⟨b8, rfl⟩ := own_some (a := a8) hS pl9 (by omega)
      repeat' (first
       | ((first | (with_reducible apply mv9) | (with_reducible apply as9)); (first | go_big_want | go_step); go_step) | ((with_reducible apply gt9 _ (.binOp .lss _ _ _ _)); (refine wvv9 (V.lss rfl rfl) ?_; go_step)) | ((with_reducible apply gs9 22); (refine wvv9 (V.indexSl Tryd.underlying24 isz3 rfl rfl isn9 (by omega) (Nat.mul_one _) nq9) ?_; go_step)) | ((with_reducible apply gt9 _ (.load 3 _)); (refine wl9 ?_; apply wp_load1OI hS 3 _ rfl _ _ rfl (one_of rfl) _ _ _ _ _; (case hp => exact pl9); (case hi => omega); refine put_move ?_; go_step)) | ((fail_if_success with_reducible apply ga9); go_step))
      rw [HQ.out]
      repeat' (first
       | ((with_reducible apply gs9 28); refine wpl_call (f := 65) Tryd.call65 kr9 ?_; refine ⟨_, (refCounts_any _ (cutAt ad3 c3 0 64) (b - 0) (c3 - 0) (L.take (b * 64)) (by omega) (hcc.ext hS.1)), ?_⟩; rintro e w ⟨g1, g2, rfl, hS2⟩; rw [Nat.sub_zero, HX1.out, HX2.out] at hS2; replace hS := call_two hS hS2; clear hS2; refine ⟨_, rfl, ?_⟩; refine put_move ?_; go_step) | ((first | (with_reducible apply mv9) | (with_reducible apply as9)); (first | go_big_want | go_step); go_step) | ((with_reducible apply gt9 _ (.slice 22 _ _ _ _)); (refine wvv9 (V.slice Tryd.underlying22 isz52 rfl (by (first | exact Lo.none | exact Lo.some rfl isn9)) (by (first | exact Up.none | exact Up.some rfl isn9)) (by omega) (by omega)) ?_; go_step)) | ((with_reducible apply gt9 _ (.extract _ _)); (refine wvv9 (V.extract rfl rfl) ?_; go_step)) | ((with_reducible apply gt9 _ (.call ⟨.builtin .len, _, _⟩)); (refine wvv9 (V.len Tryd.underlying24 rfl) ?_; go_step)) | ((fail_if_success with_reducible apply ga9); go_step))
      obtain ⟨gk1, hgk1⟩ : ∃ x, x = gk := ⟨_, rfl⟩
      subst hgk1
      obtain ⟨X, hX⟩ : ∃ X, syF L b = X := ⟨_, rfl⟩
      obtain ⟨Y, hY⟩ : ∃ X, syR L b = X := ⟨_, rfl⟩
      rw [hX, hY] at hS hsy
      rw [hX] at HF2
      rw [hY] at HR2
      clear hX hY HX1 HX2 hcc
      go_loopg [36] 256 (fun gk kv w => ∃ (i : Nat) (l1 l2 : List Int), gk + i = 256 ∧ kv = .int .i64 i ∧ Hid (l1.length = 256) ∧ Hid (l2.length = 256) ∧ Hid (∀ j, j < 256 → nth l1 j = if j < i then nth (cnt (A ++ X)) j else nth (cnt A) j) ∧ Hid (∀ j, j < 256 → nth l2 j = if j < i then nth (cnt (B ++ Y)) j else nth (cnt B) j) ∧ St w0 w [own 3 1 (some ⟨b8, 0, none⟩) m8 c8 (P.map (Value.int .i64)), own 3 1 (some ⟨g13, 0, none⟩) 256 256 (l1.map (Value.int .i64)), own 3 1 (some ⟨g14, 0, none⟩) 256 256 (l2.map (Value.int .i64)), own 3 1 (some ⟨g1, 0, none⟩) 256 256 ((cnt X).map (Value.int .i64)), own 3 1 (some ⟨g2, 0, none⟩) 256 256 ((cnt Y).map (Value.int .i64))])
      case atStart => exact ⟨0, cnt A, cnt B, rfl, rfl, hid (cnt_len _), hid (cnt_len _), hid (fun j hj => by rw [if_neg (by omega)]), hid (fun j hj => by rw [if_neg (by omega)]), hS.sub sb9⟩
      case round =>
       clear hS
       obtain ⟨i, l1, l2, hi, rfl, HL1, HL2, HV1, HV2, hS⟩ := hrel
       by_cases hlt2 : i < 256
       · have e1 := HV1.out i hlt2
         have e2 := HV2.out i hlt2
         rw [if_neg (by omega)] at e1 e2
         have a1 := cnt_bd A hlt2
         have a2 := cnt_bd B hlt2
         have a3 := cnt_bd X hlt2
         have a4 := cnt_bd Y hlt2
         rw [← e1] at a1
         rw [← e2] at a2
         have HA1 := hid (show nth l1 i + nth (cnt X) i = nth (cnt (A ++ X)) i by rw [e1]; exact cnt_add hlt2)
         have HA2 := hid (show nth l2 i + nth (cnt Y) i = nth (cnt (B ++ Y)) i by rw [e2]; exact cnt_add hlt2)
         clear e1 e2
         repeat' (first
          | ((first | (with_reducible apply mv9) | (with_reducible apply as9)); (first | go_big_want | go_step); go_step) | ((with_reducible apply gt9 _ (.binOp .lss _ _ _ _)); (refine wvv9 (V.lss rfl rfl) ?_; go_step)) | ((fail_if_success with_reducible apply ga9); go_step))
         refine drawn_lit [10] (fun w => St w0 w [own 3 1 (some ⟨g13, 0, none⟩) 256 256 (l1.map (Value.int .i64)), own 3 1 (some ⟨g1, 0, none⟩) 256 256 ((cnt X).map (Value.int .i64))]) kr9 ?_
         replace hS := hS.drew
         focus
          refine takeM 0 _ al9 kr9 kr9 kr9 hq9 rfl ?_
          go_step
          refine takeM 1 _ al9 kr9 kr9 kr9 hq9 rfl ?_
          go_step
          (refine takeV 2 _ al9 kr9 kr9 kr9 hq9 (V.indexSl Tryd.underlying24 isz3 rfl rfl isn9 (by omega) (Nat.mul_one _) nq9) rfl ?_)
          go_step
          apply takeS 3 al9 kr9 kr9 kr9 hq9 [8, 9, 10] kr9 (hS.sub sb9)
          case hfr => intro w hS; ((refine wl9 ?_; apply wp_load1OI hS 3 _ rfl _ _ rfl (one_of rfl) _ _ _ _ _; (case hp => exact pl9); (case hi => omega); refine put_move ?_; go_step)); refine wpList_nil ?_; exact ⟨rfl, rfl⟩
          case hd => rfl
          refine takeM 4 _ al9 kr9 kr9 kr9 hq9 rfl ?_
          go_step
          refine takeM 5 _ al9 kr9 kr9 kr9 hq9 rfl ?_
          go_step
          (refine takeV 6 _ al9 kr9 kr9 kr9 hq9 (V.indexSl Tryd.underlying24 isz3 rfl rfl isn9 (by omega) (Nat.mul_one _) nq9) rfl ?_)
          go_step
          apply takeS 7 al9 kr9 kr9 kr9 hq9 [8, 9, 10] kr9 (hS.sub sb9)
          case hfr => intro w hS; ((refine wl9 ?_; apply wp_load1OI hS 3 _ rfl _ _ rfl (one_of rfl) _ _ _ _ _; (case hp => exact pl9); (case hi => omega); refine put_move ?_; go_step)); refine wpList_nil ?_; exact ⟨rfl, rfl⟩
          case hd => rfl
          (refine takeV 8 _ al9 kr9 kr9 kr9 hq9 (V.addI rfl rfl (by omega)) rfl ?_)
          go_step
          (refine takeV 9 _ al9 kr9 kr9 kr9 hq9 (V.indexSl Tryd.underlying24 isz3 rfl rfl isn9 (by omega) (Nat.mul_one _) nq9) rfl ?_)
          go_step
          refine branch1 10 al9 rfl kr9 ?_
          (refine wp_store1OI hS 3 _ _ rfl _ _ rfl (one_of rfl) _ _ _ _ _ pl9 _ (by rfl) (by omega) rfl ?_; clear hS; intro w hS)
          refine ⟨fun h => absurd (by decide) h, ?_⟩
          refine drawn_done kr9 ?_ _
         repeat' ((fail_if_success with_reducible apply ga9); go_step)
         refine drawn_lit [10] (fun w => St w0 w [own 3 1 (some ⟨g14, 0, none⟩) 256 256 (l2.map (Value.int .i64)), own 3 1 (some ⟨g2, 0, none⟩) 256 256 ((cnt Y).map (Value.int .i64))]) kr9 ?_
         replace hS := hS.drew
         focus
          refine takeM 0 _ al9 kr9 kr9 kr9 hq9 rfl ?_
          go_step
          refine takeM 1 _ al9 kr9 kr9 kr9 hq9 rfl ?_
          go_step
          (refine takeV 2 _ al9 kr9 kr9 kr9 hq9 (V.indexSl Tryd.underlying24 isz3 rfl rfl isn9 (by omega) (Nat.mul_one _) nq9) rfl ?_)
          go_step
          apply takeS 3 al9 kr9 kr9 kr9 hq9 [8, 9, 10] kr9 (hS.sub sb9)
          case hfr => intro w hS; ((refine wl9 ?_; apply wp_load1OI hS 3 _ rfl _ _ rfl (one_of rfl) _ _ _ _ _; (case hp => exact pl9); (case hi => omega); refine put_move ?_; go_step)); refine wpList_nil ?_; exact ⟨rfl, rfl⟩
          case hd => rfl
          refine takeM 4 _ al9 kr9 kr9 kr9 hq9 rfl ?_
          go_step
          refine takeM 5 _ al9 kr9 kr9 kr9 hq9 rfl ?_
          go_step
          (refine takeV 6 _ al9 kr9 kr9 kr9 hq9 (V.indexSl Tryd.underlying24 isz3 rfl rfl isn9 (by omega) (Nat.mul_one _) nq9) rfl ?_)
          go_step
          apply takeS 7 al9 kr9 kr9 kr9 hq9 [8, 9, 10] kr9 (hS.sub sb9)
          case hfr => intro w hS; ((refine wl9 ?_; apply wp_load1OI hS 3 _ rfl _ _ rfl (one_of rfl) _ _ _ _ _; (case hp => exact pl9); (case hi => omega); refine put_move ?_; go_step)); refine wpList_nil ?_; exact ⟨rfl, rfl⟩
          case hd => rfl
          (refine takeV 8 _ al9 kr9 kr9 kr9 hq9 (V.addI rfl rfl (by omega)) rfl ?_)
          go_step
          (refine takeV 9 _ al9 kr9 kr9 kr9 hq9 (V.indexSl Tryd.underlying24 isz3 rfl rfl isn9 (by omega) (Nat.mul_one _) nq9) rfl ?_)
          go_step
          refine branch1 10 al9 rfl kr9 ?_
          (refine wp_store1OI hS 3 _ _ rfl _ _ rfl (one_of rfl) _ _ _ _ _ pl9 _ (by rfl) (by omega) rfl ?_; clear hS; intro w hS)
          refine ⟨fun h => absurd (by decide) h, ?_⟩
          refine drawn_done kr9 ?_ _
         repeat' (first
          | ((with_reducible apply mv9); (first | go_big_want | go_step); go_step) | ((with_reducible apply gt9 _ (.binOp .add _ _ _ _)); (refine wvv9 (V.addI rfl rfl (by omega)) ?_; go_step)) | ((fail_if_success with_reducible apply ga9); go_step))
         rw [HA1.out, HA2.out] at hS
         have nset : ∀ (l : List Int) (D E : List Int), l.length = 256 → (∀ j, j < 256 → nth l j = if j < i then nth (cnt (D ++ E)) j else nth (cnt D) j) → ∀ j, j < 256 → nth (l.set i (nth (cnt (D ++ E)) i)) j = if j < i + 1 then nth (cnt (D ++ E)) j else nth (cnt D) j := fun l D E h1 h2 j hj => by
          rw [nth_set _ _ _ _ (by rw [h1]; exact hlt2)]
          by_cases h : i = j
          · subst h; rw [if_pos rfl, if_pos (by omega)]
          · rw [if_neg h, h2 j hj]
            by_cases h3 : j < i
            · rw [if_pos h3, if_pos (by omega)]
            · rw [if_neg h3, if_neg (by omega)]
         go_roundg (gk - 1)
         case measure => omega
         case rel => exact ⟨i + 1, l1.set i (nth (cnt (A ++ X)) i), l2.set i (nth (cnt (B ++ Y)) i), by omega, by go_num, hid (by rw [List.length_set]; exact HL1.out), hid (by rw [List.length_set]; exact HL2.out), hid (nset _ _ _ HL1.out HV1.out), hid (nset _ _ _ HL2.out HV2.out), hS.sub sb9⟩
       · obtain rfl : i = 256 := by omega
         have q1 : l1 = cnt (A ++ X) := cnt_ext HL1.out (cnt_len _) fun j hj => by rw [HV1.out j hj, if_pos hj]
         have q2 : l2 = cnt (B ++ Y) := cnt_ext HL2.out (cnt_len _) fun j hj => by rw [HV2.out j hj, if_pos hj]
         rw [q1, q2] at hS
         repeat' (first
          | ((with_reducible apply gt9 _ (.binOp .lss _ _ _ _)); (refine wvv9 (V.lss rfl rfl) ?_; go_step)) | ((fail_if_success with_reducible apply ga9); go_step))
         repeat' (first
          | ((with_reducible apply mv9); (first | go_big_want | go_step); go_step) | ((with_reducible apply gt9 _ (.binOp .add _ _ _ _)); (refine wvv9 (V.addI rfl rfl (by omega)) ?_; go_step)) | ((fail_if_success with_reducible apply ga9); go_step))
         go_roundg (gk1 - 1)
         case measure => omega
         case rel => exact ⟨k + 1, r - b, cutAt ad3 c3 b 64, c3 - b, L.drop (b * 64), A ++ X, B ++ Y, by omega, by go_num, rfl, by omega, by rw [List.length_append]; omega, by rw [List.length_append]; omega, hc2, HO2, hid (by rw [HF2.out, List.append_assoc]), hid (by rw [HR2.out, List.append_assoc]), hS.sub sb9⟩
    · obtain rfl : k = m8 := by omega
      have hf := HF.out
      have hr := HR.out
      rw [show P.drop k = [] by rw [List.drop_eq_nil_iff, HM8.out]; omega] at hf hr
      rw [frF, List.append_nil] at hf
      rw [frR, List.append_nil] at hr
      have HF2 := hid hf
      have HR2 := hid hr
      clear hf hr
      repeat' (first
       | ((first | (with_reducible apply mv9) | (with_reducible apply as9)); (first | go_big_want | go_step); go_step) | ((with_reducible apply gt9 _ (.binOp .lss _ _ _ _)); (refine wvv9 (V.lss rfl rfl) ?_; go_step)) | ((fail_if_success with_reducible apply ga9); go_step))
      repeat' (first
       | ((fail_if_success with_reducible apply ga9); go_step))
      refine ret_all (xs := [_, _]) rfl (.cons (OneRes.tmp rfl) (.cons (OneRes.tmp rfl) (.nil))) (by simp) rfl ?_
      refine ⟨g13, g14, rfl, ?_⟩
      rw [HF2.out, HR2.out]
      exact hS.sub sb9

end Go.Proofs.YtehbjhocgnfpmaaDoor