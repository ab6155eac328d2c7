/- The law RunAgain: its walk, and the statement. -/
import Derived.Test.YthkdckmhmiebfaaRunKeep
import Derived.Test.YthkdckmhmiebfaaRunCons
import Derived.Test.YthkdckmhmiebfaaOpen
import Derived.Test.YthkdckmhmiebfaaOpenSl
namespace Go.Proofs.Ythkdckmhmiebfaa
open Go.ChangeShapes Go.WideShapes Go.ChangeAt Go.RowKit
set_option linter.unusedVariables false
theorem frm_err {σ : Type} (next : σ → Bool → Tok × Int × σ) (before : Int) (s : σ) (h : (frm next before s).1 ≠ 0) : (frm next before s).2.1 = nought0 ∧ (frm next before s).2.2.1 = [] := by
  have key : ∀ q : Int × List Int × List Tok × σ, ∀ r : Int × List Int × List Tok × σ, r = (if q.1 ≠ 0 then (q.1, List.replicate 64 0, [], q.2.2.2) else if toksOf before q.2.1 = q.2.2.1 then (0, zfrom q.2.1, q.2.2.1, q.2.2.2) else (4, List.replicate 64 0, [], q.2.2.2)) → r.1 ≠ 0 → r.2.1 = nought0 ∧ r.2.2.1 = [] := fun q r hr h => by
    by_cases h1 : q.1 ≠ 0
    · rw [if_pos h1] at hr; rw [hr]; exact ⟨rfl, rfl⟩
    · rw [if_neg h1] at hr
      by_cases h2 : toksOf before q.2.1 = q.2.2.1
      · rw [if_pos h2] at hr; rw [hr] at h; exact absurd rfl h
      · rw [if_neg h2] at hr; rw [hr]; exact ⟨rfl, rfl⟩
  obtain ⟨r, hr⟩ : ∃ r, frm next before s = r := ⟨_, rfl⟩
  rw [hr] at h ⊢
  unfold frm at hr
  by_cases h1 : (next s true).2.1 ≠ 0
  · rw [if_pos h1] at hr; rw [← hr]; exact ⟨rfl, rfl⟩
  · rw [if_neg h1] at hr
    by_cases h2 : okFirst before (next s true).1 = false
    · rw [if_pos h2] at hr; rw [← hr]; exact ⟨rfl, rfl⟩
    · rw [if_neg h2] at hr; exact key _ r hr.symm h
theorem blk_err (before : Int) (s : List Tok) (R : Int × List Int × List Tok) (hR : blkR before s = R) (h : R.1 ≠ 0) : R.2.1 = nought0 ∧ R.2.2 = [] := by
  subst hR
  unfold blkR at h ⊢
  by_cases hb : isC before = true
  · rw [if_pos hb] at h ⊢; exact frm_err nextL before s h
  · rw [if_neg hb]; exact ⟨rfl, rfl⟩
theorem flt_take : ∀ (l : List Tok) (k : Nat), (flt l).take (k * 3) = flt (l.take k)
  | l, 0 => by simp [flt]
  | [], k + 1 => by simp [flt]
  | y :: l, k + 1 => by
    have := flt_take l k
    rw [show (k + 1) * 3 = k * 3 + 3 by omega, List.take_succ_cons]
    simp only [flt, List.flatMap_cons] at *
    rw [List.take_append, List.take_of_length_le (by simp)]
    simp only [List.length_cons, List.length_nil]
    rw [show k * 3 + 3 - (0 + 1 + 1 + 1) = k * 3 by omega, this]
theorem again_spec (before : Int) (s : List Tok) (b : List Int) (c : List Tok) (h : blkR before s = (0, b, c)) : b.length = 64 ∧ tokE before b = 0 ∧ tokL before b = c ∧ 1 ≤ c.length ∧ c.length ≤ s.length ∧ s.take c.length = c := by
  unfold blkR at h
  by_cases hb : isC before = true
  · rw [if_pos hb] at h
    have h1 : (frm nextL before s).1 = 0 := congrArg (·.1) h
    have h2 : (frm nextL before s).2.1 = b := congrArg (·.2.1) h
    have h3 : (frm nextL before s).2.2.1 = c := congrArg (·.2.2) h
    obtain ⟨c', z, e1, e2, e3, e4, e5, e6, e7⟩ := frm_cons before s h1
    rw [h3] at e2
    subst e2
    rw [h2] at e4
    have hzb : zto b = z := by rw [e4]; exact zto_zfrom z e5.1
    have hbl : b.length = 64 := by rw [e4]; exact zfrom_len z
    have hE : tokE before b = 0 := tokE_of hbl ((isC_iff _).1 hb) fun i hi => by rw [e4]; exact zfrom_bd z e5.2 i hi
    refine ⟨hbl, hE, by rw [tokL, if_pos hE, hzb, e6], e3, ?_, ?_⟩
    · rw [e1, List.length_append]; omega
    · rw [e1, List.take_left' rfl]
  · rw [if_neg hb] at h
    have := congrArg (·.1) h
    cases this
set_option maxRecDepth 100000 in
set_option maxHeartbeats 4000000 in
theorem RunAgain_walk {H : Type} {enc : TypeId × Value → H} {d0 d1 : DataW H} {p0 p1 : List MemPlace} {v0 v1 : Value} {base : Nat} (W : World)
    (o0 : Value.okWide Try.prog W .any base 3 v0) (h0 : DataW.Trod enc Try.prog W 0 (fun _ => true) true 3 v0 d0 p0) (lt0 : ∀ x ∈ p0, x.block < W.heap.size)
    (o1 : Value.okWide Try.prog W .any base 25 v1) (h1 : DataW.Trod enc Try.prog W 0 (fun _ => true) true 25 v1 d1 p1) (lt1 : ∀ x ∈ p1, x.block < W.heap.size)
    :
    Calls Try.prog 7 #[v0, v1] W fun e w' => e = .returned (.bool true) ∧ Ext W w' := by
  obtain ⟨p, rfl, _, _⟩ := op_int Try.underlying3 o0 h0
  obtain ⟨nm, ns, hns, hv, hr⟩ := op_slice .i64 Try.underlying25 3 (by kernel_rfl) 3 (by kernel_rfl) (by omega) o1 h1
  obtain ⟨ad, c, rfl, hnc, hcm⟩ : ∃ ad c, v1 = .slice ad nm c ∧ nm ≤ c ∧ c ≤ 9223372036854775807 := by
    obtain ⟨_, ad, c, h1, h2, h3, _⟩ := hv
    exact ⟨ad, c, h1, h2, by unfold maxLen at h3; exact h3⟩
  obtain ⟨hfl, hfn⟩ := flt_unflt nm ns hns
  obtain ⟨s, hs⟩ : ∃ m, unflt ns = m := ⟨_, rfl⟩
  rw [hs] at hfl hfn
  rw [← hfl] at hv
  clear o0 h0 lt0 o1 h1 lt1 hr hns hfl hs
  have hS := St.start W
  have hN0 : Len nought0 64 := List.length_replicate
  have hN1 : Len (List.replicate 64 (0 : Int)) 64 := List.length_replicate
  obtain ⟨R, hR⟩ : ∃ R, blkR p s = R := ⟨_, rfl⟩
  have HR : Veil (blkR p s = R) := ⟨hR⟩
  by_cases h1 : R.1 = 0
  case neg =>
    obtain ⟨e1, e2⟩ := blk_err p s R hR h1
    obtain ⟨E, b, all⟩ := R
    dsimp only at e1 e2 h1
    subst e1
    subst e2
    clear hR
    go_enter Try.func7, Try.ntmps7
    repeat' (first
      | ((with_reducible show wpList _ _ _ (⟨_, .call ⟨.value (.func 12), _, _⟩, _, _, _, _⟩ :: _) _ _); refine wpl_call (f := 12) Try.call12 rfl ?_; refine ⟨_, (ranned_any _), ?_⟩; rintro e w ⟨rfl, hE2⟩; replace hS := hS.ext hE2; clear hE2; refine ⟨_, rfl, ?_⟩; refine put_move ?_; go_step)
      | ((with_reducible show wpList _ _ _ (⟨_, .call ⟨.value (.func 17), _, _⟩, _, _, _, _⟩ :: _) _ _); refine wpl_call (f := 17) Try.call17 rfl ?_; refine ⟨_, (block_any _ p ad nm c s (E, nought0, []) ⟨hv.ext hS.1⟩ HR.out), ?_⟩; rintro e w ⟨rfl, hE⟩; dsimp only; rw [show ([] : List Tok).length = 0 from rfl]; replace hS := hS.ext hE; clear hE; refine ⟨_, rfl, ?_⟩; refine put_move ?_; go_step)
      | go_skip
      | go_big_skip
      | ((with_reducible show wpList _ _ _ (⟨_, .move _, _, _, _, _⟩ :: _) _ _); (first | go_big_want | go_step); go_step)
      | ((with_reducible show wpList _ _ _ (⟨_, .assign _, _, _, _, _⟩ :: _) _ _); (first | go_big_want | go_step); go_step)
      | ((with_reducible show wpList _ _ _ (⟨_, .pick _ _ _, _, _, _, _⟩ :: _) _ _); first | (refine wplPickT rfl (by kernel_rfl) ?_; go_step) | (refine wplPickF rfl (by kernel_rfl) ?_; go_step))
      | ((with_reducible show wpList _ _ _ (⟨some 23, .binOp .eql 23 _ _ _, _, _, _, _⟩ :: _) _ _); first | (refine wplD _ (V.eqlA eqt23 rfl rfl (by (repeat (first | assumption | exact Len.rep | apply Len.set | ((with_reducible show Len (_ :: _) _); exact rfl)))) (by (repeat (first | assumption | exact Len.rep | apply Len.set | ((with_reducible show Len (_ :: _) _); exact rfl))))) (by kernel_rfl) (fun hB => ?_) (fun hB => ?_) <;> (try (have hF : False := (by omega); cases hF)) <;> go_step) | (refine wplB _ (V.eqlA eqt23 rfl rfl (by (repeat (first | assumption | exact Len.rep | apply Len.set | ((with_reducible show Len (_ :: _) _); exact rfl)))) (by (repeat (first | assumption | exact Len.rep | apply Len.set | ((with_reducible show Len (_ :: _) _); exact rfl))))) (by kernel_rfl) (fun hB => ?_) (fun hB => ?_) <;> (try (have hF : False := (absurd hB (by decide)); cases hF)) <;> go_step))
      | ((with_reducible show wpList _ _ _ (⟨some 11, .unOp .not _ _, _, _, _, _⟩ :: _) _ _); first | (refine wplV _ (V.notD rfl) (by kernel_rfl) ?_; go_step) | (refine wplV _ (V.not rfl) (by kernel_rfl) ?_; go_step))
      | ((with_reducible show wpList _ _ _ (⟨some 16, .extract _ _, _, _, _, _⟩ :: _) _ _); first | (refine wplV _ (V.extract rfl rfl) (by kernel_rfl) ?_; go_step))
      | ((with_reducible show wpList _ _ _ (⟨some 17, .extract _ _, _, _, _, _⟩ :: _) _ _); first | (refine wplV _ (V.extract rfl rfl) (by kernel_rfl) ?_; go_step))
      | ((with_reducible show wpList _ _ _ (⟨some 18, .extract _ _, _, _, _, _⟩ :: _) _ _); first | (refine wplV _ (V.extract rfl rfl) (by kernel_rfl) ?_; go_step))
      | ((with_reducible show wpList _ _ _ (⟨some 20, .binOp .neq 26 _ _ _, _, _, _, _⟩ :: _) _ _); first | (refine wplV _ (V.neq rfl rfl) (by kernel_rfl) ?_; go_step))
      | ((with_reducible show wpList _ _ _ (⟨some 22, .build 23 _, _, _, _, _⟩ :: _) _ _); first | (refine wplV _ (V.build (vs := []) rfl (bl23_)) (by kernel_rfl) ?_; go_step))
      | ((with_reducible show wpList _ _ _ (⟨some 26, .binOp .eql 3 _ _ _, _, _, _, _⟩ :: _) _ _); first | (refine wplV _ (V.eql rfl rfl) (by kernel_rfl) ?_; go_step))
      | ((with_reducible show wpList _ _ _ (⟨some 5, .alloc 23, _, _, _, _⟩ :: _) _ _); first | (refine wpl (by kernel_rfl) ?_; apply wp_allocA (o := ⟨some 5, _, _, _, _, _⟩) hS 23 rfl (List.replicate 64 0) 64 List.length_replicate za23; clear hS; intro g5 w hS; refine put_move ?_; go_step))
      | ((with_reducible show wpList _ _ _ (⟨_, .store 23 _ _, _, _, _, _⟩ :: _) _ _); first | (refine wpl (by kernel_rfl) ?_; apply wp_storeA hS 23 _ _ rfl _ rfl 64 (row_of rfl) _ _; (case hp => (repeat (first | with_reducible exact Pull.head | apply Pull.tail))); (case hy => rfl); (case hm => (repeat (first | assumption | exact Len.rep | apply Len.set | ((with_reducible show Len (_ :: _) _); exact rfl)))); (case hd => exact rfl); clear hS; intro w hS) | (refine wpl (by kernel_rfl) ?_; apply wp_storeG hS 23 _ _ rfl _ rfl 64 (row_of rfl) _ _; (case hp => (repeat (first | with_reducible exact Pull.head | apply Pull.tail))); (case hy => rfl); (case hn => rfl); (case hn' => rfl); (case hv => rfl); (case hd => exact rfl); clear hS; intro w hS))
      | ((with_reducible show wpList _ _ _ (⟨_, .load 23 _, _, _, _, _⟩ :: _) _ _); first | (refine wpl (by kernel_rfl) ?_; apply wp_loadRI hS 23 _ rfl _ _ rfl 64 (row_of rfl) _; (case hl => with_reducible assumption); (case hr => with_reducible assumption); refine put_move ?_; go_step) | (refine wpl (by kernel_rfl) ?_; apply wp_loadRO hS 23 _ rfl _ _ rfl 64 (row_of rfl) _ _ _ _ _; (case hp => (repeat (first | with_reducible exact Pull.head | apply Pull.tail))); (case hi => omega); refine put_move ?_; go_step) | (refine wpl (by kernel_rfl) ?_; apply wp_loadA hS 23 _ rfl _ rfl 64 (row_of rfl) _; (case hp => (repeat (first | with_reducible exact Pull.head | apply Pull.tail))); refine put_move ?_; go_step) | (refine wpl (by kernel_rfl) ?_; apply wp_loadG hS 23 _ rfl _ rfl 64 (row_of rfl) _; (case hp => (repeat (first | with_reducible exact Pull.head | apply Pull.tail))); (case hn => rfl); refine put_move ?_; go_step) | (refine wpl (by kernel_rfl) ?_; apply wp_loadRW hS 23 _ rfl _ _ rfl 64 (row_of rfl) _; (case hc => with_reducible assumption); (case hn => rfl); refine put_move ?_; go_step))
      | ((fail_if_success (with_reducible show wpList _ _ _ (_ :: _) _ _)); go_step))
    all_goals (try (have hF : False := (by omega); cases hF))
    all_goals (try (have hF : False := (hB rfl); cases hF))
    all_goals (go_ret; first | exact ⟨rfl, hS.1⟩ | exact ⟨ret_bool (decide_eq_true (by omega)), hS.1⟩ | exact ⟨ret_bool (by simp), hS.1⟩)
  obtain ⟨E, b, all⟩ := R
  dsimp only at h1
  subst h1
  obtain ⟨a1, a2, a3, a4, a5, a6⟩ := again_spec p s b all hR
  have hbl : Len b 64 := a1
  obtain ⟨N, hN⟩ : ∃ N, all.length = N := ⟨_, rfl⟩
  rw [hN] at a4 a5 a6
  rw [hfn] at a5
  have HN := hid hN
  have A2 := hid a2
  have A3 := hid a3
  have HTk : Hid ((((flt s).map (Value.int .i64)).drop (0 * 3)).take ((N - 0) * 3) = (flt all).map (Value.int .i64)) := hid (by
    rw [Nat.zero_mul, List.drop_zero, Nat.sub_zero, ← List.map_take, flt_take, a6])
  clear hR a1 a2 a3 a6 hN
  go_enter Try.func7, Try.ntmps7
  repeat' (first
    | ((with_reducible show wpList _ _ _ (⟨_, .call ⟨.value (.func 12), _, _⟩, _, _, _, _⟩ :: _) _ _); refine wpl_call (f := 12) Try.call12 rfl ?_; refine ⟨_, (ranned_any _), ?_⟩; rintro e w ⟨rfl, hE2⟩; replace hS := hS.ext hE2; clear hE2; refine ⟨_, rfl, ?_⟩; refine put_move ?_; go_step)
    | ((with_reducible show wpList _ _ _ (⟨_, .call ⟨.value (.func 17), _, _⟩, _, _, _, _⟩ :: _) _ _); refine wpl_call (f := 17) Try.call17 rfl ?_; refine ⟨_, (block_any _ p ad nm c s (0, b, all) ⟨hv.ext hS.1⟩ HR.out), ?_⟩; rintro e w ⟨rfl, hE⟩; dsimp only; rw [HN.out]; replace hS := hS.ext hE; clear hE; refine ⟨_, rfl, ?_⟩; refine put_move ?_; go_step)
    | ((with_reducible show wpList _ _ _ (⟨_, .call ⟨.value (.func 13), _, _⟩, _, _, _, _⟩ :: _) _ _); refine wpl_call (f := 13) Try.call13 rfl ?_; refine ⟨_, (tokensOf_any _ p b hbl), ?_⟩; rintro e w ⟨a2, c2, rfl, hS2⟩; rw [A3.out, HN.out] at hS2; rw [A2.out, A3.out, HN.out]; replace hS := hS.call1 hS2; clear hS2; refine ⟨_, rfl, ?_⟩; refine put_move ?_; go_step)
    | ((with_reducible show wpList _ _ _ (⟨_, .call ⟨.value (.func 15), _, _⟩, _, _, _, _⟩ :: _) _ _); refine wpl_call (f := 15) Try.call15 rfl ?_; refine ⟨_, (eqTok_any _ a2 (cutAt ad c 0 3) N c2 (N - 0) (c - 0) (flt all) (flt all) (hS.sl (a := a2) (by (repeat (first | with_reducible exact Pull.head | apply Pull.tail)))) (by have h := (hv.ext hS.1).cutAt 0 N (by omega) (by omega); rw [HTk.out] at h; exact h) (by omega) (by omega)), ?_⟩; rintro e w ⟨rfl, hE2⟩; replace hS := hS.ext hE2; clear hE2; refine ⟨_, rfl, ?_⟩; refine put_move ?_; go_step)
    | go_skip
    | go_big_skip
    | ((with_reducible show wpList _ _ _ (⟨_, .move _, _, _, _, _⟩ :: _) _ _); (first | go_big_want | go_step); go_step)
    | ((with_reducible show wpList _ _ _ (⟨_, .assign _, _, _, _, _⟩ :: _) _ _); (first | go_big_want | go_step); go_step)
    | ((with_reducible show wpList _ _ _ (⟨_, .pick _ _ _, _, _, _, _⟩ :: _) _ _); first | (refine wplPickT rfl (by kernel_rfl) ?_; go_step) | (refine wplPickF rfl (by kernel_rfl) ?_; go_step))
    | ((with_reducible show wpList _ _ _ (⟨some 23, .binOp .eql 23 _ _ _, _, _, _, _⟩ :: _) _ _); first | (refine wplD _ (V.eqlA eqt23 rfl rfl (by (repeat (first | assumption | exact Len.rep | apply Len.set | ((with_reducible show Len (_ :: _) _); exact rfl)))) (by (repeat (first | assumption | exact Len.rep | apply Len.set | ((with_reducible show Len (_ :: _) _); exact rfl))))) (by kernel_rfl) (fun hB => ?_) (fun hB => ?_) <;> (try (have hF : False := (by omega); cases hF)) <;> go_step) | (refine wplB _ (V.eqlA eqt23 rfl rfl (by (repeat (first | assumption | exact Len.rep | apply Len.set | ((with_reducible show Len (_ :: _) _); exact rfl)))) (by (repeat (first | assumption | exact Len.rep | apply Len.set | ((with_reducible show Len (_ :: _) _); exact rfl))))) (by kernel_rfl) (fun hB => ?_) (fun hB => ?_) <;> (try (have hF : False := (absurd hB (by decide)); cases hF)) <;> go_step))
    | ((with_reducible show wpList _ _ _ (⟨some 35, .binOp .eql 26 _ _ _, _, _, _, _⟩ :: _) _ _); first | (refine wplD _ (V.eql rfl rfl) (by kernel_rfl) (fun hB => ?_) (fun hB => ?_) <;> (try (have hF : False := (by omega); cases hF)) <;> go_step) | (refine wplB _ (V.eql rfl rfl) (by kernel_rfl) (fun hB => ?_) (fun hB => ?_) <;> (try (have hF : False := (absurd hB (by decide)); cases hF)) <;> go_step))
    | ((with_reducible show wpList _ _ _ (⟨some 38, .binOp .gtr _ _ _ _, _, _, _, _⟩ :: _) _ _); first | (refine wplD _ (V.gtr rfl rfl) (by kernel_rfl) (fun hB => ?_) (fun hB => ?_) <;> (try (have hF : False := (by omega); cases hF)) <;> go_step) | (refine wplB _ (V.gtr rfl rfl) (by kernel_rfl) (fun hB => ?_) (fun hB => ?_) <;> (try (have hF : False := (absurd hB (by decide)); cases hF)) <;> go_step))
    | ((with_reducible show wpList _ _ _ (⟨some 44, .binOp .leq _ _ _ _, _, _, _, _⟩ :: _) _ _); first | (refine wplD _ (V.leq rfl rfl) (by kernel_rfl) (fun hB => ?_) (fun hB => ?_) <;> (try (have hF : False := (by omega); cases hF)) <;> go_step) | (refine wplB _ (V.leq rfl rfl) (by kernel_rfl) (fun hB => ?_) (fun hB => ?_) <;> (try (have hF : False := (absurd hB (by decide)); cases hF)) <;> go_step))
    | ((with_reducible show wpList _ _ _ (⟨some 11, .unOp .not _ _, _, _, _, _⟩ :: _) _ _); first | (refine wplV _ (V.notD rfl) (by kernel_rfl) ?_; go_step) | (refine wplV _ (V.not rfl) (by kernel_rfl) ?_; go_step))
    | ((with_reducible show wpList _ _ _ (⟨some 16, .extract _ _, _, _, _, _⟩ :: _) _ _); first | (refine wplV _ (V.extract rfl rfl) (by kernel_rfl) ?_; go_step))
    | ((with_reducible show wpList _ _ _ (⟨some 17, .extract _ _, _, _, _, _⟩ :: _) _ _); first | (refine wplV _ (V.extract rfl rfl) (by kernel_rfl) ?_; go_step))
    | ((with_reducible show wpList _ _ _ (⟨some 18, .extract _ _, _, _, _, _⟩ :: _) _ _); first | (refine wplV _ (V.extract rfl rfl) (by kernel_rfl) ?_; go_step))
    | ((with_reducible show wpList _ _ _ (⟨some 20, .binOp .neq 26 _ _ _, _, _, _, _⟩ :: _) _ _); first | (refine wplV _ (V.neq rfl rfl) (by kernel_rfl) ?_; go_step))
    | ((with_reducible show wpList _ _ _ (⟨some 22, .build 23 _, _, _, _, _⟩ :: _) _ _); first | (refine wplV _ (V.build (vs := []) rfl (bl23_)) (by kernel_rfl) ?_; go_step))
    | ((with_reducible show wpList _ _ _ (⟨some 26, .binOp .eql 3 _ _ _, _, _, _, _⟩ :: _) _ _); first | (refine wplV _ (V.eql rfl rfl) (by kernel_rfl) ?_; go_step))
    | ((with_reducible show wpList _ _ _ (⟨some 32, .extract _ _, _, _, _, _⟩ :: _) _ _); first | (refine wplV _ (V.extract rfl rfl) (by kernel_rfl) ?_; go_step))
    | ((with_reducible show wpList _ _ _ (⟨some 33, .extract _ _, _, _, _, _⟩ :: _) _ _); first | (refine wplV _ (V.extract rfl rfl) (by kernel_rfl) ?_; go_step))
    | ((with_reducible show wpList _ _ _ (⟨some 43, .call ⟨.builtin .len, _, _⟩, _, _, _, _⟩ :: _) _ _); first | (refine wplV _ (V.len Try.underlying25 rfl) (by kernel_rfl) ?_; go_step))
    | ((with_reducible show wpList _ _ _ (⟨some 50, .slice 25 _ _ _ _, _, _, _, _⟩ :: _) _ _); first | (refine wplV _ (V.slice Try.underlying25 isz32 rfl (by (first | exact Lo.none | exact Lo.some rfl (by (repeat (first | exact IsN.auto | with_reducible apply IsN.add | with_reducible apply IsN.sub | with_reducible apply IsN.mul | with_reducible apply IsN.div | with_reducible apply IsN.mod | with_reducible apply IsN.min | with_reducible apply IsN.max | (with_reducible show (_ : Nat) ≤ _; omega) | exact IsN.toNat (by omega)))))) (by (first | exact Up.none | exact Up.some rfl (by (repeat (first | exact IsN.auto | with_reducible apply IsN.add | with_reducible apply IsN.sub | with_reducible apply IsN.mul | with_reducible apply IsN.div | with_reducible apply IsN.mod | with_reducible apply IsN.min | with_reducible apply IsN.max | (with_reducible show (_ : Nat) ≤ _; omega) | exact IsN.toNat (by omega)))))) (by omega) (by omega)) (by kernel_rfl) ?_; go_step))
    | ((with_reducible show wpList _ _ _ (⟨some 5, .alloc 23, _, _, _, _⟩ :: _) _ _); first | (refine wpl (by kernel_rfl) ?_; apply wp_allocA (o := ⟨some 5, _, _, _, _, _⟩) hS 23 rfl (List.replicate 64 0) 64 List.length_replicate za23; clear hS; intro g5 w hS; refine put_move ?_; go_step))
    | ((with_reducible show wpList _ _ _ (⟨_, .store 23 _ _, _, _, _, _⟩ :: _) _ _); first | (refine wpl (by kernel_rfl) ?_; apply wp_storeA hS 23 _ _ rfl _ rfl 64 (row_of rfl) _ _; (case hp => (repeat (first | with_reducible exact Pull.head | apply Pull.tail))); (case hy => rfl); (case hm => (repeat (first | assumption | exact Len.rep | apply Len.set | ((with_reducible show Len (_ :: _) _); exact rfl)))); (case hd => exact rfl); clear hS; intro w hS) | (refine wpl (by kernel_rfl) ?_; apply wp_storeG hS 23 _ _ rfl _ rfl 64 (row_of rfl) _ _; (case hp => (repeat (first | with_reducible exact Pull.head | apply Pull.tail))); (case hy => rfl); (case hn => rfl); (case hn' => rfl); (case hv => rfl); (case hd => exact rfl); clear hS; intro w hS))
    | ((with_reducible show wpList _ _ _ (⟨_, .load 23 _, _, _, _, _⟩ :: _) _ _); first | (refine wpl (by kernel_rfl) ?_; apply wp_loadRI hS 23 _ rfl _ _ rfl 64 (row_of rfl) _; (case hl => with_reducible assumption); (case hr => with_reducible assumption); refine put_move ?_; go_step) | (refine wpl (by kernel_rfl) ?_; apply wp_loadRO hS 23 _ rfl _ _ rfl 64 (row_of rfl) _ _ _ _ _; (case hp => (repeat (first | with_reducible exact Pull.head | apply Pull.tail))); (case hi => omega); refine put_move ?_; go_step) | (refine wpl (by kernel_rfl) ?_; apply wp_loadA hS 23 _ rfl _ rfl 64 (row_of rfl) _; (case hp => (repeat (first | with_reducible exact Pull.head | apply Pull.tail))); refine put_move ?_; go_step) | (refine wpl (by kernel_rfl) ?_; apply wp_loadG hS 23 _ rfl _ rfl 64 (row_of rfl) _; (case hp => (repeat (first | with_reducible exact Pull.head | apply Pull.tail))); (case hn => rfl); refine put_move ?_; go_step) | (refine wpl (by kernel_rfl) ?_; apply wp_loadRW hS 23 _ rfl _ _ rfl 64 (row_of rfl) _; (case hc => with_reducible assumption); (case hn => rfl); refine put_move ?_; go_step))
    | ((fail_if_success (with_reducible show wpList _ _ _ (_ :: _) _ _)); go_step))
  all_goals (try (have hF : False := (by omega); cases hF))
  all_goals (go_ret; first | exact ⟨rfl, hS.1⟩ | exact ⟨ret_bool (decide_eq_true (by omega)), hS.1⟩ | exact ⟨ret_bool (by simp), hS.1⟩)
end Go.Proofs.Ythkdckmhmiebfaa
