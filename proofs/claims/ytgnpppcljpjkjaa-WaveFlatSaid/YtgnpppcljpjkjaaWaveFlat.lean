/- The law WaveFlat: its walk, and the statement. -/
import Derived.Test.YtgnpppcljpjkjaaWaveKeep
namespace Go.Proofs.Ytgnpppcljpjkjaa
open Go.ChangeShapes Go.WideShapes Go.ChangeAt Go.RowKit
set_option linter.unusedVariables false
theorem bl31_0 (m0 : Int) (w : World) : (Instr.build 31 #[(0, .int .i64 m0)]).run Try.prog w = .ok (.agg (iv ((List.replicate 64 0).set 0 m0))) w := by kernel_rfl
def oneL (n : Int) : List Int := (List.replicate 64 0).set 0 n
theorem oneL_nth (n : Int) (p : Nat) (hp : p < 64) : nth (oneL n) p = if p = 0 then n else 0 := by
  unfold oneL
  rw [nth_set _ _ _ _ (by simp)]
  by_cases h : 0 = p
  · rw [if_pos h, if_pos h.symm]
  · rw [if_neg h, if_neg (fun e => h e.symm), nth_zeros]
theorem flat_spec (n : Int) (hn : -1000 ≤ n ∧ n ≤ 1000) : wvE (List.replicate 64 n) = 0 ∧ wvE (oneL n) = 0 ∧ (∀ p, p < 64 → 0 < p → nth (wTo (List.replicate 64 n)) p = 0 ∧ nth (wFrom (oneL n)) p = nth (wFrom (oneL n)) 0) ∧
    -4 ≤ nth (wTo (List.replicate 64 n)) 0 - 8 * n ∧ nth (wTo (List.replicate 64 n)) 0 - 8 * n ≤ 4 := by
  have h1 : wvOk (List.replicate 64 n) = true := (wvOk_iff _ (by simp)).2 fun p hp => by rw [nth_rep _ _ _ hp]; omega
  have h2 : wvOk (oneL n) = true := (wvOk_iff _ (by simp [oneL])).2 fun p hp => by rw [oneL_nth _ _ hp]; split <;> omega
  have hr : ∀ p, p < 64 → nth (List.replicate 64 n) p = n := fun p hp => nth_rep _ _ _ hp
  have hF : ∀ p, p < 64 → nth (wFrom (oneL n)) p = rnd (n * 2896 * 2896) 67108864 := fun p hp => by
    unfold wFrom
    rw [nth_wvR _ _ h2 _ hp, dD_single (a := 0) (n := n) (by omega) (fun q hq => oneL_nth n q hq)]
    rfl
  refine ⟨by unfold wvE; rw [h1]; rfl, by unfold wvE; rw [h2]; rfl, fun p hp h0 => ⟨?_, by rw [hF p hp, hF 0 (by omega)]⟩, ?_⟩
  · unfold wTo
    rw [nth_wvR _ _ h1 _ hp]
    by_cases h8 : p % 8 = 0
    · rw [dD_rows (fun r k hr2 hk => by rw [hr _ (by omega), hr _ (by omega)]) _ _ (by omega) (by omega)]; rfl
    · rw [dD_cols hr _ _ (by omega) (by omega)]; rfl
  · unfold wTo
    rw [nth_wvR _ _ h1 _ (by omega), dD_flat hr]
    unfold rnd
    split <;> omega
set_option maxRecDepth 100000 in
set_option maxHeartbeats 4000000 in
theorem WaveFlat_walk {H : Type} {enc : TypeId × Value → H} {d0 : DataW H} {p0 : List MemPlace} {v0 : Value} {base : Nat} (W : World)
    (o0 : Value.okWide Try.prog W .any base 3 v0) (h0 : DataW.Trod enc Try.prog W 0 (fun _ => true) true 3 v0 d0 p0) (lt0 : ∀ x ∈ p0, x.block < W.heap.size)
    :
    Calls Try.prog 8 #[v0] W fun e w' => e = .returned (.bool true) ∧ Ext W w' := by
  obtain ⟨z, rfl, _, _⟩ := op_int Try.underlying3 o0 h0
  clear o0 h0 lt0
  obtain ⟨n, hn⟩ : ∃ n, z % 2001 - 1000 = n := ⟨_, rfl⟩
  have hnb : -1000 ≤ n ∧ n ≤ 1000 := by omega
  obtain ⟨f1, f2, f3, f4, f5⟩ := flat_spec n hnb
  unfold oneL at f2 f3
  obtain ⟨B, hB⟩ : ∃ B, wTo (List.replicate 64 n) = B := ⟨_, rfl⟩
  obtain ⟨C, hC⟩ : ∃ C, wFrom ((List.replicate 64 0).set 0 n) = C := ⟨_, rfl⟩
  rw [hB] at f3 f4 f5
  rw [hC] at f3
  have lb : Len B 64 := hB ▸ wvR_len _ _
  have lc : Len C 64 := hC ▸ wvR_len _ _
  have HN := hid hn
  have F1 := hid f1
  have F2 := hid f2
  have F3 := hid f3
  have HB := hid hB
  have HC := hid hC
  clear hn f1 f2 f3 hB hC
  have hS := St.start W
  go_enter Try.func8, Try.ntmps8
  repeat' (first
    | ((with_reducible show wpList _ _ _ (⟨some 12, .binOp .sub _ _ _ _, _, _, _, _⟩ :: _) _ _); first | (refine wplV (.int _ (n)) (V.as (V.subI rfl rfl (by omega)) (by exact HN.out)) rfl ?_; go_step) | (refine wplV (.int _ (n)) (V.as (V.subR (by decide) rfl rfl) (by exact HN.out)) rfl ?_; go_step))
    | ((with_reducible show wpList _ _ _ (⟨_, .call ⟨.value (.func 18), _, _⟩, _, _, _, _⟩ :: _) _ _); refine wpl_call (f := 18) Try.call18 rfl ?_; refine ⟨_, (waved_any _), ?_⟩; rintro e w ⟨rfl, hE⟩; replace hS := hS.ext hE; clear hE; refine ⟨_, rfl, ?_⟩; refine put_move ?_; go_step)
    | ((with_reducible show wpList _ _ _ (⟨_, .call ⟨.value (.func 20), _, _⟩, _, _, _, _⟩ :: _) _ _); refine wpl_call (f := 20) Try.call20 rfl ?_; refine ⟨_, (rest_any z 2001 _ (by omega) (by omega)), ?_⟩; rintro e w' ⟨rfl, rfl⟩; refine ⟨_, rfl, ?_⟩; refine put_move ?_; go_step)
    | ((with_reducible show wpList _ _ _ (⟨_, .call ⟨.value (.func 22), _, _⟩, _, _, _, _⟩ :: _) _ _); refine wpl_call (f := 22) Try.call22 rfl ?_; refine ⟨_, (ones_any _ n), ?_⟩; rintro e w ⟨rfl, hE⟩; replace hS := hS.ext hE; clear hE; refine ⟨_, rfl, ?_⟩; refine put_move ?_; go_step)
    | ((with_reducible show wpList _ _ _ (⟨_, .call ⟨.value (.func 19), _, _⟩, _, _, _, _⟩ :: _) _ _); refine wpl_call (f := 19) Try.call19 rfl ?_; refine ⟨_, (wTo_any _ (List.replicate 64 n) Len.rep), ?_⟩; rintro e w ⟨rfl, hE⟩; replace hS := hS.ext hE; clear hE; rw [F1.out, HB.out]; refine ⟨_, rfl, ?_⟩; refine put_move ?_; go_step)
    | ((with_reducible show wpList _ _ _ (⟨_, .call ⟨.value (.func 23), _, _⟩, _, _, _, _⟩ :: _) _ _); refine wpl_call (f := 23) Try.call23 rfl ?_; refine ⟨_, (wFrom_any _ ((List.replicate 64 0).set 0 n) Len.rep.set), ?_⟩; rintro e w ⟨rfl, hE⟩; replace hS := hS.ext hE; clear hE; rw [F2.out, HC.out]; refine ⟨_, rfl, ?_⟩; refine put_move ?_; go_step)
    | go_skip
    | go_big_skip
    | ((with_reducible show wpList _ _ _ (⟨_, .move _, _, _, _, _⟩ :: _) _ _); (first | go_big_want | go_step); go_step)
    | ((with_reducible show wpList _ _ _ (⟨_, .assign _, _, _, _, _⟩ :: _) _ _); (first | go_big_want | go_step); go_step)
    | ((with_reducible show wpList _ _ _ (⟨_, .pick _ _ _, _, _, _, _⟩ :: _) _ _); first | (refine wplPickT rfl (by kernel_rfl) ?_; go_step) | (refine wplPickF rfl (by kernel_rfl) ?_; go_step))
    | ((with_reducible show wpList _ _ _ (⟨some 26, .binOp .neq 25 _ _ _, _, _, _, _⟩ :: _) _ _); first | (refine wplD _ (V.neq rfl rfl) (by kernel_rfl) (fun hB => ?_) (fun hB => ?_) <;> (try (have hF : False := (by omega); cases hF)) <;> go_step) | (refine wplB _ (V.neq rfl rfl) (by kernel_rfl) (fun hB => ?_) (fun hB => ?_) <;> go_step))
    | ((with_reducible show wpList _ _ _ (⟨_, .unOp .not _ _, _, _, _, _⟩ :: _) _ _); first | (refine wplV _ (V.notD rfl) (by kernel_rfl) ?_; go_step) | (refine wplV _ (V.not rfl) (by kernel_rfl) ?_; go_step))
    | ((with_reducible show wpList _ _ _ (⟨_, .binOp .sub _ _ _ _, _, _, _, _⟩ :: _) _ _); first | (refine wplV _ (V.subI rfl rfl (by omega)) (by kernel_rfl) ?_; go_step) | (refine wplV _ (V.subR (by decide) rfl rfl) (by kernel_rfl) ?_; go_step))
    | ((with_reducible show wpList _ _ _ (⟨_, .extract _ _, _, _, _, _⟩ :: _) _ _); first | (refine wplV _ (V.extract rfl rfl) (by kernel_rfl) ?_; go_step))
    | ((with_reducible show wpList _ _ _ (⟨some 21, .build 31 _, _, _, _, _⟩ :: _) _ _); first | (refine wplV _ (V.build (vs := [(0, _)]) rfl (bl31_0 _)) (by kernel_rfl) ?_; go_step))
    | ((with_reducible show wpList _ _ _ (⟨_, .binOp .neq 25 _ _ _, _, _, _, _⟩ :: _) _ _); first | (refine wplV _ (V.neq rfl rfl) (by kernel_rfl) ?_; go_step))
    | ((with_reducible show wpList _ _ _ (⟨some 3, .alloc 31, _, _, _, _⟩ :: _) _ _); first | (refine wpl (by kernel_rfl) ?_; apply wp_allocA (o := ⟨some 3, _, _, _, _, _⟩) hS 31 rfl (List.replicate 64 0) 64 List.length_replicate za31; clear hS; intro g3 w hS; refine put_move ?_; go_step))
    | ((with_reducible show wpList _ _ _ (⟨_, .store 31 _ _, _, _, _, _⟩ :: _) _ _); first | (refine wpl (by kernel_rfl) ?_; apply wp_storeA hS 31 _ _ rfl _ rfl 64 (row_of rfl) _ _; (case hp => (repeat (first | with_reducible exact Pull.head | apply Pull.tail))); (case hy => rfl); (case hm => (repeat (first | assumption | exact Len.rep | apply Len.set))); (case hd => exact rfl); clear hS; intro w hS) | (refine wpl (by kernel_rfl) ?_; apply wp_storeG hS 31 _ _ rfl _ rfl 64 (row_of rfl) _ _; (case hp => (repeat (first | with_reducible exact Pull.head | apply Pull.tail))); (case hy => rfl); (case hn => rfl); (case hn' => rfl); (case hv => rfl); (case hd => exact rfl); clear hS; intro w hS))
    | ((with_reducible show wpList _ _ _ (⟨some 5, .alloc 31, _, _, _, _⟩ :: _) _ _); first | (refine wpl (by kernel_rfl) ?_; apply wp_allocA (o := ⟨some 5, _, _, _, _, _⟩) hS 31 rfl (List.replicate 64 0) 64 List.length_replicate za31; clear hS; intro g5 w hS; refine put_move ?_; go_step))
    | ((fail_if_success (with_reducible show wpList _ _ _ (_ :: _) _ _)); go_step))
  all_goals (try (go_ret; exact ⟨rfl, hS.1⟩))
  go_loopg [31] 64 (fun gk kv w => ∃ (i : Nat), gk + i = 64 ∧ kv = .int .i64 i ∧ St W w [arr g5 64 C, arr g3 64 B])
  case atStart => exact ⟨0, rfl, rfl, hS.sub (by (repeat (first | exact Sub.nil | with_reducible exact Sub.refl | (refine Sub.cons (by (repeat (first | with_reducible exact Pull.head | apply Pull.tail))) ?_) | apply Sub.skip)))⟩
  case round =>
    clear hS
    obtain ⟨i, hi, rfl, hS⟩ := hrel
    by_cases hlt : i < 64
    · have T : i = 0 ∨ 0 < i ∧ nth B i = 0 ∧ nth C i = nth C 0 := by
        by_cases h0 : i = 0
        · exact .inl h0
        · exact .inr ⟨by omega, F3.out i hlt (by omega)⟩
      rcases T with t0 | ⟨t0, t1, t2⟩
      all_goals
        repeat' (first
          | go_skip
          | go_big_skip
          | ((with_reducible show wpList _ _ _ (⟨_, .move _, _, _, _, _⟩ :: _) _ _); (first | go_big_want | go_step); go_step)
          | ((with_reducible show wpList _ _ _ (⟨_, .assign _, _, _, _, _⟩ :: _) _ _); (first | go_big_want | go_step); go_step)
          | ((with_reducible show wpList _ _ _ (⟨_, .pick _ _ _, _, _, _, _⟩ :: _) _ _); first | (refine wplPickT rfl (by kernel_rfl) ?_; go_step) | (refine wplPickF rfl (by kernel_rfl) ?_; go_step))
          | ((with_reducible show wpList _ _ _ (⟨_, .binOp .lss _ _ _ _, _, _, _, _⟩ :: _) _ _); first | (refine wplV _ (V.lss rfl rfl) (by kernel_rfl) ?_; go_step))
          | ((fail_if_success (with_reducible show wpList _ _ _ (_ :: _) _ _)); go_step))
        refine drawn_lit [] (fun w => St W w [arr g5 64 C, arr g3 64 B]) (by kernel_rfl) ?_
        replace hS := hS.drew
        focus
          refine takeM 0 _ (by (repeat (first | with_reducible exact AtL.head | apply AtL.tail))) (by kernel_rfl) (by kernel_rfl) (by kernel_rfl) (by exact fun _ _ _ _ h => h) rfl ?_
          go_step
          first | (refine takeD 1 _ (by (repeat (first | with_reducible exact AtL.head | apply AtL.tail))) (by kernel_rfl) (by kernel_rfl) (by kernel_rfl) (by exact fun _ _ _ _ h => h) (V.gtr rfl rfl) rfl (fun hB => ?_) (fun hB => ?_)) | (refine takeB 1 _ (by (repeat (first | with_reducible exact AtL.head | apply AtL.tail))) (by kernel_rfl) (by kernel_rfl) (by kernel_rfl) (by exact fun _ _ _ _ h => h) (V.gtr rfl rfl) rfl (fun hB => ?_) (fun hB => ?_))
          rotate_left 1
          focus
            (try (have hF : False := (by omega); cases hF))
            all_goals
              go_step
              refine takeM 2 _ (by (repeat (first | with_reducible exact AtL.head | apply AtL.tail))) (by kernel_rfl) (by kernel_rfl) (by kernel_rfl) (by exact fun _ _ _ _ h => h) rfl ?_
              go_step
              refine takeN 3 (by (repeat (first | with_reducible exact AtL.head | apply AtL.tail))) (by kernel_rfl) (by kernel_rfl) (by kernel_rfl) (by exact fun _ _ _ _ h => h) rfl ?_
              go_step
              refine takeN 4 (by (repeat (first | with_reducible exact AtL.head | apply AtL.tail))) (by kernel_rfl) (by kernel_rfl) (by kernel_rfl) (by exact fun _ _ _ _ h => h) rfl ?_
              go_step
              refine takeN 5 (by (repeat (first | with_reducible exact AtL.head | apply AtL.tail))) (by kernel_rfl) (by kernel_rfl) (by kernel_rfl) (by exact fun _ _ _ _ h => h) rfl ?_
              go_step
              refine takeN 6 (by (repeat (first | with_reducible exact AtL.head | apply AtL.tail))) (by kernel_rfl) (by kernel_rfl) (by kernel_rfl) (by exact fun _ _ _ _ h => h) rfl ?_
              go_step
              refine takeN 7 (by (repeat (first | with_reducible exact AtL.head | apply AtL.tail))) (by kernel_rfl) (by kernel_rfl) (by kernel_rfl) (by exact fun _ _ _ _ h => h) rfl ?_
              go_step
              refine takeN 8 (by (repeat (first | with_reducible exact AtL.head | apply AtL.tail))) (by kernel_rfl) (by kernel_rfl) (by kernel_rfl) (by exact fun _ _ _ _ h => h) rfl ?_
              go_step
              refine takeN 9 (by (repeat (first | with_reducible exact AtL.head | apply AtL.tail))) (by kernel_rfl) (by kernel_rfl) (by kernel_rfl) (by exact fun _ _ _ _ h => h) rfl ?_
              go_step
              refine takeN 10 (by (repeat (first | with_reducible exact AtL.head | apply AtL.tail))) (by kernel_rfl) (by kernel_rfl) (by kernel_rfl) (by exact fun _ _ _ _ h => h) rfl ?_
              go_step
              refine takeN 11 (by (repeat (first | with_reducible exact AtL.head | apply AtL.tail))) (by kernel_rfl) (by kernel_rfl) (by kernel_rfl) (by exact fun _ _ _ _ h => h) rfl ?_
              go_step
              refine takeN 12 (by (repeat (first | with_reducible exact AtL.head | apply AtL.tail))) (by kernel_rfl) (by kernel_rfl) (by kernel_rfl) (by exact fun _ _ _ _ h => h) rfl ?_
              go_step
              refine takeN 13 (by (repeat (first | with_reducible exact AtL.head | apply AtL.tail))) (by kernel_rfl) (by kernel_rfl) (by kernel_rfl) (by exact fun _ _ _ _ h => h) rfl ?_
              go_step
              refine takeN 14 (by (repeat (first | with_reducible exact AtL.head | apply AtL.tail))) (by kernel_rfl) (by kernel_rfl) (by kernel_rfl) (by exact fun _ _ _ _ h => h) rfl ?_
              go_step
              refine takePickF 15 (by (repeat (first | with_reducible exact AtL.head | apply AtL.tail))) (by kernel_rfl) (by kernel_rfl) (by kernel_rfl) (by exact fun _ _ _ _ h => h) rfl rfl ?_
              go_step
              refine drawn_done (by kernel_rfl) ?_ _
          rotate_right 1
          focus
            (try (have hF : False := (by omega); cases hF))
            all_goals
              go_step
              refine takeM 2 _ (by (repeat (first | with_reducible exact AtL.head | apply AtL.tail))) (by kernel_rfl) (by kernel_rfl) (by kernel_rfl) (by exact fun _ _ _ _ h => h) rfl ?_
              go_step
              refine takeM 3 _ (by (repeat (first | with_reducible exact AtL.head | apply AtL.tail))) (by kernel_rfl) (by kernel_rfl) (by kernel_rfl) (by exact fun _ _ _ _ h => h) rfl ?_
              go_step
              first | (refine takeV 4 _ (by (repeat (first | with_reducible exact AtL.head | apply AtL.tail))) (by kernel_rfl) (by kernel_rfl) (by kernel_rfl) (by exact fun _ _ _ _ h => h) (V.indexAr Try.underlying31 isz3 rfl rfl (by (repeat (first | exact IsN.auto | apply IsN.add | apply IsN.mul | apply IsN.div | apply IsN.mod | apply IsN.min | apply IsN.max | apply IsN.sub | (with_reducible show (_ : Nat) ≤ _; omega) | exact IsN.toNat (by omega)))) (by omega) (Nat.mul_one _) (by first | with_reducible exact Nat.zero_add _ | with_reducible exact Nat.add_zero _ | exact rfl)) rfl ?_)
              go_step
              apply takeS 5 (by (repeat (first | with_reducible exact AtL.head | apply AtL.tail))) (by kernel_rfl) (by kernel_rfl) (by kernel_rfl) (by exact fun _ _ _ _ h => h) [6, 7, 8, 9, 10, 11, 12, 13, 14, 15] (by kernel_rfl) (hS.sub (by (repeat (first | exact Sub.nil | with_reducible exact Sub.refl | (refine Sub.cons (by (repeat (first | with_reducible exact Pull.head | apply Pull.tail))) ?_) | apply Sub.skip))))
              case hfr => intro w hS; (first | (refine wpl (by kernel_rfl) ?_; apply wp_load1A hS 3 _ rfl _ _ rfl (one_of rfl) _ _; (case hp => (repeat (first | with_reducible exact Pull.head | apply Pull.tail))); (case hi => omega); refine put_move ?_; go_step) | (refine wpl (by kernel_rfl) ?_; apply wp_load1OI hS 3 _ rfl _ _ rfl (one_of rfl) _ _ _ _ _; (case hp => (repeat (first | with_reducible exact Pull.head | apply Pull.tail))); (case hi => omega); refine put_move ?_; go_step) | (refine wpl (by kernel_rfl) ?_; apply wp_load1 hS 3 _ rfl _ _ rfl (one_of rfl) _; (case hp => (repeat (first | with_reducible exact Pull.head | apply Pull.tail))); (case hc => rfl); refine put_move ?_; go_step) | (refine wpl (by kernel_rfl) ?_; apply wp_load1O hS 3 _ rfl _ _ rfl (one_of rfl) _ _ _ _ _; (case hp => (repeat (first | with_reducible exact Pull.head | apply Pull.tail))); (case hv => with_reducible assumption); refine put_move ?_; go_step) | (refine wpl (by kernel_rfl) ?_; apply wp_loadW hS 3 _ rfl _ rfl (one_of rfl) _; (case hc => with_reducible assumption); refine put_move ?_; go_step) | (refine wpl (by kernel_rfl) ?_; apply wp_load1R hS 3 _ rfl _ _ _ rfl (one_of rfl) _ _; (case hl => with_reducible assumption); (case hr => with_reducible assumption); (case hf => omega); refine put_move ?_; go_step) | (refine wpl (by kernel_rfl) ?_; apply wp_load1R0 hS 3 _ rfl _ _ rfl (one_of rfl) _ _; (case hl => with_reducible assumption); (case hr => with_reducible assumption); (case hf => omega); refine put_move ?_; go_step)); refine wpList_nil ?_; exact ⟨rfl, rfl⟩
              case hd => rfl
              first | (refine takeD 6 _ (by (repeat (first | with_reducible exact AtL.head | apply AtL.tail))) (by kernel_rfl) (by kernel_rfl) (by kernel_rfl) (by exact fun _ _ _ _ h => h) (V.neq rfl rfl) rfl (fun hB => ?_) (fun hB => ?_)) | (refine takeB 6 _ (by (repeat (first | with_reducible exact AtL.head | apply AtL.tail))) (by kernel_rfl) (by kernel_rfl) (by kernel_rfl) (by exact fun _ _ _ _ h => h) (V.neq rfl rfl) rfl (fun hB => ?_) (fun hB => ?_))
              rotate_left 1
              focus
                (try (have hF : False := (by omega); cases hF))
                all_goals
                  go_step
                  refine takeM 7 _ (by (repeat (first | with_reducible exact AtL.head | apply AtL.tail))) (by kernel_rfl) (by kernel_rfl) (by kernel_rfl) (by exact fun _ _ _ _ h => h) rfl ?_
                  go_step
                  refine takeM 8 _ (by (repeat (first | with_reducible exact AtL.head | apply AtL.tail))) (by kernel_rfl) (by kernel_rfl) (by kernel_rfl) (by exact fun _ _ _ _ h => h) rfl ?_
                  go_step
                  first | (refine takeV 9 _ (by (repeat (first | with_reducible exact AtL.head | apply AtL.tail))) (by kernel_rfl) (by kernel_rfl) (by kernel_rfl) (by exact fun _ _ _ _ h => h) (V.indexAr Try.underlying31 isz3 rfl rfl (by (repeat (first | exact IsN.auto | apply IsN.add | apply IsN.mul | apply IsN.div | apply IsN.mod | apply IsN.min | apply IsN.max | apply IsN.sub | (with_reducible show (_ : Nat) ≤ _; omega) | exact IsN.toNat (by omega)))) (by omega) (Nat.mul_one _) (by first | with_reducible exact Nat.zero_add _ | with_reducible exact Nat.add_zero _ | exact rfl)) rfl ?_)
                  go_step
                  apply takeS 10 (by (repeat (first | with_reducible exact AtL.head | apply AtL.tail))) (by kernel_rfl) (by kernel_rfl) (by kernel_rfl) (by exact fun _ _ _ _ h => h) [13, 14, 15] (by kernel_rfl) (hS.sub (by (repeat (first | exact Sub.nil | with_reducible exact Sub.refl | (refine Sub.cons (by (repeat (first | with_reducible exact Pull.head | apply Pull.tail))) ?_) | apply Sub.skip))))
                  case hfr => intro w hS; (first | (refine wpl (by kernel_rfl) ?_; apply wp_load1A hS 3 _ rfl _ _ rfl (one_of rfl) _ _; (case hp => (repeat (first | with_reducible exact Pull.head | apply Pull.tail))); (case hi => omega); refine put_move ?_; go_step) | (refine wpl (by kernel_rfl) ?_; apply wp_load1OI hS 3 _ rfl _ _ rfl (one_of rfl) _ _ _ _ _; (case hp => (repeat (first | with_reducible exact Pull.head | apply Pull.tail))); (case hi => omega); refine put_move ?_; go_step) | (refine wpl (by kernel_rfl) ?_; apply wp_load1 hS 3 _ rfl _ _ rfl (one_of rfl) _; (case hp => (repeat (first | with_reducible exact Pull.head | apply Pull.tail))); (case hc => rfl); refine put_move ?_; go_step) | (refine wpl (by kernel_rfl) ?_; apply wp_load1O hS 3 _ rfl _ _ rfl (one_of rfl) _ _ _ _ _; (case hp => (repeat (first | with_reducible exact Pull.head | apply Pull.tail))); (case hv => with_reducible assumption); refine put_move ?_; go_step) | (refine wpl (by kernel_rfl) ?_; apply wp_loadW hS 3 _ rfl _ rfl (one_of rfl) _; (case hc => with_reducible assumption); refine put_move ?_; go_step) | (refine wpl (by kernel_rfl) ?_; apply wp_load1R hS 3 _ rfl _ _ _ rfl (one_of rfl) _ _; (case hl => with_reducible assumption); (case hr => with_reducible assumption); (case hf => omega); refine put_move ?_; go_step) | (refine wpl (by kernel_rfl) ?_; apply wp_load1R0 hS 3 _ rfl _ _ rfl (one_of rfl) _ _; (case hl => with_reducible assumption); (case hr => with_reducible assumption); (case hf => omega); refine put_move ?_; go_step)); refine wpList_nil ?_; exact ⟨rfl, rfl⟩
                  case hd => rfl
                  first | (refine takeV 11 _ (by (repeat (first | with_reducible exact AtL.head | apply AtL.tail))) (by kernel_rfl) (by kernel_rfl) (by kernel_rfl) (by exact fun _ _ _ _ h => h) (V.indexAr Try.underlying31 isz3 rfl rfl (show IsN 0 0 from rfl) (by omega) (show 0 * 1 = 0 from rfl) (by first | with_reducible exact Nat.zero_add _ | with_reducible exact Nat.add_zero _ | exact rfl)) rfl ?_)
                  go_step
                  apply takeS 12 (by (repeat (first | with_reducible exact AtL.head | apply AtL.tail))) (by kernel_rfl) (by kernel_rfl) (by kernel_rfl) (by exact fun _ _ _ _ h => h) [13, 14, 15] (by kernel_rfl) (hS.sub (by (repeat (first | exact Sub.nil | with_reducible exact Sub.refl | (refine Sub.cons (by (repeat (first | with_reducible exact Pull.head | apply Pull.tail))) ?_) | apply Sub.skip))))
                  case hfr => intro w hS; (first | (refine wpl (by kernel_rfl) ?_; apply wp_load1A hS 3 _ rfl _ _ rfl (one_of rfl) _ _; (case hp => (repeat (first | with_reducible exact Pull.head | apply Pull.tail))); (case hi => omega); refine put_move ?_; go_step) | (refine wpl (by kernel_rfl) ?_; apply wp_load1OI hS 3 _ rfl _ _ rfl (one_of rfl) _ _ _ _ _; (case hp => (repeat (first | with_reducible exact Pull.head | apply Pull.tail))); (case hi => omega); refine put_move ?_; go_step) | (refine wpl (by kernel_rfl) ?_; apply wp_load1 hS 3 _ rfl _ _ rfl (one_of rfl) _; (case hp => (repeat (first | with_reducible exact Pull.head | apply Pull.tail))); (case hc => rfl); refine put_move ?_; go_step) | (refine wpl (by kernel_rfl) ?_; apply wp_load1O hS 3 _ rfl _ _ rfl (one_of rfl) _ _ _ _ _; (case hp => (repeat (first | with_reducible exact Pull.head | apply Pull.tail))); (case hv => with_reducible assumption); refine put_move ?_; go_step) | (refine wpl (by kernel_rfl) ?_; apply wp_loadW hS 3 _ rfl _ rfl (one_of rfl) _; (case hc => with_reducible assumption); refine put_move ?_; go_step) | (refine wpl (by kernel_rfl) ?_; apply wp_load1R hS 3 _ rfl _ _ _ rfl (one_of rfl) _ _; (case hl => with_reducible assumption); (case hr => with_reducible assumption); (case hf => omega); refine put_move ?_; go_step) | (refine wpl (by kernel_rfl) ?_; apply wp_load1R0 hS 3 _ rfl _ _ rfl (one_of rfl) _ _; (case hl => with_reducible assumption); (case hr => with_reducible assumption); (case hf => omega); refine put_move ?_; go_step)); refine wpList_nil ?_; exact ⟨rfl, rfl⟩
                  case hd => rfl
                  first | (refine takeV 13 _ (by (repeat (first | with_reducible exact AtL.head | apply AtL.tail))) (by kernel_rfl) (by kernel_rfl) (by kernel_rfl) (by exact fun _ _ _ _ h => h) (V.neq rfl rfl) rfl ?_)
                  go_step
                  refine takePickF 14 (by (repeat (first | with_reducible exact AtL.head | apply AtL.tail))) (by kernel_rfl) (by kernel_rfl) (by kernel_rfl) (by exact fun _ _ _ _ h => h) rfl rfl ?_
                  go_step
                  refine takePickT 15 (by (repeat (first | with_reducible exact AtL.head | apply AtL.tail))) (by kernel_rfl) (by kernel_rfl) (by kernel_rfl) (by exact fun _ _ _ _ h => h) rfl rfl ?_
                  go_step
                  refine drawn_done (by kernel_rfl) ?_ _
              rotate_right 1
              focus
                (try (have hF : False := (by omega); cases hF))
                all_goals
                  go_step
                  refine takeM 7 _ (by (repeat (first | with_reducible exact AtL.head | apply AtL.tail))) (by kernel_rfl) (by kernel_rfl) (by kernel_rfl) (by exact fun _ _ _ _ h => h) rfl ?_
                  go_step
                  refine takeN 8 (by (repeat (first | with_reducible exact AtL.head | apply AtL.tail))) (by kernel_rfl) (by kernel_rfl) (by kernel_rfl) (by exact fun _ _ _ _ h => h) rfl ?_
                  go_step
                  refine takeN 9 (by (repeat (first | with_reducible exact AtL.head | apply AtL.tail))) (by kernel_rfl) (by kernel_rfl) (by kernel_rfl) (by exact fun _ _ _ _ h => h) rfl ?_
                  go_step
                  refine takeN 10 (by (repeat (first | with_reducible exact AtL.head | apply AtL.tail))) (by kernel_rfl) (by kernel_rfl) (by kernel_rfl) (by exact fun _ _ _ _ h => h) rfl ?_
                  go_step
                  refine takeN 11 (by (repeat (first | with_reducible exact AtL.head | apply AtL.tail))) (by kernel_rfl) (by kernel_rfl) (by kernel_rfl) (by exact fun _ _ _ _ h => h) rfl ?_
                  go_step
                  refine takeN 12 (by (repeat (first | with_reducible exact AtL.head | apply AtL.tail))) (by kernel_rfl) (by kernel_rfl) (by kernel_rfl) (by exact fun _ _ _ _ h => h) rfl ?_
                  go_step
                  refine takeN 13 (by (repeat (first | with_reducible exact AtL.head | apply AtL.tail))) (by kernel_rfl) (by kernel_rfl) (by kernel_rfl) (by exact fun _ _ _ _ h => h) rfl ?_
                  go_step
                  refine takePickT 14 (by (repeat (first | with_reducible exact AtL.head | apply AtL.tail))) (by kernel_rfl) (by kernel_rfl) (by kernel_rfl) (by exact fun _ _ _ _ h => h) rfl rfl ?_
                  go_step
                  refine takePickT 15 (by (repeat (first | with_reducible exact AtL.head | apply AtL.tail))) (by kernel_rfl) (by kernel_rfl) (by kernel_rfl) (by exact fun _ _ _ _ h => h) rfl rfl ?_
                  go_step
                  refine drawn_done (by kernel_rfl) ?_ _
        all_goals (try (have hF : False := (by omega); cases hF))
        all_goals
          repeat' (first
            | go_skip
            | go_big_skip
            | ((with_reducible show wpList _ _ _ (⟨_, .move _, _, _, _, _⟩ :: _) _ _); (first | go_big_want | go_step); go_step)
            | ((with_reducible show wpList _ _ _ (⟨_, .assign _, _, _, _, _⟩ :: _) _ _); (first | go_big_want | go_step); go_step)
            | ((with_reducible show wpList _ _ _ (⟨_, .pick _ _ _, _, _, _, _⟩ :: _) _ _); first | (refine wplPickT rfl (by kernel_rfl) ?_; go_step) | (refine wplPickF rfl (by kernel_rfl) ?_; go_step))
            | ((with_reducible show wpList _ _ _ (⟨_, .binOp .add _ _ _ _, _, _, _, _⟩ :: _) _ _); first | (refine wplV _ (V.addI rfl rfl (by omega)) (by kernel_rfl) ?_; go_step) | (refine wplV _ (V.addR (by decide) rfl rfl) (by kernel_rfl) ?_; go_step))
            | ((fail_if_success (with_reducible show wpList _ _ _ (_ :: _) _ _)); go_step))
          go_roundg (gk - 1)
          case measure => omega
          case rel => exact ⟨i + 1, by omega, by go_num, hS.sub (by (repeat (first | exact Sub.nil | with_reducible exact Sub.refl | (refine Sub.cons (by (repeat (first | with_reducible exact Pull.head | apply Pull.tail))) ?_) | apply Sub.skip)))⟩
    · skip
      repeat' (first
        | go_skip
        | go_big_skip
        | ((with_reducible show wpList _ _ _ (⟨_, .move _, _, _, _, _⟩ :: _) _ _); (first | go_big_want | go_step); go_step)
        | ((with_reducible show wpList _ _ _ (⟨_, .assign _, _, _, _, _⟩ :: _) _ _); (first | go_big_want | go_step); go_step)
        | ((with_reducible show wpList _ _ _ (⟨_, .pick _ _ _, _, _, _, _⟩ :: _) _ _); first | (refine wplPickT rfl (by kernel_rfl) ?_; go_step) | (refine wplPickF rfl (by kernel_rfl) ?_; go_step))
        | ((with_reducible show wpList _ _ _ (⟨some 35, .binOp .gtr _ _ _ _, _, _, _, _⟩ :: _) _ _); first | (refine wplD _ (V.gtr rfl rfl) (by kernel_rfl) (fun hB => ?_) (fun hB => ?_) <;> (try (have hF : False := (by omega); cases hF)) <;> go_step) | (refine wplB _ (V.gtr rfl rfl) (by kernel_rfl) (fun hB => ?_) (fun hB => ?_) <;> go_step))
        | ((with_reducible show wpList _ _ _ (⟨some 40, .binOp .neq 3 _ _ _, _, _, _, _⟩ :: _) _ _); first | (refine wplD _ (V.neq rfl rfl) (by kernel_rfl) (fun hB => ?_) (fun hB => ?_) <;> (try (have hF : False := (by omega); cases hF)) <;> go_step) | (refine wplB _ (V.neq rfl rfl) (by kernel_rfl) (fun hB => ?_) (fun hB => ?_) <;> go_step))
        | ((with_reducible show wpList _ _ _ (⟨_, .binOp .lss _ _ _ _, _, _, _, _⟩ :: _) _ _); first | (refine wplV _ (V.lss rfl rfl) (by kernel_rfl) ?_; go_step))
        | ((with_reducible show wpList _ _ _ (⟨some 38, .indexAddr 31 _ _, _, _, _, _⟩ :: _) _ _); first | (refine wplV _ (V.indexAr Try.underlying31 isz3 rfl rfl (by (repeat (first | exact IsN.auto | apply IsN.add | apply IsN.mul | apply IsN.div | apply IsN.mod | apply IsN.min | apply IsN.max | apply IsN.sub | (with_reducible show (_ : Nat) ≤ _; omega) | exact IsN.toNat (by omega)))) (by omega) (Nat.mul_one _) (by first | with_reducible exact Nat.zero_add _ | with_reducible exact Nat.add_zero _ | exact rfl)) (by kernel_rfl) ?_; go_step))
        | ((with_reducible show wpList _ _ _ (⟨some 43, .indexAddr 31 _ _, _, _, _, _⟩ :: _) _ _); first | (refine wplV _ (V.indexAr Try.underlying31 isz3 rfl rfl (by (repeat (first | exact IsN.auto | apply IsN.add | apply IsN.mul | apply IsN.div | apply IsN.mod | apply IsN.min | apply IsN.max | apply IsN.sub | (with_reducible show (_ : Nat) ≤ _; omega) | exact IsN.toNat (by omega)))) (by omega) (Nat.mul_one _) (by first | with_reducible exact Nat.zero_add _ | with_reducible exact Nat.add_zero _ | exact rfl)) (by kernel_rfl) ?_; go_step))
        | ((with_reducible show wpList _ _ _ (⟨some 45, .indexAddr 31 _ _, _, _, _, _⟩ :: _) _ _); first | (refine wplV _ (V.indexAr Try.underlying31 isz3 rfl rfl (show IsN 0 0 from rfl) (by omega) (show 0 * 1 = 0 from rfl) (by first | with_reducible exact Nat.zero_add _ | with_reducible exact Nat.add_zero _ | exact rfl)) (by kernel_rfl) ?_; go_step))
        | ((with_reducible show wpList _ _ _ (⟨_, .binOp .neq 3 _ _ _, _, _, _, _⟩ :: _) _ _); first | (refine wplV _ (V.neq rfl rfl) (by kernel_rfl) ?_; go_step))
        | ((with_reducible show wpList _ _ _ (⟨_, .binOp .add _ _ _ _, _, _, _, _⟩ :: _) _ _); first | (refine wplV _ (V.addI rfl rfl (by omega)) (by kernel_rfl) ?_; go_step) | (refine wplV _ (V.addR (by decide) rfl rfl) (by kernel_rfl) ?_; go_step))
        | ((with_reducible show wpList _ _ _ (⟨some 51, .indexAddr 31 _ _, _, _, _, _⟩ :: _) _ _); first | (refine wplV _ (V.indexAr Try.underlying31 isz3 rfl rfl (show IsN 0 0 from rfl) (by omega) (show 0 * 1 = 0 from rfl) (by first | with_reducible exact Nat.zero_add _ | with_reducible exact Nat.add_zero _ | exact rfl)) (by kernel_rfl) ?_; go_step))
        | ((with_reducible show wpList _ _ _ (⟨_, .binOp .mul _ _ _ _, _, _, _, _⟩ :: _) _ _); first | (refine wplV _ (V.mulI rfl rfl (by omega)) (by kernel_rfl) ?_; go_step) | (refine wplV _ (V.mulR (by decide) rfl rfl) (by kernel_rfl) ?_; go_step))
        | ((with_reducible show wpList _ _ _ (⟨_, .binOp .sub _ _ _ _, _, _, _, _⟩ :: _) _ _); first | (refine wplV _ (V.subI rfl rfl (by omega)) (by kernel_rfl) ?_; go_step) | (refine wplV _ (V.subR (by decide) rfl rfl) (by kernel_rfl) ?_; go_step))
        | ((with_reducible show wpList _ _ _ (⟨some 58, .indexAddr 31 _ _, _, _, _, _⟩ :: _) _ _); first | (refine wplV _ (V.indexAr Try.underlying31 isz3 rfl rfl (show IsN 0 0 from rfl) (by omega) (show 0 * 1 = 0 from rfl) (by first | with_reducible exact Nat.zero_add _ | with_reducible exact Nat.add_zero _ | exact rfl)) (by kernel_rfl) ?_; go_step))
        | ((with_reducible show wpList _ _ _ (⟨_, .call ⟨.builtin .max, _, _⟩, _, _, _, _⟩ :: _) _ _); first | (refine wplV _ (V.max rfl rfl) (by kernel_rfl) ?_; go_step))
        | ((with_reducible show wpList _ _ _ (⟨_, .binOp .leq _ _ _ _, _, _, _, _⟩ :: _) _ _); first | (refine wplV _ (V.leq rfl rfl) (by kernel_rfl) ?_; go_step))
        | ((with_reducible show wpList _ _ _ (⟨_, .load 3 _, _, _, _, _⟩ :: _) _ _); first | (refine wpl (by kernel_rfl) ?_; apply wp_load1A hS 3 _ rfl _ _ rfl (one_of rfl) _ _; (case hp => (repeat (first | with_reducible exact Pull.head | apply Pull.tail))); (case hi => omega); refine put_move ?_; go_step) | (refine wpl (by kernel_rfl) ?_; apply wp_load1OI hS 3 _ rfl _ _ rfl (one_of rfl) _ _ _ _ _; (case hp => (repeat (first | with_reducible exact Pull.head | apply Pull.tail))); (case hi => omega); refine put_move ?_; go_step) | (refine wpl (by kernel_rfl) ?_; apply wp_load1 hS 3 _ rfl _ _ rfl (one_of rfl) _; (case hp => (repeat (first | with_reducible exact Pull.head | apply Pull.tail))); (case hc => rfl); refine put_move ?_; go_step) | (refine wpl (by kernel_rfl) ?_; apply wp_load1O hS 3 _ rfl _ _ rfl (one_of rfl) _ _ _ _ _; (case hp => (repeat (first | with_reducible exact Pull.head | apply Pull.tail))); (case hv => with_reducible assumption); refine put_move ?_; go_step) | (refine wpl (by kernel_rfl) ?_; apply wp_loadW hS 3 _ rfl _ rfl (one_of rfl) _; (case hc => with_reducible assumption); refine put_move ?_; go_step) | (refine wpl (by kernel_rfl) ?_; apply wp_load1R hS 3 _ rfl _ _ _ rfl (one_of rfl) _ _; (case hl => with_reducible assumption); (case hr => with_reducible assumption); (case hf => omega); refine put_move ?_; go_step) | (refine wpl (by kernel_rfl) ?_; apply wp_load1R0 hS 3 _ rfl _ _ rfl (one_of rfl) _ _; (case hl => with_reducible assumption); (case hr => with_reducible assumption); (case hf => omega); refine put_move ?_; go_step))
        | ((fail_if_success (with_reducible show wpList _ _ _ (_ :: _) _ _)); go_step))
      all_goals
        repeat' (first
          | go_skip
          | go_big_skip
          | ((with_reducible show wpList _ _ _ (⟨_, .move _, _, _, _, _⟩ :: _) _ _); (first | go_big_want | go_step); go_step)
          | ((with_reducible show wpList _ _ _ (⟨_, .assign _, _, _, _, _⟩ :: _) _ _); (first | go_big_want | go_step); go_step)
          | ((with_reducible show wpList _ _ _ (⟨_, .pick _ _ _, _, _, _, _⟩ :: _) _ _); first | (refine wplPickT rfl (by kernel_rfl) ?_; go_step) | (refine wplPickF rfl (by kernel_rfl) ?_; go_step))
          | ((with_reducible show wpList _ _ _ (⟨some 51, .indexAddr 31 _ _, _, _, _, _⟩ :: _) _ _); first | (refine wplV _ (V.indexAr Try.underlying31 isz3 rfl rfl (show IsN 0 0 from rfl) (by omega) (show 0 * 1 = 0 from rfl) (by first | with_reducible exact Nat.zero_add _ | with_reducible exact Nat.add_zero _ | exact rfl)) (by kernel_rfl) ?_; go_step))
          | ((with_reducible show wpList _ _ _ (⟨_, .binOp .mul _ _ _ _, _, _, _, _⟩ :: _) _ _); first | (refine wplV _ (V.mulI rfl rfl (by omega)) (by kernel_rfl) ?_; go_step) | (refine wplV _ (V.mulR (by decide) rfl rfl) (by kernel_rfl) ?_; go_step))
          | ((with_reducible show wpList _ _ _ (⟨_, .binOp .sub _ _ _ _, _, _, _, _⟩ :: _) _ _); first | (refine wplV _ (V.subI rfl rfl (by omega)) (by kernel_rfl) ?_; go_step) | (refine wplV _ (V.subR (by decide) rfl rfl) (by kernel_rfl) ?_; go_step))
          | ((with_reducible show wpList _ _ _ (⟨some 58, .indexAddr 31 _ _, _, _, _, _⟩ :: _) _ _); first | (refine wplV _ (V.indexAr Try.underlying31 isz3 rfl rfl (show IsN 0 0 from rfl) (by omega) (show 0 * 1 = 0 from rfl) (by first | with_reducible exact Nat.zero_add _ | with_reducible exact Nat.add_zero _ | exact rfl)) (by kernel_rfl) ?_; go_step))
          | ((with_reducible show wpList _ _ _ (⟨_, .call ⟨.builtin .max, _, _⟩, _, _, _, _⟩ :: _) _ _); first | (refine wplV _ (V.max rfl rfl) (by kernel_rfl) ?_; go_step))
          | ((with_reducible show wpList _ _ _ (⟨_, .binOp .leq _ _ _ _, _, _, _, _⟩ :: _) _ _); first | (refine wplV _ (V.leq rfl rfl) (by kernel_rfl) ?_; go_step))
          | ((with_reducible show wpList _ _ _ (⟨_, .load 3 _, _, _, _, _⟩ :: _) _ _); first | (refine wpl (by kernel_rfl) ?_; apply wp_load1A hS 3 _ rfl _ _ rfl (one_of rfl) _ _; (case hp => (repeat (first | with_reducible exact Pull.head | apply Pull.tail))); (case hi => omega); refine put_move ?_; go_step) | (refine wpl (by kernel_rfl) ?_; apply wp_load1OI hS 3 _ rfl _ _ rfl (one_of rfl) _ _ _ _ _; (case hp => (repeat (first | with_reducible exact Pull.head | apply Pull.tail))); (case hi => omega); refine put_move ?_; go_step) | (refine wpl (by kernel_rfl) ?_; apply wp_load1 hS 3 _ rfl _ _ rfl (one_of rfl) _; (case hp => (repeat (first | with_reducible exact Pull.head | apply Pull.tail))); (case hc => rfl); refine put_move ?_; go_step) | (refine wpl (by kernel_rfl) ?_; apply wp_load1O hS 3 _ rfl _ _ rfl (one_of rfl) _ _ _ _ _; (case hp => (repeat (first | with_reducible exact Pull.head | apply Pull.tail))); (case hv => with_reducible assumption); refine put_move ?_; go_step) | (refine wpl (by kernel_rfl) ?_; apply wp_loadW hS 3 _ rfl _ rfl (one_of rfl) _; (case hc => with_reducible assumption); refine put_move ?_; go_step) | (refine wpl (by kernel_rfl) ?_; apply wp_load1R hS 3 _ rfl _ _ _ rfl (one_of rfl) _ _; (case hl => with_reducible assumption); (case hr => with_reducible assumption); (case hf => omega); refine put_move ?_; go_step) | (refine wpl (by kernel_rfl) ?_; apply wp_load1R0 hS 3 _ rfl _ _ rfl (one_of rfl) _ _; (case hl => with_reducible assumption); (case hr => with_reducible assumption); (case hf => omega); refine put_move ?_; go_step))
          | ((fail_if_success (with_reducible show wpList _ _ _ (_ :: _) _ _)); go_step))
        go_ret
        exact ⟨ret_bool (decide_eq_true (by omega)), hS.1⟩
end Go.Proofs.Ytgnpppcljpjkjaa
