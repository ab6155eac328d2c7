/- The law QuantScaled: its walk, and the statement. -/
import Derived.Test.YtbihmbkkoidnbaaScale
import Derived.Test.YtbihmbkkoidnbaaOpen
namespace Go.Proofs.Ytbihmbkkoidnbaa
open Go.ChangeShapes Go.WideShapes Go.ChangeAt Go.RowKit
set_option linter.unusedVariables false
theorem sc_mono (n a b : Int) (hn : 0 ≤ n) (h : a ≤ b) : sc n a ≤ sc n b := by
  unfold sc
  have := rnd_mono (n * a) (n * b) 100 (by omega) (Int.mul_le_mul_of_nonneg_left h hn)
  omega
theorem sc_bd (n a : Int) : 1 ≤ sc n a ∧ sc n a ≤ 255 := by unfold sc; omega
set_option maxRecDepth 100000 in
set_option maxHeartbeats 4000000 in
theorem QuantScaled_walk {H : Type} {enc : TypeId × Value → H} {d0 d1 d2 : DataW H} {p0 p1 p2 : List MemPlace} {v0 v1 v2 : Value} {base : Nat} (W : World)
    (o0 : Value.okWide Try.prog W .any base 23 v0) (h0 : DataW.Trod enc Try.prog W 0 (fun _ => true) true 23 v0 d0 p0) (lt0 : ∀ x ∈ p0, x.block < W.heap.size)
    (o1 : Value.okWide Try.prog W .any base 3 v1) (h1 : DataW.Trod enc Try.prog W 0 (fun _ => true) true 3 v1 d1 p1) (lt1 : ∀ x ∈ p1, x.block < W.heap.size)
    (o2 : Value.okWide Try.prog W .any base 3 v2) (h2 : DataW.Trod enc Try.prog W 0 (fun _ => true) true 3 v2 d2 p2) (lt2 : ∀ x ∈ p2, x.block < W.heap.size)
    :
    Calls Try.prog 8 #[v0, v1, v2] W fun e w' => e = .returned (.bool true) ∧ Ext W w' := by
  obtain ⟨q, hq, rfl, hqd⟩ := op_block o0
  obtain ⟨a0, rfl, _, _⟩ := op_int Try.underlying3 o1 h1
  obtain ⟨b0, rfl, _, _⟩ := op_int Try.underlying3 o2 h2
  clear o0 h0 lt0 o1 h1 lt1 o2 h2 lt2
  have r0 := Int.emod_nonneg a0 (b := 1000) (by omega)
  have r1 := Int.emod_lt_of_pos a0 (b := 1000) (by omega)
  have s0 := Int.emod_nonneg b0 (b := 1000) (by omega)
  have s1 := Int.emod_lt_of_pos b0 (b := 1000) (by omega)
  obtain ⟨a, ha⟩ : ∃ a, a0 % 1000 = a := ⟨_, rfl⟩
  obtain ⟨b, hb⟩ : ∃ b, b0 % 1000 = b := ⟨_, rfl⟩
  rw [ha] at r0 r1
  rw [hb] at s0 s1
  have HA := hid ha
  have HB := hid hb
  clear ha hb
  have lq : Len q 64 := hq
  have HQ := hid hq
  obtain ⟨lo, hlo⟩ : ∃ lo, min (a + 1) (b + 1) = lo := ⟨_, rfl⟩
  obtain ⟨hi_, hhi⟩ : ∃ hi, max (a + 1) (b + 1) = hi := ⟨_, rfl⟩
  have hlo1 : 1 ≤ lo ∧ lo ≤ 1000 := by omega
  have hhi1 : 1 ≤ hi_ ∧ hi_ ≤ 1000 := by omega
  have hle : lo ≤ hi_ := by omega
  have lx : Len (scR q lo) 64 := scR_len q lo hq
  have ly : Len (scR q hi_) 64 := scR_len q hi_ hq
  have hS := St.start W
  by_cases hk : qOk q = true
  · have HE := hid (show scE q lo = 0 ∧ scE q hi_ = 0 from ⟨by rw [scE, if_pos ⟨hk, hlo1⟩], by rw [scE, if_pos ⟨hk, hhi1⟩]⟩)
    have HX : Hid (∀ i, i < 64 → nth (scR q lo) i ≤ nth (scR q hi_) i ∧ 1 ≤ nth (scR q lo) i ∧ nth (scR q hi_) i ≤ 255) := fun i hi => by
      rw [scR, if_pos ⟨hk, hlo1⟩, scR, if_pos ⟨hk, hhi1⟩, map_nth _ _ _ (by omega), map_nth _ _ _ (by omega)]
      have := (allIn_iff _ _ _).1 hk i (by omega)
      exact ⟨sc_mono _ _ _ (by omega) hle, (sc_bd _ _).1, (sc_bd _ _).2⟩
    have HOk : Hid (qOk (scR q lo) = true) := by
      unfold Hid
      rw [qOk, allIn_iff, lx.out]
      intro i hi
      have := HX i hi
      omega
    clear hk hlo1 hhi1 hle hq hqd
    go_enter Try.func8, Try.ntmps8
    go_wp2_with (first
      | ((with_reducible show wpList _ _ _ (⟨some 3, .box 23 _, _, _, _, _⟩ :: _) _ _); first | (refine wpl rfl (wp_boxA (o := ⟨some 3, _, _, _, _, _⟩) hS 23 _ rfl _ 64 rfl (by assumption) ?_); clear hS; intro g3 w hS; refine wpl_put (by (simp only [Act.put, List.setIfInBounds_toArray, List.set_cons_zero, List.set_cons_succ]); exact rfl) ?_))
      | ((with_reducible show wpList _ _ _ (⟨_, .load 23 _, _, _, _, _⟩ :: _) _ _); first | (refine wpl rfl (wp_loadA hS 23 _ rfl _ rfl 64 (row_of rfl) _ (by (repeat (first | with_reducible exact Pull.head | apply Pull.tail))) ?_); refine wpl_put (by (simp only [Act.put, List.setIfInBounds_toArray, List.set_cons_zero, List.set_cons_succ]); exact rfl) ?_) | (refine wpl rfl (wp_loadG hS 23 _ rfl _ rfl 64 (row_of rfl) _ (by (repeat (first | with_reducible exact Pull.head | apply Pull.tail))) (by rfl) ?_); refine wpl_put (by (simp only [Act.put, List.setIfInBounds_toArray, List.set_cons_zero, List.set_cons_succ]); exact rfl) ?_) | (refine wpl rfl (wp_loadRW hS 23 _ rfl _ _ rfl 64 (row_of rfl) _ (by with_reducible assumption) (by rfl) ?_); refine wpl_put (by (simp only [Act.put, List.setIfInBounds_toArray, List.set_cons_zero, List.set_cons_succ]); exact rfl) ?_))
      | ((with_reducible show wpList _ _ _ (⟨some 7, .alloc 23, _, _, _, _⟩ :: _) _ _); first | (refine wpl rfl (wp_allocA (o := ⟨some 7, _, _, _, _, _⟩) hS 23 rfl (List.replicate 64 0) 64 List.length_replicate za23 ?_); clear hS; intro g7 w hS; refine wpl_put (by (simp only [Act.put, List.setIfInBounds_toArray, List.set_cons_zero, List.set_cons_succ]); exact rfl) ?_))
      | ((with_reducible show wpList _ _ _ (⟨_, .store 23 _ _, _, _, _, _⟩ :: _) _ _); first | (refine wpl rfl (wp_storeA hS 23 _ _ rfl _ rfl 64 (row_of rfl) _ _ (by (repeat (first | with_reducible exact Pull.head | apply Pull.tail))) (by rfl) (by assumption) rfl ?_); clear hS; intro w hS) | (refine wpl rfl (wp_storeG hS 23 _ _ rfl _ rfl 64 (row_of rfl) _ _ (by (repeat (first | with_reducible exact Pull.head | apply Pull.tail))) (by rfl) (by rfl) (by rfl) (by rfl) rfl ?_); clear hS; intro w hS))
      | ((with_reducible show wpList _ _ _ (⟨some 9, .alloc 23, _, _, _, _⟩ :: _) _ _); first | (refine wpl rfl (wp_allocA (o := ⟨some 9, _, _, _, _, _⟩) hS 23 rfl (List.replicate 64 0) 64 List.length_replicate za23 ?_); clear hS; intro g9 w hS; refine wpl_put (by (simp only [Act.put, List.setIfInBounds_toArray, List.set_cons_zero, List.set_cons_succ]); exact rfl) ?_))
      | ((with_reducible show wpList _ _ _ (⟨_, .load 3 _, _, _, _, _⟩ :: _) _ _); first | (refine wpl rfl (wp_load1A hS 3 _ rfl _ _ rfl (one_of rfl) _ _ (by (repeat (first | with_reducible exact Pull.head | apply Pull.tail))) (by omega) ?_); refine wpl_put (by (simp only [Act.put, List.setIfInBounds_toArray, List.set_cons_zero, List.set_cons_succ]); exact rfl) ?_) | (refine wpl rfl (wp_load1 hS 3 _ rfl _ _ rfl (one_of rfl) _ (by (repeat (first | with_reducible exact Pull.head | apply Pull.tail))) _ (by rfl) ?_); refine wpl_put (by (simp only [Act.put, List.setIfInBounds_toArray, List.set_cons_zero, List.set_cons_succ]); exact rfl) ?_) | (refine wpl rfl (wp_load1O hS 3 _ rfl _ _ rfl (one_of rfl) _ _ _ _ _ (by (repeat (first | with_reducible exact Pull.head | apply Pull.tail))) _ (by with_reducible assumption) ?_); refine wpl_put (by (simp only [Act.put, List.setIfInBounds_toArray, List.set_cons_zero, List.set_cons_succ]); exact rfl) ?_) | (refine wpl rfl (wp_loadW hS 3 _ rfl _ rfl (one_of rfl) _ (by with_reducible assumption) ?_); refine wpl_put (by (simp only [Act.put, List.setIfInBounds_toArray, List.set_cons_zero, List.set_cons_succ]); exact rfl) ?_))
                                                            | ((with_reducible show wpList _ _ _ (⟨_, .call ⟨.value (.func 15), _, _⟩, _, _, _, _⟩ :: _) _ _); refine wpl_call (f := 15) Try.call15 rfl ?_; refine ⟨_, (coarse_any _), ?_⟩; rintro e w ⟨rfl, hE⟩; replace hS := hS.ext hE; clear hE; refine ⟨_, rfl, ?_⟩; refine wpl_put (by (simp only [Act.put, List.setIfInBounds_toArray, List.set_cons_zero, List.set_cons_succ]); exact rfl) ?_)
                                                            | (go_at_call 16; (first | (with_reducible refine (rest_any a0 1000 _ (by omega) (by omega)).mono ?_) | (with_reducible refine (rest_any b0 1000 _ (by omega) (by omega)).mono ?_)); rintro e w' ⟨rfl, rfl⟩; first | rw [HA.out] | rw [HB.out])
                                                            | (go_at_call 20; (first | (with_reducible refine (scale_any _ q lo HQ.out).mono ?_) | (with_reducible refine (scale_any _ q hi_ HQ.out).mono ?_)); rintro e w ⟨rfl, hE⟩; replace hS := hS.ext hE; clear hE; first | rw [HE.out.1] | rw [HE.out.2])
                                                            | (first | refine stop_load ?_ | refine stop_store ?_ | refine stop_alloc ?_ | refine stop_box ?_))
    go_loopg [50] 64 (fun gk kv w => ∃ (i : Nat), gk + i = 64 ∧ kv = .int .i64 i ∧ St W w [arr g7 64 (scR q lo), arr g9 64 (scR q hi_)])
    case atStart => exact ⟨0, rfl, rfl, hS.sub (by (repeat (first | exact Sub.nil | with_reducible exact Sub.refl | (refine Sub.cons (by (repeat (first | with_reducible exact Pull.head | apply Pull.tail))) ?_) | apply Sub.skip)))⟩
    case round =>
      clear hS
      obtain ⟨i, hi, rfl, hS⟩ := hrel
      by_cases hlt : i < 64
      · obtain ⟨k1, k2, k3⟩ := HX.out i hlt
        have hd1 : decide (nth (scR q hi_) i < nth (scR q lo) i) = false := by simp; omega
        have hd2 : decide (nth (scR q lo) i < 1) = false := by simp; omega
        have hd3 : decide (255 < nth (scR q hi_) i) = false := by simp; omega
        go_wp2_with (first
          | ((with_reducible show wpList _ _ _ (⟨some 3, .box 23 _, _, _, _, _⟩ :: _) _ _); first | (refine wpl rfl (wp_boxA (o := ⟨some 3, _, _, _, _, _⟩) hS 23 _ rfl _ 64 rfl (by assumption) ?_); clear hS; intro g3 w hS; refine wpl_put (by (simp only [Act.put, List.setIfInBounds_toArray, List.set_cons_zero, List.set_cons_succ]); exact rfl) ?_))
          | ((with_reducible show wpList _ _ _ (⟨_, .load 23 _, _, _, _, _⟩ :: _) _ _); first | (refine wpl rfl (wp_loadA hS 23 _ rfl _ rfl 64 (row_of rfl) _ (by (repeat (first | with_reducible exact Pull.head | apply Pull.tail))) ?_); refine wpl_put (by (simp only [Act.put, List.setIfInBounds_toArray, List.set_cons_zero, List.set_cons_succ]); exact rfl) ?_) | (refine wpl rfl (wp_loadG hS 23 _ rfl _ rfl 64 (row_of rfl) _ (by (repeat (first | with_reducible exact Pull.head | apply Pull.tail))) (by rfl) ?_); refine wpl_put (by (simp only [Act.put, List.setIfInBounds_toArray, List.set_cons_zero, List.set_cons_succ]); exact rfl) ?_) | (refine wpl rfl (wp_loadRW hS 23 _ rfl _ _ rfl 64 (row_of rfl) _ (by with_reducible assumption) (by rfl) ?_); refine wpl_put (by (simp only [Act.put, List.setIfInBounds_toArray, List.set_cons_zero, List.set_cons_succ]); exact rfl) ?_))
          | ((with_reducible show wpList _ _ _ (⟨some 7, .alloc 23, _, _, _, _⟩ :: _) _ _); first | (refine wpl rfl (wp_allocA (o := ⟨some 7, _, _, _, _, _⟩) hS 23 rfl (List.replicate 64 0) 64 List.length_replicate za23 ?_); clear hS; intro g7 w hS; refine wpl_put (by (simp only [Act.put, List.setIfInBounds_toArray, List.set_cons_zero, List.set_cons_succ]); exact rfl) ?_))
          | ((with_reducible show wpList _ _ _ (⟨_, .store 23 _ _, _, _, _, _⟩ :: _) _ _); first | (refine wpl rfl (wp_storeA hS 23 _ _ rfl _ rfl 64 (row_of rfl) _ _ (by (repeat (first | with_reducible exact Pull.head | apply Pull.tail))) (by rfl) (by assumption) rfl ?_); clear hS; intro w hS) | (refine wpl rfl (wp_storeG hS 23 _ _ rfl _ rfl 64 (row_of rfl) _ _ (by (repeat (first | with_reducible exact Pull.head | apply Pull.tail))) (by rfl) (by rfl) (by rfl) (by rfl) rfl ?_); clear hS; intro w hS))
          | ((with_reducible show wpList _ _ _ (⟨some 9, .alloc 23, _, _, _, _⟩ :: _) _ _); first | (refine wpl rfl (wp_allocA (o := ⟨some 9, _, _, _, _, _⟩) hS 23 rfl (List.replicate 64 0) 64 List.length_replicate za23 ?_); clear hS; intro g9 w hS; refine wpl_put (by (simp only [Act.put, List.setIfInBounds_toArray, List.set_cons_zero, List.set_cons_succ]); exact rfl) ?_))
          | ((with_reducible show wpList _ _ _ (⟨_, .load 3 _, _, _, _, _⟩ :: _) _ _); first | (refine wpl rfl (wp_load1A hS 3 _ rfl _ _ rfl (one_of rfl) _ _ (by (repeat (first | with_reducible exact Pull.head | apply Pull.tail))) (by omega) ?_); refine wpl_put (by (simp only [Act.put, List.setIfInBounds_toArray, List.set_cons_zero, List.set_cons_succ]); exact rfl) ?_) | (refine wpl rfl (wp_load1 hS 3 _ rfl _ _ rfl (one_of rfl) _ (by (repeat (first | with_reducible exact Pull.head | apply Pull.tail))) _ (by rfl) ?_); refine wpl_put (by (simp only [Act.put, List.setIfInBounds_toArray, List.set_cons_zero, List.set_cons_succ]); exact rfl) ?_) | (refine wpl rfl (wp_load1O hS 3 _ rfl _ _ rfl (one_of rfl) _ _ _ _ _ (by (repeat (first | with_reducible exact Pull.head | apply Pull.tail))) _ (by with_reducible assumption) ?_); refine wpl_put (by (simp only [Act.put, List.setIfInBounds_toArray, List.set_cons_zero, List.set_cons_succ]); exact rfl) ?_) | (refine wpl rfl (wp_loadW hS 3 _ rfl _ rfl (one_of rfl) _ (by with_reducible assumption) ?_); refine wpl_put (by (simp only [Act.put, List.setIfInBounds_toArray, List.set_cons_zero, List.set_cons_succ]); exact rfl) ?_))
                                                            | (first | refine stop_load ?_ | refine stop_store ?_ | refine stop_alloc ?_ | refine stop_box ?_))
        refine drawn_lit [] (fun w => St W w [arr g7 64 (scR q lo), arr g9 64 (scR q hi_)]) (by kernel_rfl) ?_
        replace hS := hS.drew
        apply takeP 0 (by (repeat (first | with_reducible exact AtL.head | apply AtL.tail))) (by kernel_rfl) (by kernel_rfl) (by kernel_rfl) (fun _ _ _ _ h => h)
        case hfr => intro w; go_wp2_with fail; exact ⟨rfl, rfl⟩
        case hd => rfl
        apply takeP 1 (by (repeat (first | with_reducible exact AtL.head | apply AtL.tail))) (by kernel_rfl) (by kernel_rfl) (by kernel_rfl) (fun _ _ _ _ h => h)
        case hfr => intro w; go_wp2_with fail; exact ⟨rfl, rfl⟩
        case hd => rfl
        apply takeS 2 (by (repeat (first | with_reducible exact AtL.head | apply AtL.tail))) (by kernel_rfl) (by kernel_rfl) (by kernel_rfl) (fun _ _ _ _ h => h) [6, 7, 8, 9, 10, 11, 12, 13, 14, 15, 16, 17, 18] (by kernel_rfl) (hS.sub (by (repeat (first | exact Sub.nil | with_reducible exact Sub.refl | (refine Sub.cons (by (repeat (first | with_reducible exact Pull.head | apply Pull.tail))) ?_) | apply Sub.skip))))
        case hfr => intro w hS; go_wp2_with (first | (refine wpl rfl (wp_load1A hS 3 _ rfl _ _ rfl (one_of rfl) _ _ (by (repeat (first | with_reducible exact Pull.head | apply Pull.tail))) (by omega) ?_); refine wpl_put (by (simp only [Act.put, List.setIfInBounds_toArray, List.set_cons_zero, List.set_cons_succ]); exact rfl) ?_) | (refine wpl rfl (wp_load1 hS 3 _ rfl _ _ rfl (one_of rfl) _ (by (repeat (first | with_reducible exact Pull.head | apply Pull.tail))) _ (by rfl) ?_); refine wpl_put (by (simp only [Act.put, List.setIfInBounds_toArray, List.set_cons_zero, List.set_cons_succ]); exact rfl) ?_) | (refine wpl rfl (wp_load1O hS 3 _ rfl _ _ rfl (one_of rfl) _ _ _ _ _ (by (repeat (first | with_reducible exact Pull.head | apply Pull.tail))) _ (by with_reducible assumption) ?_); refine wpl_put (by (simp only [Act.put, List.setIfInBounds_toArray, List.set_cons_zero, List.set_cons_succ]); exact rfl) ?_) | (refine wpl rfl (wp_loadW hS 3 _ rfl _ rfl (one_of rfl) _ (by with_reducible assumption) ?_); refine wpl_put (by (simp only [Act.put, List.setIfInBounds_toArray, List.set_cons_zero, List.set_cons_succ]); exact rfl) ?_)); exact ⟨rfl, rfl⟩
        case hd => rfl
        apply takeP 3 (by (repeat (first | with_reducible exact AtL.head | apply AtL.tail))) (by kernel_rfl) (by kernel_rfl) (by kernel_rfl) (fun _ _ _ _ h => h)
        case hfr => intro w; go_wp2_with fail; exact ⟨rfl, rfl⟩
        case hd => rfl
        apply takeP 4 (by (repeat (first | with_reducible exact AtL.head | apply AtL.tail))) (by kernel_rfl) (by kernel_rfl) (by kernel_rfl) (fun _ _ _ _ h => h)
        case hfr => intro w; go_wp2_with fail; exact ⟨rfl, rfl⟩
        case hd => rfl
        apply takeS 5 (by (repeat (first | with_reducible exact AtL.head | apply AtL.tail))) (by kernel_rfl) (by kernel_rfl) (by kernel_rfl) (fun _ _ _ _ h => h) [6, 7, 8, 9, 10, 11, 12, 13, 14, 15, 16, 17, 18] (by kernel_rfl) (hS.sub (by (repeat (first | exact Sub.nil | with_reducible exact Sub.refl | (refine Sub.cons (by (repeat (first | with_reducible exact Pull.head | apply Pull.tail))) ?_) | apply Sub.skip))))
        case hfr => intro w hS; go_wp2_with (first | (refine wpl rfl (wp_load1A hS 3 _ rfl _ _ rfl (one_of rfl) _ _ (by (repeat (first | with_reducible exact Pull.head | apply Pull.tail))) (by omega) ?_); refine wpl_put (by (simp only [Act.put, List.setIfInBounds_toArray, List.set_cons_zero, List.set_cons_succ]); exact rfl) ?_) | (refine wpl rfl (wp_load1 hS 3 _ rfl _ _ rfl (one_of rfl) _ (by (repeat (first | with_reducible exact Pull.head | apply Pull.tail))) _ (by rfl) ?_); refine wpl_put (by (simp only [Act.put, List.setIfInBounds_toArray, List.set_cons_zero, List.set_cons_succ]); exact rfl) ?_) | (refine wpl rfl (wp_load1O hS 3 _ rfl _ _ rfl (one_of rfl) _ _ _ _ _ (by (repeat (first | with_reducible exact Pull.head | apply Pull.tail))) _ (by with_reducible assumption) ?_); refine wpl_put (by (simp only [Act.put, List.setIfInBounds_toArray, List.set_cons_zero, List.set_cons_succ]); exact rfl) ?_) | (refine wpl rfl (wp_loadW hS 3 _ rfl _ rfl (one_of rfl) _ (by with_reducible assumption) ?_); refine wpl_put (by (simp only [Act.put, List.setIfInBounds_toArray, List.set_cons_zero, List.set_cons_succ]); exact rfl) ?_)); exact ⟨rfl, rfl⟩
        case hd => rfl
        apply takeP 6 (by (repeat (first | with_reducible exact AtL.head | apply AtL.tail))) (by kernel_rfl) (by kernel_rfl) (by kernel_rfl) (fun _ _ _ _ h => h)
        case hfr => intro w; go_wp2_with fail; exact ⟨rfl, rfl⟩
        case hd => rfl
        apply takeP 7 (by (repeat (first | with_reducible exact AtL.head | apply AtL.tail))) (by kernel_rfl) (by kernel_rfl) (by kernel_rfl) (fun _ _ _ _ h => h)
        case hfr => intro w; go_wp2_with fail; exact ⟨rfl, rfl⟩
        case hd => rfl
        apply takeP 8 (by (repeat (first | with_reducible exact AtL.head | apply AtL.tail))) (by kernel_rfl) (by kernel_rfl) (by kernel_rfl) (fun _ _ _ _ h => h)
        case hfr => intro w; go_wp2_with fail; exact ⟨rfl, rfl⟩
        case hd => rfl
        apply takeP 9 (by (repeat (first | with_reducible exact AtL.head | apply AtL.tail))) (by kernel_rfl) (by kernel_rfl) (by kernel_rfl) (fun _ _ _ _ h => h)
        case hfr => intro w; go_wp2_with fail; exact ⟨rfl, rfl⟩
        case hd => rfl
        apply takeS 10 (by (repeat (first | with_reducible exact AtL.head | apply AtL.tail))) (by kernel_rfl) (by kernel_rfl) (by kernel_rfl) (fun _ _ _ _ h => h) [11, 12, 13, 14, 15, 16, 17, 18] (by kernel_rfl) (hS.sub (by (repeat (first | exact Sub.nil | with_reducible exact Sub.refl | (refine Sub.cons (by (repeat (first | with_reducible exact Pull.head | apply Pull.tail))) ?_) | apply Sub.skip))))
        case hfr => intro w hS; go_wp2_with (first | (refine wpl rfl (wp_load1A hS 3 _ rfl _ _ rfl (one_of rfl) _ _ (by (repeat (first | with_reducible exact Pull.head | apply Pull.tail))) (by omega) ?_); refine wpl_put (by (simp only [Act.put, List.setIfInBounds_toArray, List.set_cons_zero, List.set_cons_succ]); exact rfl) ?_) | (refine wpl rfl (wp_load1 hS 3 _ rfl _ _ rfl (one_of rfl) _ (by (repeat (first | with_reducible exact Pull.head | apply Pull.tail))) _ (by rfl) ?_); refine wpl_put (by (simp only [Act.put, List.setIfInBounds_toArray, List.set_cons_zero, List.set_cons_succ]); exact rfl) ?_) | (refine wpl rfl (wp_load1O hS 3 _ rfl _ _ rfl (one_of rfl) _ _ _ _ _ (by (repeat (first | with_reducible exact Pull.head | apply Pull.tail))) _ (by with_reducible assumption) ?_); refine wpl_put (by (simp only [Act.put, List.setIfInBounds_toArray, List.set_cons_zero, List.set_cons_succ]); exact rfl) ?_) | (refine wpl rfl (wp_loadW hS 3 _ rfl _ rfl (one_of rfl) _ (by with_reducible assumption) ?_); refine wpl_put (by (simp only [Act.put, List.setIfInBounds_toArray, List.set_cons_zero, List.set_cons_succ]); exact rfl) ?_)); exact ⟨rfl, rfl⟩
        case hd => rfl
        apply takeP 11 (by (repeat (first | with_reducible exact AtL.head | apply AtL.tail))) (by kernel_rfl) (by kernel_rfl) (by kernel_rfl) (fun _ _ _ _ h => h)
        case hfr => intro w; go_wp2_with fail; exact ⟨rfl, rfl⟩
        case hd => rfl
        apply takeP 12 (by (repeat (first | with_reducible exact AtL.head | apply AtL.tail))) (by kernel_rfl) (by kernel_rfl) (by kernel_rfl) (fun _ _ _ _ h => h)
        case hfr => intro w; go_wp2_with fail; exact ⟨rfl, rfl⟩
        case hd => rfl
        apply takeP 13 (by (repeat (first | with_reducible exact AtL.head | apply AtL.tail))) (by kernel_rfl) (by kernel_rfl) (by kernel_rfl) (fun _ _ _ _ h => h)
        case hfr => intro w; go_wp2_with fail; exact ⟨rfl, rfl⟩
        case hd => rfl
        apply takeP 14 (by (repeat (first | with_reducible exact AtL.head | apply AtL.tail))) (by kernel_rfl) (by kernel_rfl) (by kernel_rfl) (fun _ _ _ _ h => h)
        case hfr => intro w; go_wp2_with fail; exact ⟨rfl, rfl⟩
        case hd => rfl
        apply takeP 15 (by (repeat (first | with_reducible exact AtL.head | apply AtL.tail))) (by kernel_rfl) (by kernel_rfl) (by kernel_rfl) (fun _ _ _ _ h => h)
        case hfr => intro w; go_wp2_with fail; exact ⟨rfl, rfl⟩
        case hd => rfl
        apply takeS 16 (by (repeat (first | with_reducible exact AtL.head | apply AtL.tail))) (by kernel_rfl) (by kernel_rfl) (by kernel_rfl) (fun _ _ _ _ h => h) [17, 18] (by kernel_rfl) (hS.sub (by (repeat (first | exact Sub.nil | with_reducible exact Sub.refl | (refine Sub.cons (by (repeat (first | with_reducible exact Pull.head | apply Pull.tail))) ?_) | apply Sub.skip))))
        case hfr => intro w hS; go_wp2_with (first | (refine wpl rfl (wp_load1A hS 3 _ rfl _ _ rfl (one_of rfl) _ _ (by (repeat (first | with_reducible exact Pull.head | apply Pull.tail))) (by omega) ?_); refine wpl_put (by (simp only [Act.put, List.setIfInBounds_toArray, List.set_cons_zero, List.set_cons_succ]); exact rfl) ?_) | (refine wpl rfl (wp_load1 hS 3 _ rfl _ _ rfl (one_of rfl) _ (by (repeat (first | with_reducible exact Pull.head | apply Pull.tail))) _ (by rfl) ?_); refine wpl_put (by (simp only [Act.put, List.setIfInBounds_toArray, List.set_cons_zero, List.set_cons_succ]); exact rfl) ?_) | (refine wpl rfl (wp_load1O hS 3 _ rfl _ _ rfl (one_of rfl) _ _ _ _ _ (by (repeat (first | with_reducible exact Pull.head | apply Pull.tail))) _ (by with_reducible assumption) ?_); refine wpl_put (by (simp only [Act.put, List.setIfInBounds_toArray, List.set_cons_zero, List.set_cons_succ]); exact rfl) ?_) | (refine wpl rfl (wp_loadW hS 3 _ rfl _ rfl (one_of rfl) _ (by with_reducible assumption) ?_); refine wpl_put (by (simp only [Act.put, List.setIfInBounds_toArray, List.set_cons_zero, List.set_cons_succ]); exact rfl) ?_)); exact ⟨rfl, rfl⟩
        case hd => rfl
        apply takeP 17 (by (repeat (first | with_reducible exact AtL.head | apply AtL.tail))) (by kernel_rfl) (by kernel_rfl) (by kernel_rfl) (fun _ _ _ _ h => h)
        case hfr => intro w; go_wp2_with fail; exact ⟨rfl, rfl⟩
        case hd => rfl
        apply takeP 18 (by (repeat (first | with_reducible exact AtL.head | apply AtL.tail))) (by kernel_rfl) (by kernel_rfl) (by kernel_rfl) (fun _ _ _ _ h => h)
        case hfr => intro w; go_wp2_with fail; exact ⟨rfl, rfl⟩
        case hd => rfl
        refine drawn_done (by kernel_rfl) ?_ _
        go_wp2_with (first
          | ((with_reducible show wpList _ _ _ (⟨some 3, .box 23 _, _, _, _, _⟩ :: _) _ _); first | (refine wpl rfl (wp_boxA (o := ⟨some 3, _, _, _, _, _⟩) hS 23 _ rfl _ 64 rfl (by assumption) ?_); clear hS; intro g3 w hS; refine wpl_put (by (simp only [Act.put, List.setIfInBounds_toArray, List.set_cons_zero, List.set_cons_succ]); exact rfl) ?_))
          | ((with_reducible show wpList _ _ _ (⟨_, .load 23 _, _, _, _, _⟩ :: _) _ _); first | (refine wpl rfl (wp_loadA hS 23 _ rfl _ rfl 64 (row_of rfl) _ (by (repeat (first | with_reducible exact Pull.head | apply Pull.tail))) ?_); refine wpl_put (by (simp only [Act.put, List.setIfInBounds_toArray, List.set_cons_zero, List.set_cons_succ]); exact rfl) ?_) | (refine wpl rfl (wp_loadG hS 23 _ rfl _ rfl 64 (row_of rfl) _ (by (repeat (first | with_reducible exact Pull.head | apply Pull.tail))) (by rfl) ?_); refine wpl_put (by (simp only [Act.put, List.setIfInBounds_toArray, List.set_cons_zero, List.set_cons_succ]); exact rfl) ?_) | (refine wpl rfl (wp_loadRW hS 23 _ rfl _ _ rfl 64 (row_of rfl) _ (by with_reducible assumption) (by rfl) ?_); refine wpl_put (by (simp only [Act.put, List.setIfInBounds_toArray, List.set_cons_zero, List.set_cons_succ]); exact rfl) ?_))
          | ((with_reducible show wpList _ _ _ (⟨some 7, .alloc 23, _, _, _, _⟩ :: _) _ _); first | (refine wpl rfl (wp_allocA (o := ⟨some 7, _, _, _, _, _⟩) hS 23 rfl (List.replicate 64 0) 64 List.length_replicate za23 ?_); clear hS; intro g7 w hS; refine wpl_put (by (simp only [Act.put, List.setIfInBounds_toArray, List.set_cons_zero, List.set_cons_succ]); exact rfl) ?_))
          | ((with_reducible show wpList _ _ _ (⟨_, .store 23 _ _, _, _, _, _⟩ :: _) _ _); first | (refine wpl rfl (wp_storeA hS 23 _ _ rfl _ rfl 64 (row_of rfl) _ _ (by (repeat (first | with_reducible exact Pull.head | apply Pull.tail))) (by rfl) (by assumption) rfl ?_); clear hS; intro w hS) | (refine wpl rfl (wp_storeG hS 23 _ _ rfl _ rfl 64 (row_of rfl) _ _ (by (repeat (first | with_reducible exact Pull.head | apply Pull.tail))) (by rfl) (by rfl) (by rfl) (by rfl) rfl ?_); clear hS; intro w hS))
          | ((with_reducible show wpList _ _ _ (⟨some 9, .alloc 23, _, _, _, _⟩ :: _) _ _); first | (refine wpl rfl (wp_allocA (o := ⟨some 9, _, _, _, _, _⟩) hS 23 rfl (List.replicate 64 0) 64 List.length_replicate za23 ?_); clear hS; intro g9 w hS; refine wpl_put (by (simp only [Act.put, List.setIfInBounds_toArray, List.set_cons_zero, List.set_cons_succ]); exact rfl) ?_))
          | ((with_reducible show wpList _ _ _ (⟨_, .load 3 _, _, _, _, _⟩ :: _) _ _); first | (refine wpl rfl (wp_load1A hS 3 _ rfl _ _ rfl (one_of rfl) _ _ (by (repeat (first | with_reducible exact Pull.head | apply Pull.tail))) (by omega) ?_); refine wpl_put (by (simp only [Act.put, List.setIfInBounds_toArray, List.set_cons_zero, List.set_cons_succ]); exact rfl) ?_) | (refine wpl rfl (wp_load1 hS 3 _ rfl _ _ rfl (one_of rfl) _ (by (repeat (first | with_reducible exact Pull.head | apply Pull.tail))) _ (by rfl) ?_); refine wpl_put (by (simp only [Act.put, List.setIfInBounds_toArray, List.set_cons_zero, List.set_cons_succ]); exact rfl) ?_) | (refine wpl rfl (wp_load1O hS 3 _ rfl _ _ rfl (one_of rfl) _ _ _ _ _ (by (repeat (first | with_reducible exact Pull.head | apply Pull.tail))) _ (by with_reducible assumption) ?_); refine wpl_put (by (simp only [Act.put, List.setIfInBounds_toArray, List.set_cons_zero, List.set_cons_succ]); exact rfl) ?_) | (refine wpl rfl (wp_loadW hS 3 _ rfl _ rfl (one_of rfl) _ (by with_reducible assumption) ?_); refine wpl_put (by (simp only [Act.put, List.setIfInBounds_toArray, List.set_cons_zero, List.set_cons_succ]); exact rfl) ?_))
                                                            | (first | refine stop_load ?_ | refine stop_store ?_ | refine stop_alloc ?_ | refine stop_box ?_))
        go_roundg (gk - 1)
        case measure => omega
        case rel => exact ⟨i + 1, by omega, by go_num, hS.sub (by (repeat (first | exact Sub.nil | with_reducible exact Sub.refl | (refine Sub.cons (by (repeat (first | with_reducible exact Pull.head | apply Pull.tail))) ?_) | apply Sub.skip)))⟩
      · obtain rfl : i = 64 := by omega
        go_wp2_with (first
          | ((with_reducible show wpList _ _ _ (⟨some 3, .box 23 _, _, _, _, _⟩ :: _) _ _); first | (refine wpl rfl (wp_boxA (o := ⟨some 3, _, _, _, _, _⟩) hS 23 _ rfl _ 64 rfl (by assumption) ?_); clear hS; intro g3 w hS; refine wpl_put (by (simp only [Act.put, List.setIfInBounds_toArray, List.set_cons_zero, List.set_cons_succ]); exact rfl) ?_))
          | ((with_reducible show wpList _ _ _ (⟨_, .load 23 _, _, _, _, _⟩ :: _) _ _); first | (refine wpl rfl (wp_loadA hS 23 _ rfl _ rfl 64 (row_of rfl) _ (by (repeat (first | with_reducible exact Pull.head | apply Pull.tail))) ?_); refine wpl_put (by (simp only [Act.put, List.setIfInBounds_toArray, List.set_cons_zero, List.set_cons_succ]); exact rfl) ?_) | (refine wpl rfl (wp_loadG hS 23 _ rfl _ rfl 64 (row_of rfl) _ (by (repeat (first | with_reducible exact Pull.head | apply Pull.tail))) (by rfl) ?_); refine wpl_put (by (simp only [Act.put, List.setIfInBounds_toArray, List.set_cons_zero, List.set_cons_succ]); exact rfl) ?_) | (refine wpl rfl (wp_loadRW hS 23 _ rfl _ _ rfl 64 (row_of rfl) _ (by with_reducible assumption) (by rfl) ?_); refine wpl_put (by (simp only [Act.put, List.setIfInBounds_toArray, List.set_cons_zero, List.set_cons_succ]); exact rfl) ?_))
          | ((with_reducible show wpList _ _ _ (⟨some 7, .alloc 23, _, _, _, _⟩ :: _) _ _); first | (refine wpl rfl (wp_allocA (o := ⟨some 7, _, _, _, _, _⟩) hS 23 rfl (List.replicate 64 0) 64 List.length_replicate za23 ?_); clear hS; intro g7 w hS; refine wpl_put (by (simp only [Act.put, List.setIfInBounds_toArray, List.set_cons_zero, List.set_cons_succ]); exact rfl) ?_))
          | ((with_reducible show wpList _ _ _ (⟨_, .store 23 _ _, _, _, _, _⟩ :: _) _ _); first | (refine wpl rfl (wp_storeA hS 23 _ _ rfl _ rfl 64 (row_of rfl) _ _ (by (repeat (first | with_reducible exact Pull.head | apply Pull.tail))) (by rfl) (by assumption) rfl ?_); clear hS; intro w hS) | (refine wpl rfl (wp_storeG hS 23 _ _ rfl _ rfl 64 (row_of rfl) _ _ (by (repeat (first | with_reducible exact Pull.head | apply Pull.tail))) (by rfl) (by rfl) (by rfl) (by rfl) rfl ?_); clear hS; intro w hS))
          | ((with_reducible show wpList _ _ _ (⟨some 9, .alloc 23, _, _, _, _⟩ :: _) _ _); first | (refine wpl rfl (wp_allocA (o := ⟨some 9, _, _, _, _, _⟩) hS 23 rfl (List.replicate 64 0) 64 List.length_replicate za23 ?_); clear hS; intro g9 w hS; refine wpl_put (by (simp only [Act.put, List.setIfInBounds_toArray, List.set_cons_zero, List.set_cons_succ]); exact rfl) ?_))
          | ((with_reducible show wpList _ _ _ (⟨_, .load 3 _, _, _, _, _⟩ :: _) _ _); first | (refine wpl rfl (wp_load1A hS 3 _ rfl _ _ rfl (one_of rfl) _ _ (by (repeat (first | with_reducible exact Pull.head | apply Pull.tail))) (by omega) ?_); refine wpl_put (by (simp only [Act.put, List.setIfInBounds_toArray, List.set_cons_zero, List.set_cons_succ]); exact rfl) ?_) | (refine wpl rfl (wp_load1 hS 3 _ rfl _ _ rfl (one_of rfl) _ (by (repeat (first | with_reducible exact Pull.head | apply Pull.tail))) _ (by rfl) ?_); refine wpl_put (by (simp only [Act.put, List.setIfInBounds_toArray, List.set_cons_zero, List.set_cons_succ]); exact rfl) ?_) | (refine wpl rfl (wp_load1O hS 3 _ rfl _ _ rfl (one_of rfl) _ _ _ _ _ (by (repeat (first | with_reducible exact Pull.head | apply Pull.tail))) _ (by with_reducible assumption) ?_); refine wpl_put (by (simp only [Act.put, List.setIfInBounds_toArray, List.set_cons_zero, List.set_cons_succ]); exact rfl) ?_) | (refine wpl rfl (wp_loadW hS 3 _ rfl _ rfl (one_of rfl) _ (by with_reducible assumption) ?_); refine wpl_put (by (simp only [Act.put, List.setIfInBounds_toArray, List.set_cons_zero, List.set_cons_succ]); exact rfl) ?_))
                                                            | ((with_reducible show wpList _ _ _ (⟨_, .call ⟨.value (.func 21), _, _⟩, _, _, _, _⟩ :: _) _ _); refine wpl_call (f := 21) Try.call21 rfl ?_; refine ⟨_, (qcheck_any _ (scR q lo) lx.out), ?_⟩; rintro e w ⟨rfl, hE⟩; replace hS := hS.ext hE; clear hE; rw [HOk.out]; refine ⟨_, rfl, ?_⟩; refine wpl_put (by (simp only [Act.put, List.setIfInBounds_toArray, List.set_cons_zero, List.set_cons_succ]); exact rfl) ?_)
                                                            | (first | refine stop_load ?_ | refine stop_store ?_ | refine stop_alloc ?_ | refine stop_box ?_))
        go_ret
        exact ⟨rfl, hS.1⟩
  · have HE := hid (show scE q lo = 1 ∧ scE q hi_ = 1 from ⟨by rw [scE, if_neg (fun h => hk h.1)], by rw [scE, if_neg (fun h => hk h.1)]⟩)
    have HEq := hid (show (scR q lo == scR q hi_) = true by rw [scR, if_neg (fun h => hk h.1), scR, if_neg (fun h => hk h.1)]; exact beq_self_eq_true _)
    clear hk hlo1 hhi1 hle hq hqd
    go_enter Try.func8, Try.ntmps8
    go_wp2_with (first
      | ((with_reducible show wpList _ _ _ (⟨some 3, .box 23 _, _, _, _, _⟩ :: _) _ _); first | (refine wpl rfl (wp_boxA (o := ⟨some 3, _, _, _, _, _⟩) hS 23 _ rfl _ 64 rfl (by assumption) ?_); clear hS; intro g3 w hS; refine wpl_put (by (simp only [Act.put, List.setIfInBounds_toArray, List.set_cons_zero, List.set_cons_succ]); exact rfl) ?_))
      | ((with_reducible show wpList _ _ _ (⟨_, .load 23 _, _, _, _, _⟩ :: _) _ _); first | (refine wpl rfl (wp_loadA hS 23 _ rfl _ rfl 64 (row_of rfl) _ (by (repeat (first | with_reducible exact Pull.head | apply Pull.tail))) ?_); refine wpl_put (by (simp only [Act.put, List.setIfInBounds_toArray, List.set_cons_zero, List.set_cons_succ]); exact rfl) ?_) | (refine wpl rfl (wp_loadG hS 23 _ rfl _ rfl 64 (row_of rfl) _ (by (repeat (first | with_reducible exact Pull.head | apply Pull.tail))) (by rfl) ?_); refine wpl_put (by (simp only [Act.put, List.setIfInBounds_toArray, List.set_cons_zero, List.set_cons_succ]); exact rfl) ?_) | (refine wpl rfl (wp_loadRW hS 23 _ rfl _ _ rfl 64 (row_of rfl) _ (by with_reducible assumption) (by rfl) ?_); refine wpl_put (by (simp only [Act.put, List.setIfInBounds_toArray, List.set_cons_zero, List.set_cons_succ]); exact rfl) ?_))
      | ((with_reducible show wpList _ _ _ (⟨some 7, .alloc 23, _, _, _, _⟩ :: _) _ _); first | (refine wpl rfl (wp_allocA (o := ⟨some 7, _, _, _, _, _⟩) hS 23 rfl (List.replicate 64 0) 64 List.length_replicate za23 ?_); clear hS; intro g7 w hS; refine wpl_put (by (simp only [Act.put, List.setIfInBounds_toArray, List.set_cons_zero, List.set_cons_succ]); exact rfl) ?_))
      | ((with_reducible show wpList _ _ _ (⟨_, .store 23 _ _, _, _, _, _⟩ :: _) _ _); first | (refine wpl rfl (wp_storeA hS 23 _ _ rfl _ rfl 64 (row_of rfl) _ _ (by (repeat (first | with_reducible exact Pull.head | apply Pull.tail))) (by rfl) (by assumption) rfl ?_); clear hS; intro w hS) | (refine wpl rfl (wp_storeG hS 23 _ _ rfl _ rfl 64 (row_of rfl) _ _ (by (repeat (first | with_reducible exact Pull.head | apply Pull.tail))) (by rfl) (by rfl) (by rfl) (by rfl) rfl ?_); clear hS; intro w hS))
      | ((with_reducible show wpList _ _ _ (⟨some 9, .alloc 23, _, _, _, _⟩ :: _) _ _); first | (refine wpl rfl (wp_allocA (o := ⟨some 9, _, _, _, _, _⟩) hS 23 rfl (List.replicate 64 0) 64 List.length_replicate za23 ?_); clear hS; intro g9 w hS; refine wpl_put (by (simp only [Act.put, List.setIfInBounds_toArray, List.set_cons_zero, List.set_cons_succ]); exact rfl) ?_))
      | ((with_reducible show wpList _ _ _ (⟨_, .load 3 _, _, _, _, _⟩ :: _) _ _); first | (refine wpl rfl (wp_load1A hS 3 _ rfl _ _ rfl (one_of rfl) _ _ (by (repeat (first | with_reducible exact Pull.head | apply Pull.tail))) (by omega) ?_); refine wpl_put (by (simp only [Act.put, List.setIfInBounds_toArray, List.set_cons_zero, List.set_cons_succ]); exact rfl) ?_) | (refine wpl rfl (wp_load1 hS 3 _ rfl _ _ rfl (one_of rfl) _ (by (repeat (first | with_reducible exact Pull.head | apply Pull.tail))) _ (by rfl) ?_); refine wpl_put (by (simp only [Act.put, List.setIfInBounds_toArray, List.set_cons_zero, List.set_cons_succ]); exact rfl) ?_) | (refine wpl rfl (wp_load1O hS 3 _ rfl _ _ rfl (one_of rfl) _ _ _ _ _ (by (repeat (first | with_reducible exact Pull.head | apply Pull.tail))) _ (by with_reducible assumption) ?_); refine wpl_put (by (simp only [Act.put, List.setIfInBounds_toArray, List.set_cons_zero, List.set_cons_succ]); exact rfl) ?_) | (refine wpl rfl (wp_loadW hS 3 _ rfl _ rfl (one_of rfl) _ (by with_reducible assumption) ?_); refine wpl_put (by (simp only [Act.put, List.setIfInBounds_toArray, List.set_cons_zero, List.set_cons_succ]); exact rfl) ?_))
                                                            | ((with_reducible show wpList _ _ _ (⟨_, .call ⟨.value (.func 15), _, _⟩, _, _, _, _⟩ :: _) _ _); refine wpl_call (f := 15) Try.call15 rfl ?_; refine ⟨_, (coarse_any _), ?_⟩; rintro e w ⟨rfl, hE⟩; replace hS := hS.ext hE; clear hE; refine ⟨_, rfl, ?_⟩; refine wpl_put (by (simp only [Act.put, List.setIfInBounds_toArray, List.set_cons_zero, List.set_cons_succ]); exact rfl) ?_)
                                                            | (go_at_call 16; (first | (with_reducible refine (rest_any a0 1000 _ (by omega) (by omega)).mono ?_) | (with_reducible refine (rest_any b0 1000 _ (by omega) (by omega)).mono ?_)); rintro e w' ⟨rfl, rfl⟩; first | rw [HA.out] | rw [HB.out])
                                                            | (go_at_call 20; (first | (with_reducible refine (scale_any _ q lo HQ.out).mono ?_) | (with_reducible refine (scale_any _ q hi_ HQ.out).mono ?_)); rintro e w ⟨rfl, hE⟩; replace hS := hS.ext hE; clear hE; first | rw [HE.out.1] | rw [HE.out.2])
                                                            | (refine wpl rfl (wp_eqBlock _ _ _ rfl _ _ rfl rfl lx ly true HEq.out ?_); refine wpl_put (by (simp only [Act.put, List.setIfInBounds_toArray, List.set_cons_zero, List.set_cons_succ]); exact rfl) ?_)
                                                            | (first | refine stop_load ?_ | refine stop_store ?_ | refine stop_alloc ?_ | refine stop_box ?_))
    go_ret
    exact ⟨rfl, hS.1⟩
end Go.Proofs.Ytbihmbkkoidnbaa
