/- The law ScanMended: what its proof needs, part 3. -/
import Derived.Test.YtehbjhocgnfpmaaDoorScanMendedZ2
/- The walks of the reference's ZigTo, BlockWithin and Tokens. -/
namespace Go.Proofs.YtehbjhocgnfpmaaDoor
open Go.RowKit
set_option linter.unusedVariables false
theorem zi_nth (i : Nat) (h : i < 64) : nth zi i = (zn i : Int) := by
 have := zi_get i h
 rw [iv_get zi i (by rw [zi_len]; exact h)] at this
 simpa using this
set_option maxRecDepth 100000 in
set_option maxHeartbeats 4000000 in
theorem refTo_any (w0 : World) (l : List Int) (hl : Len l 64) : Calls Tryd.prog 98 #[.agg (iv l)] w0 fun e w => e = .returned (.agg (iv (zto l))) ∧ Ext w0 w := by
 have hS := St.start w0
 go_enter Tryd.func98, Tryd.ntmps98
 repeat' (first
  | ((with_reducible refine gt9 _ (.call ⟨.value (.func 107), _, _⟩) ?_); refine wpl_call (f := 107) Tryd.call107 kr9 ?_; refine ⟨_, (refOrder_any _), ?_⟩; rintro e w ⟨ad, c, rfl, hS2⟩; replace hS := hS.call1 hS2; clear hS2; refine ⟨_, rfl, ?_⟩; refine put_move ?_; go_step) | (refine y9144 ?_) | (refine y999 ?_) | ((with_reducible refine gs9 1 ?_); (refine wl9 ?_; apply wp_boxA (o := ⟨some 1, _, _, _, _, _⟩) hS 52 _ rfl _ 64 rfl; (case hn => assumption); clear hS; intro g1 w hS; refine put_move ?_; go_step)) | ((with_reducible refine gs9 2 ?_); (refine wl9 ?_; apply wp_allocA (o := ⟨some 2, _, _, _, _, _⟩) hS 52 rfl (List.replicate 64 0) 64 List.length_replicate za52; clear hS; intro g2 w hS; refine put_move ?_; go_step)) | ((with_reducible refine gs9 3 ?_); (refine wl9 ?_; apply wp_allocA (o := ⟨some 3, _, _, _, _, _⟩) hS 52 rfl (List.replicate 64 0) 64 List.length_replicate za52; clear hS; intro g3 w hS; refine put_move ?_; go_step)) | ((fail_if_success with_reducible refine ga9 ?_); go_step))
 go_loopg [8] 64 (fun gk kv w => ∃ (k : Nat) (L : List Int), gk + k = 64 ∧ kv = .int .i64 k ∧ Len L 64 ∧ Hid (∀ j, j < k → nth L j = nth l (zn j)) ∧ St w0 w [own 3 1 ad 64 c (zi.map (Value.int .i64)), arr g3 64 L, arr g1 64 l, arr g2 64 (List.replicate 64 0)])
 case atStart => exact ⟨0, _, rfl, rfl, List.length_replicate, hid (fun j hj => by omega), hS.sub sb9⟩
 case round =>
  clear hS
  obtain ⟨k, L, hk, rfl, hLL, HL, hS⟩ := hrel
  by_cases hlt : k < 64
  · have hq := zn_lt k hlt
    have hz := zi_nth k hlt
    obtain ⟨q, hqe⟩ : ∃ q, zn k = q := ⟨_, rfl⟩
    rw [hqe] at hq hz
    have HQ := hid hqe
    have HZ := hid hz
    clear hqe hz
    obtain ⟨b2, rfl⟩ := own_some hS pl9 (by omega)
    repeat' (first
     | (refine y91 ?_) | (refine y989 ?_) | ((with_reducible refine gs9 11 ?_); (refine wvv9 (V.indexSl Tryd.underlying24 isz3 rfl rfl isn9 (by omega) (Nat.mul_one _) nq9) ?_; go_step)) | (refine y9121 ?_) | ((fail_if_success with_reducible refine ga9 ?_); go_step))
    rw [HZ.out]
    repeat' (first
     | (refine y9144 ?_) | ((with_reducible refine gs9 15 ?_); (refine wvv9 (V.indexAr Tryd.underlying52 isz3 rfl rfl isn9 (by omega) (Nat.mul_one _) nq9) ?_; go_step)) | ((with_reducible refine gs9 17 ?_); (refine wvv9 (V.indexAr Tryd.underlying52 isz3 rfl rfl isn9 (by omega) (Nat.mul_one _) nq9) ?_; go_step)) | (refine y983 ?_) | (refine y9120 ?_) | ((with_reducible refine gt9 _ (.store 3 _ _) ?_); (refine wl9 ?_; apply wp_store1A hS 3 _ _ rfl _ _ rfl (one_of rfl) _ _; (case hp => exact pl9); (case hy => rfl); (case hi => omega); (case hd => exact rfl); clear hS; intro w hS)) | ((fail_if_success with_reducible refine ga9 ?_); go_step))
    go_roundg (gk - 1)
    case measure => omega
    case rel =>
     refine ⟨k + 1, L.set k (nth l q), by omega, by go_num, Len.set hLL, hid (fun j hj => ?_), hS.sub sb9⟩
     rw [nth_set _ _ _ _ (by rw [show L.length = 64 from hLL]; exact hlt)]
     by_cases hj2 : j = k
     · subst hj2; simp [HQ.out]
     · have := HL.out j (by omega)
       rw [if_neg (by omega)]; exact this
  · obtain rfl : k = 64 := by omega
    have hz : L = zto l := by
     refine List.ext_getElem (by rw [zto_len]; exact hLL) fun j h1 h2 => ?_
     have hj : j < 64 := by have : L.length = 64 := hLL; omega
     have h3 := HL.out j hj
     rw [← zto_get l j hj] at h3
     simp only [nth, List.getD, List.getElem?_eq_getElem h1, List.getElem?_eq_getElem h2, Option.getD_some] at h3
     exact h3
    have HZ := hid hz
    clear hz
    repeat' (first
     | (refine y989 ?_) | ((fail_if_success with_reducible refine ga9 ?_); go_step))
    repeat' (first
     | (refine y9127 ?_) | ((with_reducible refine gt9 _ (.store 52 _ _) ?_); (refine wl9 ?_; apply wp_storeA hS 52 _ _ rfl _ rfl 64 (row_of rfl) _ _; (case hp => exact pl9); (case hy => rfl); (case hm => (repeat (first | assumption | exact Len.rep | apply Len.set | ((with_reducible show Len (_ :: _) _); exact rfl)))); (case hd => exact rfl); clear hS; intro w hS)) | ((fail_if_success with_reducible refine ga9 ?_); go_step))
    refine ret_one rfl (OneRes.arr hS rfl (row_of (n := 64) rfl) pl9) rfl ?_
    exact ⟨by rw [← HZ.out], hS.1⟩
set_option maxRecDepth 100000 in
set_option maxHeartbeats 4000000 in
theorem rwithin_any (w0 : World) (l : List Int) (lo hi : Int) (hl : Len l 64) : Calls Tryd.prog 58 #[.agg (iv l), .int .i64 lo, .int .i64 hi] w0 fun e w => e = .returned (.bool (allIn l lo hi)) ∧ Ext w0 w := by
 have hS := St.start w0
 have HIff := hid (allIn_iff l lo hi)
 have HLl := hid (show l.length = 64 from hl)
 obtain ⟨B, hB⟩ : ∃ B, allIn l lo hi = B := ⟨_, rfl⟩
 rw [hB] at HIff ⊢
 clear hB
 go_enter Tryd.func58, Tryd.ntmps58
 repeat' (first
  | (refine y91 ?_) | ((with_reducible refine gs9 3 ?_); (refine wl9 ?_; apply wp_boxA (o := ⟨some 3, _, _, _, _, _⟩) hS 52 _ rfl _ 64 rfl; (case hn => assumption); clear hS; intro g3 w hS; refine put_move ?_; go_step)) | (refine y9127 ?_) | ((fail_if_success with_reducible refine ga9 ?_); go_step))
 go_loopg [10] 64 (fun gk kv w => ∃ (k : Nat), gk + k = 64 ∧ kv = .int .i64 k ∧ Hid (∀ j, j < k → lo ≤ nth l j ∧ nth l j ≤ hi) ∧ St w0 w [])
 case atStart => exact ⟨0, rfl, rfl, hid (fun j hj => by omega), hS.sub sb9⟩
 case round =>
  clear hS
  obtain ⟨k, hk, rfl, HL, hS⟩ := hrel
  by_cases hlt : k < 64
  · obtain ⟨x, hx⟩ : ∃ x, nth l k = x := ⟨_, rfl⟩
    have HX := hid hx
    clear hx
    by_cases hin : lo ≤ x ∧ x ≤ hi
    · skip
      repeat' (first
       | (refine y91 ?_) | (refine y989 ?_) | (refine y99 ?_) | ((fail_if_success with_reducible refine ga9 ?_); go_step))
      rw [HX.out]
      repeat' (first
       | ((with_reducible refine gt9 _ (.call ⟨.value (.func 78), _, _⟩) ?_); refine wpl_call (f := 78) Tryd.call78 kr9 ?_; refine ⟨_, (outside_in _ _ _ _ (by omega)), ?_⟩; rintro e w' ⟨rfl, rfl⟩; refine ⟨_, rfl, ?_⟩; refine put_move ?_; go_step) | (refine y9144 ?_) | (refine y983 ?_) | ((fail_if_success with_reducible refine ga9 ?_); go_step))
      go_roundg (gk - 1)
      case measure => omega
      case rel =>
       refine ⟨k + 1, by omega, by go_num, hid (fun j hj => ?_), hS⟩
       by_cases hj2 : j = k
       · subst hj2; rw [HX.out]; exact hin
       · exact HL.out j (by omega)
    · have HB : Hid (B = false) := hid (by
       cases B
       · rfl
       · have := HIff.out.1 rfl k (by rw [HLl.out]; exact hlt)
         rw [HX.out] at this
         exact absurd this hin)
      repeat' (first
       | (refine y91 ?_) | (refine y989 ?_) | (refine y99 ?_) | ((fail_if_success with_reducible refine ga9 ?_); go_step))
      rw [HX.out]
      repeat' (first
       | ((with_reducible refine gt9 _ (.call ⟨.value (.func 78), _, _⟩) ?_); refine wpl_call (f := 78) Tryd.call78 kr9 ?_; refine ⟨_, (outside_out _ _ _ _ (by omega)), ?_⟩; rintro e w' ⟨rfl, rfl⟩; refine ⟨_, rfl, ?_⟩; refine put_move ?_; go_step) | (refine y92 ?_) | ((fail_if_success with_reducible refine ga9 ?_); go_step))
      go_ret
      exact ⟨by rw [HB.out]; rfl, hS.1⟩
  · obtain rfl : k = 64 := by omega
    have HB : Hid (B = true) := hid (HIff.out.2 fun i hi => HL.out i (by rw [← HLl.out]; exact hi))
    repeat' (first
     | (refine y92 ?_) | (refine y989 ?_) | ((fail_if_success with_reducible refine ga9 ?_); go_step))
    repeat' (first
     | ((fail_if_success with_reducible refine ga9 ?_); go_step))
    go_ret
    exact ⟨by rw [HB.out]; rfl, hS.1⟩

end Go.Proofs.YtehbjhocgnfpmaaDoor
/- The walk of the reference's Tokens: it gives what run.Tokens gives. -/
namespace Go.Proofs.YtehbjhocgnfpmaaDoor
open Go.RowKit
set_option linter.unusedVariables false
set_option maxRecDepth 100000 in
set_option maxHeartbeats 8000000 in
theorem refTokens_any (w0 : World) (before : Int) (l : List Int) (hl : Len l 64) :
 Calls Tryd.prog 83 #[.int .i64 before, .agg (iv l)] w0 fun e w => ∃ ad c, e = .returned (.tuple #[.slice ad (tokL before l).length c, .int .i64 (tokE before l)]) ∧ St w0 w [own 69 3 ad (tokL before l).length c ((flt (tokL before l)).map (Value.int .i64))] := by
 have hS := St.start w0
 obtain ⟨E, hE⟩ : ∃ E, tokE before l = E := ⟨_, rfl⟩
 by_cases h0 : E = 0
 case neg =>
  have hne : tokE before l ≠ 0 := by rw [hE]; exact h0
  have he1 : E = 1 := by
   rw [← hE] at h0 ⊢
   unfold tokE at h0 ⊢
   split
   · rename_i h; rw [if_pos h] at h0; exact absurd rfl h0
   · rfl
  subst he1
  have HE := hid hE
  have HTL := hid (show tokL before l = [] by unfold tokL; rw [if_neg hne])
  by_cases hb : -2047 ≤ before ∧ before ≤ 2047
  · have hin : allIn l (-2047) 2047 = false := by
     cases e : allIn l (-2047) 2047
     · rfl
     · exfalso; apply hne; unfold tokE; rw [if_pos ⟨(isC_iff _).2 hb, e⟩]
    have HIN := hid hin
    clear hne hin hE
    go_enter Tryd.func83, Tryd.ntmps83
    repeat' (first
     | ((with_reducible refine gt9 _ (.call ⟨.value (.func 78), _, _⟩) ?_); refine wpl_call (f := 78) Tryd.call78 kr9 ?_; refine ⟨_, (outside_in _ _ _ _ hb), ?_⟩; rintro e w' ⟨rfl, rfl⟩; refine ⟨_, rfl, ?_⟩; refine put_move ?_; go_step) | ((with_reducible refine gt9 _ (.call ⟨.value (.func 58), _, _⟩) ?_); refine wpl_call (f := 58) Tryd.call58 kr9 ?_; refine ⟨_, (rwithin_any _ l _ _ hl), ?_⟩; rintro e w' ⟨rfl, hE2⟩; rw [HIN.out]; replace hS := hS.ext hE2; clear hE2; refine ⟨_, rfl, ?_⟩; refine put_move ?_; go_step) | (refine y91 ?_) | (refine y9137 ?_) | (refine y9143 ?_) | ((with_reducible refine gs9 3 ?_); (refine wl9 ?_; apply wp_boxA (o := ⟨some 3, _, _, _, _, _⟩) hS 52 _ rfl _ 64 rfl; (case hn => assumption); clear hS; intro g3 w hS; refine put_move ?_; go_step)) | (refine y9127 ?_) | ((fail_if_success with_reducible refine ga9 ?_); go_step))
    all_goals (try (have hF : False := (by omega); cases hF))
    refine ret_all (xs := [_, _]) rfl (.cons (OneRes.tmp rfl) (.cons (OneRes.tmp rfl) (.nil))) (by simp) rfl ?_
    refine ⟨none, 0, by rw [HTL.out, HE.out]; rfl, ?_⟩
    rw [HTL.out]
    exact (St.of_ext hS.1).nil _ _
  · clear hne hE
    go_enter Tryd.func83, Tryd.ntmps83
    repeat' (first
     | ((with_reducible refine gt9 _ (.call ⟨.value (.func 78), _, _⟩) ?_); refine wpl_call (f := 78) Tryd.call78 kr9 ?_; refine ⟨_, (outside_out _ _ _ _ (by omega)), ?_⟩; rintro e w' ⟨rfl, rfl⟩; refine ⟨_, rfl, ?_⟩; refine put_move ?_; go_step) | go_skip | (refine y91 ?_) | (refine y9138 ?_) | ((with_reducible refine gs9 3 ?_); (refine wl9 ?_; apply wp_boxA (o := ⟨some 3, _, _, _, _, _⟩) hS 52 _ rfl _ 64 rfl; (case hn => assumption); clear hS; intro g3 w hS; refine put_move ?_; go_step)) | ((fail_if_success with_reducible refine ga9 ?_); go_step))
    all_goals (try (have hF : False := (by omega); cases hF))
    refine ret_all (xs := [_, _]) rfl (.cons (OneRes.tmp rfl) (.cons (OneRes.tmp rfl) (.nil))) (by simp) rfl ?_
    refine ⟨none, 0, by rw [HTL.out, HE.out]; rfl, ?_⟩
    rw [HTL.out]
    exact (St.of_ext hS.1).nil _ _
 subst h0
 obtain ⟨hb, hz⟩ := tokE_ok (show l.length = 64 from hl) hE
 have HIN : Hid (allIn l (-2047) 2047 = true) := hid ((allIn_iff l (-2047) 2047).2 fun i hi => hz i (by have : l.length = 64 := hl; omega))
 have hTL : tokL before l = toksOf before (zto l) := by unfold tokL; rw [if_pos hE]
 have hlz := zto_len l
 have hzz : ∀ i, i < 64 → -2047 ≤ nth (zto l) i ∧ nth (zto l) i ≤ 2047 := fun i hi => by rw [zto_get _ i hi]; exact hz _ (zn_lt i hi)
 rw [hTL, hE]
 obtain ⟨z, hze⟩ : ∃ z, zto l = z := ⟨_, rfl⟩
 have HZ := hid hze
 rw [hze] at hlz hzz ⊢
 have HZl : Len z 64 := hlz
 have HZZ := hid hzz
 have hz0 := hzz 0 (by omega)
 obtain ⟨all, hall⟩ : ∃ a, toksOf before z = a := ⟨_, rfl⟩
 rw [hall]
 have HAll := hid hall
 have hzl := hid hlz
 clear hze hlz hzz hall hz hTL hE
 go_enter Tryd.func83, Tryd.ntmps83
 repeat' (first
  | ((with_reducible refine gt9 _ (.call ⟨.value (.func 78), _, _⟩) ?_); refine wpl_call (f := 78) Tryd.call78 kr9 ?_; refine ⟨_, (outside_in _ _ _ _ hb), ?_⟩; rintro e w' ⟨rfl, rfl⟩; refine ⟨_, rfl, ?_⟩; refine put_move ?_; go_step) | ((with_reducible refine gt9 _ (.call ⟨.value (.func 58), _, _⟩) ?_); refine wpl_call (f := 58) Tryd.call58 kr9 ?_; refine ⟨_, (rwithin_any _ l _ _ hl), ?_⟩; rintro e w' ⟨rfl, hE2⟩; rw [HIN.out]; replace hS := hS.ext hE2; clear hE2; refine ⟨_, rfl, ?_⟩; refine put_move ?_; go_step) | ((with_reducible refine gt9 _ (.call ⟨.value (.func 98), _, _⟩) ?_); refine wpl_call (f := 98) Tryd.call98 kr9 ?_; refine ⟨_, (refTo_any _ l hl), ?_⟩; rintro e w ⟨rfl, hE⟩; rw [HZ.out]; replace hS := hS.ext hE; clear hE; refine ⟨_, rfl, ?_⟩; refine put_move ?_; go_step) | ((with_reducible refine gt9 _ (.call ⟨.value (.func 99), _, _⟩) ?_); refine wpl_call (f := 99) Tryd.call99 kr9 ?_; refine ⟨_, (refToken_any _ 0 (nth z 0 - before) (by omega) (by omega) (by omega)), ?_⟩; rintro e w ⟨rfl, hE⟩; replace hS := hS.ext hE; clear hE; refine ⟨_, rfl, ?_⟩; refine put_move ?_; go_step) | ((with_reducible refine gs9 25 ?_); (refine wl9 ?_; apply wp_buildSliceO (o := ⟨some 25, _, _, _, _, _⟩) hS 100 1 _ rfl 69 3 24 el100 _ _; (case hvs => (repeat (first | exact Parts.nil | (apply Parts.agg; (rfl); (rfl)) | (apply Parts.one; exact isv9; (rfl); (rfl))))); (case hn => rfl); (case hn0 => decide); (case hns => decide); clear hS; intro g25 w hS; simp only [List.cons_append, List.nil_append] at hS; refine put_move ?_; go_step)) | (refine y91 ?_) | (refine y9137 ?_) | (refine y9143 ?_) | ((with_reducible refine gs9 20 ?_); (refine wvv9 (V.indexAr Tryd.underlying52 isz3 rfl rfl (show IsN 0 0 from rfl) (by omega) (show 0 * 1 = 0 from rfl) nq9) ?_; go_step)) | (refine y994 ?_) | ((with_reducible refine gs9 3 ?_); (refine wl9 ?_; apply wp_boxA (o := ⟨some 3, _, _, _, _, _⟩) hS 52 _ rfl _ 64 rfl; (case hn => assumption); clear hS; intro g3 w hS; refine put_move ?_; go_step)) | (refine y9127 ?_) | ((with_reducible refine gs9 6 ?_); (refine wl9 ?_; apply wp_allocA (o := ⟨some 6, _, _, _, _, _⟩) hS 52 rfl (List.replicate 64 0) 64 List.length_replicate za52; clear hS; intro g6 w hS; refine put_move ?_; go_step)) | ((with_reducible refine gt9 _ (.store 52 _ _) ?_); (refine wl9 ?_; apply wp_storeA hS 52 _ _ rfl _ rfl 64 (row_of rfl) _ _; (case hp => exact pl9); (case hy => rfl); (case hm => (repeat (first | assumption | exact Len.rep | apply Len.set | ((with_reducible show Len (_ :: _) _); exact rfl)))); (case hd => exact rfl); clear hS; intro w hS)) | (refine y9120 ?_) | ((fail_if_success with_reducible refine ga9 ?_); go_step))
 replace hS : St w0 w [own 69 3 (some ⟨g25, 0, none⟩) 1 1 ((flt [tok 0 (nth z 0 - before)]).map (Value.int .i64)), arr g6 64 z] := hS.sub (xs := [own 69 3 (some ⟨g25, 0, none⟩) 1 1 [.int .i64 (tok 0 (nth z 0 - before)).1, .int .i64 (tok 0 (nth z 0 - before)).2.1, .int .i64 (tok 0 (nth z 0 - before)).2.2], arr g6 64 z]) sb9
 go_loopg [7, 8, 9] 63 (fun gk ov lv kv w => ∃ (i la r m : Nat) (o : List Tok) (a' : Option Addr) (c' : Nat), gk + i = 64 ∧ kv = .int .i64 i ∧ lv = .int .i64 la ∧ i = la + 1 + r ∧ ov = .slice a' m c' ∧ m + r ≤ i ∧ Hid (o.length = m) ∧ Hid (all = o ++ tks r (z.drop i)) ∧ St w0 w [own 69 3 a' m c' ((flt o).map (Value.int .i64)), arr g6 64 z])
 case atStart => exact ⟨1, 0, 0, 1, [tok 0 (nth z 0 - before)], _, _, rfl, rfl, rfl, rfl, rfl, by omega, hid rfl, hid (by rw [← HAll.out]; rfl), hS⟩
 case round =>
  clear hS
  obtain ⟨i, la, r, m, o, a', c', hk, rfl, rfl, hir, rfl, hmr, HO, HA, hS⟩ := hrel
  by_cases hlt : i < 64
  · have hdrop : z.drop i = nth z i :: z.drop (i + 1) := by
     rw [List.drop_eq_getElem_cons (by rw [hzl.out]; omega)]
     simp [nth, List.getD, hzl.out, hlt]
    have hn := HZZ.out i hlt
    have ha := HA.out
    rw [hdrop, tks] at ha
    obtain ⟨n, hne⟩ : ∃ n, nth z i = n := ⟨_, rfl⟩
    rw [hne] at ha hn
    have HN := hid hne
    clear hdrop hne HA
    by_cases h0 : n = 0
    · subst h0
      rw [if_pos rfl] at ha
      have HA2 := hid ha
      clear ha
      repeat' (first
       | (refine y954 ?_) | (refine y91 ?_) | (refine y989 ?_) | (refine y983 ?_) | (refine y952 ?_) | (refine y985 ?_) | ((fail_if_success with_reducible refine ga9 ?_); go_step))
      go_roundg (gk - 1)
      case measure => omega
      case rel => exact ⟨i + 1, la, r + 1, m, o, a', c', by omega, by go_num, rfl, by omega, rfl, by omega, HO, HA2, hS⟩
    · rw [if_neg h0] at ha
      have HA2 := hid ha
      clear ha
      repeat' (first
       | (refine y9144 ?_) | (refine y989 ?_) | ((fail_if_success with_reducible refine ga9 ?_); go_step))
      repeat' (first
       | (refine y954 ?_) | ((with_reducible refine gs9 37 ?_); (refine wplV (.int _ (((r : Nat) : Int))) (V.as (V.subI rfl rfl (by omega)) (by omega)) rfl ?_; go_step)) | ((with_reducible refine gs9 39 ?_); (refine wplV (.int _ (((r / 16 : Nat) : Int))) (V.as (V.quo rfl rfl (by omega) (by omega)) (by omega)) rfl ?_; go_step)) | (refine y91 ?_) | (refine y952 ?_) | (refine y985 ?_) | (refine y994 ?_) | ((fail_if_success with_reducible refine ga9 ?_); go_step))
      obtain ⟨gk1, hgk1⟩ : ∃ x, x = gk := ⟨_, rfl⟩
      subst hgk1
      go_loopg [7, 40] (r / 16) (fun gk ov kv w => ∃ (j m : Nat) (o : List Tok) (a' : Option Addr) (c' : Nat), gk + j = r / 16 ∧ kv = .int .i64 j ∧ ov = .slice a' m c' ∧ m + r ≤ i + j ∧ Hid (o.length = m) ∧ Hid (all = o ++ (List.replicate gk longT ++ (tok (r % 16) n :: tks 0 (z.drop (i + 1))))) ∧ St w0 w [own 69 3 a' m c' ((flt o).map (Value.int .i64)), arr g6 64 z])
      case atStart => exact ⟨0, m, o, a', c', rfl, rfl, rfl, hmr, HO, HA2, hS⟩
      case round =>
       clear hS HO HA2
       obtain ⟨j, m, o, a', c', hj, rfl, rfl, hmr, HO, HA2, hS⟩ := hrel
       by_cases hbig : j < r / 16
       · have HA3 : Hid (all = (o ++ [longT]) ++ (List.replicate (gk - 1) longT ++ (tok (r % 16) n :: tks 0 (z.drop (i + 1))))) := hid (by
          rw [HA2.out, show gk = (gk - 1) + 1 by omega, List.replicate_succ]; simp)
         have HF := hid (show flt (o ++ [longT]) = flt o ++ [240, 0, 0] from flt_snoc o longT)
         clear HA2
         repeat' (first
          | (refine y91 ?_) | (refine y989 ?_) | ((with_reducible refine gs9 43 ?_); (refine wvv9 (V.build (vs := [(0, _)]) rfl (bl69_0 _)) ?_; go_step)) | (refine y983 ?_) | ((with_reducible refine gs9 44 ?_); (refine wl9 ?_; apply wp_buildSlice1 (o := ⟨some 44, _, _, _, _, _⟩) hS 100 1 _ rfl 69 3 24 el100 _ _; (case hvs => (repeat (first | exact Parts.nil | (apply Parts.agg; (rfl); (rfl)) | (apply Parts.one; exact isv9; (rfl); (rfl))))); (case hn => rfl); (case hn0 => decide); (case hns => decide); clear hS; intro g44 w hS; simp only [List.cons_append, List.nil_append] at hS; refine put_move ?_; go_step)) | ((with_reducible refine gs9 45 ?_); (refine wl9 ?_; apply wp_append (o := ⟨some 45, _, _, _, _, _⟩) hS _ _ 100 rfl 69 3 24 el100 _ _ _ _ rfl; (case hp => exact pl9); (case hx => exact rfl); (case hm => (first | exact hS.slBlk pl9 (by rfl) (by decide) | exact hS.sl pl9 | with_reducible assumption | exact Sl.ext (by with_reducible assumption) hS.1 | exact Sl.nil _ _ | exact Sl.ext (by assumption) hS.1 | assumption)); (case h1 => (first | exact oneAll rfl | exact oneMap _ _ | (intro u hu; cases hu))); (case h63 => unfold maxLen; omega); (case hb => omega); clear hS; intro ad45 c45 w hS; (first | simp only [mapk1] at hS | simp only [mapk2] at hS | simp only [mapk3] at hS | simp only [mapk4] at hS | simp only [mapkl] at hS | skip); refine put_move ?_; go_step)) | ((fail_if_success with_reducible refine ga9 ?_); go_step))
         go_roundg (gk - 1)
         case measure => omega
         case rel => exact ⟨j + 1, m + 1, o ++ [longT], ad45, c45, by omega, by go_num, rfl, by omega, hid (by rw [List.length_append, HO.out]; rfl), HA3, (by rw [HF.out]; exact hS.sub sb9)⟩
       · obtain rfl : gk = 0 := by omega
         have HA3 : Hid (all = (o ++ [tok (r % 16) n]) ++ tks 0 (z.drop (i + 1))) := hid (by rw [HA2.out]; simp)
         have HF := hid (flt_snoc o (tok (r % 16) n))
         have hr15 : r % 16 ≤ 15 := by omega
         obtain ⟨q, hq⟩ : ∃ q, r % 16 = q := ⟨_, rfl⟩
         have HQ := hid hq
         rw [hq] at HA3 HF hr15
         clear HA2 hq
         repeat' (first
          | (refine y9144 ?_) | (refine y989 ?_) | ((fail_if_success with_reducible refine ga9 ?_); go_step))
         repeat' (first
          | ((with_reducible refine gs9 52 ?_); refine wl9 ?_; apply wp_load1A hS 3 _ rfl _ _ rfl (one_of rfl) _ _; (case hp => exact pl9); (case hi => omega); rw [HN.out]; refine put_move ?_; go_step) | ((with_reducible refine gs9 49 ?_); (refine wplV (.int _ (((q : Nat) : Int))) (V.as (V.rem rfl rfl (by omega) (by omega)) (by (have := HQ.out; omega))) rfl ?_; go_step)) | ((with_reducible refine gs9 53 ?_); refine wpl_call (f := 99) Tryd.call99 kr9 ?_; refine ⟨_, (refToken_any _ q n hr15 (by omega) (by omega)), ?_⟩; rintro e w ⟨rfl, hE⟩; replace hS := hS.ext hE; clear hE; refine ⟨_, rfl, ?_⟩; refine put_move ?_; go_step) | (refine y91 ?_) | ((with_reducible refine gs9 51 ?_); (refine wvv9 (V.indexAr Tryd.underlying52 isz3 rfl rfl isn9 (by omega) (Nat.mul_one _) nq9) ?_; go_step)) | ((with_reducible refine gs9 54 ?_); (refine wl9 ?_; apply wp_buildSlice1 (o := ⟨some 54, _, _, _, _, _⟩) hS 100 1 _ rfl 69 3 24 el100 _ _; (case hvs => (repeat (first | exact Parts.nil | (apply Parts.agg; (rfl); (rfl)) | (apply Parts.one; exact isv9; (rfl); (rfl))))); (case hn => rfl); (case hn0 => decide); (case hns => decide); clear hS; intro g54 w hS; simp only [List.cons_append, List.nil_append] at hS; refine put_move ?_; go_step)) | ((with_reducible refine gs9 55 ?_); (refine wl9 ?_; apply wp_append (o := ⟨some 55, _, _, _, _, _⟩) hS _ _ 100 rfl 69 3 24 el100 _ _ _ _ rfl; (case hp => exact pl9); (case hx => exact rfl); (case hm => (first | exact hS.slBlk pl9 (by rfl) (by decide) | exact hS.sl pl9 | with_reducible assumption | exact Sl.ext (by with_reducible assumption) hS.1 | exact Sl.nil _ _ | exact Sl.ext (by assumption) hS.1 | assumption)); (case h1 => (first | exact oneAll rfl | exact oneMap _ _ | (intro u hu; cases hu))); (case h63 => unfold maxLen; omega); (case hb => omega); clear hS; intro ad55 c55 w hS; (first | simp only [mapk1] at hS | simp only [mapk2] at hS | simp only [mapk3] at hS | simp only [mapk4] at hS | simp only [mapkl] at hS | skip); refine put_move ?_; go_step)) | ((fail_if_success with_reducible refine ga9 ?_); go_step))
         repeat' (first
          | (refine y92 ?_) | (refine y983 ?_) | ((fail_if_success with_reducible refine ga9 ?_); go_step))
         go_roundg (gk1 - 1)
         case measure => omega
         case rel => exact ⟨i + 1, i, 0, m + 1, o ++ [tok q n], ad55, c55, by omega, by go_num, rfl, by omega, rfl, by omega, hid (by rw [List.length_append, HO.out]; rfl), HA3, (by rw [HF.out]; exact hS.sub sb9)⟩
  · obtain rfl : i = 64 := by omega
    have ha := HA.out
    rw [show z.drop 64 = [] by rw [List.drop_eq_nil_iff, hzl.out]; omega, tks] at ha
    by_cases h0 : 0 < r
    · rw [if_pos h0] at ha
      have HL := hid (show all.length = m + 1 by rw [ha, List.length_append, HO.out]; rfl)
      have HF := hid (show flt all = flt o ++ [0, 0, 0] by rw [ha, flt_app]; rfl)
      clear ha HA
      repeat' (first
       | (refine y9144 ?_) | (refine y989 ?_) | ((fail_if_success with_reducible refine ga9 ?_); go_step))
      repeat' (first
       | (refine y91 ?_) | ((with_reducible refine gs9 60 ?_); (refine wvv9 (V.build (vs := []) rfl (bl69_)) ?_; go_step)) | ((with_reducible refine gs9 61 ?_); (refine wl9 ?_; apply wp_buildSlice1 (o := ⟨some 61, _, _, _, _, _⟩) hS 100 1 _ rfl 69 3 24 el100 _ _; (case hvs => (repeat (first | exact Parts.nil | (apply Parts.agg; (rfl); (rfl)) | (apply Parts.one; exact isv9; (rfl); (rfl))))); (case hn => rfl); (case hn0 => decide); (case hns => decide); clear hS; intro g61 w hS; simp only [List.cons_append, List.nil_append] at hS; refine put_move ?_; go_step)) | ((with_reducible refine gs9 62 ?_); (refine wl9 ?_; apply wp_append (o := ⟨some 62, _, _, _, _, _⟩) hS _ _ 100 rfl 69 3 24 el100 _ _ _ _ rfl; (case hp => exact pl9); (case hx => exact rfl); (case hm => (first | exact hS.slBlk pl9 (by rfl) (by decide) | exact hS.sl pl9 | with_reducible assumption | exact Sl.ext (by with_reducible assumption) hS.1 | exact Sl.nil _ _ | exact Sl.ext (by assumption) hS.1 | assumption)); (case h1 => (first | exact oneAll rfl | exact oneMap _ _ | (intro u hu; cases hu))); (case h63 => unfold maxLen; omega); (case hb => omega); clear hS; intro ad62 c62 w hS; (first | simp only [mapk1] at hS | simp only [mapk2] at hS | simp only [mapk3] at hS | simp only [mapk4] at hS | simp only [mapkl] at hS | skip); refine put_move ?_; go_step)) | ((fail_if_success with_reducible refine ga9 ?_); go_step))
      refine ret_all (xs := [_, _]) rfl (.cons (OneRes.tmp rfl) (.cons (OneRes.tmp rfl) (.nil))) (by simp) rfl ?_
      refine ⟨ad62, c62, (by rw [HL.out]; first | done | rfl), ?_⟩
      rw [HL.out, HF.out]
      exact hS.sub sb9
    · rw [if_neg h0, List.append_nil] at ha
      have HL := hid (show all.length = m by rw [ha, HO.out])
      have HF := hid (show flt all = flt o by rw [ha])
      clear ha HA
      repeat' (first
       | (refine y91 ?_) | (refine y989 ?_) | ((fail_if_success with_reducible refine ga9 ?_); go_step))
      repeat' (first
       | ((fail_if_success with_reducible refine ga9 ?_); go_step))
      refine ret_all (xs := [_, _]) rfl (.cons (OneRes.tmp rfl) (.cons (OneRes.tmp rfl) (.nil))) (by simp) rfl ?_
      refine ⟨a', c', (by rw [HL.out]; first | done | rfl), ?_⟩
      rw [HL.out, HF.out]
      exact hS.sub sb9

end Go.Proofs.YtehbjhocgnfpmaaDoor
/- The walks of the reference's BlocksCheck and Counts. -/
namespace Go.Proofs.YtehbjhocgnfpmaaDoor
open Go.RowKit
set_option linter.unusedVariables false
def allBlk (l : List Int) (n : Nat) : Bool := (List.range n).all fun k => blkIn (seg l 64 k)
theorem allBlk_succ (l : List Int) (n : Nat) : allBlk l (n + 1) = (allBlk l n && blkIn (seg l 64 n)) := by
 unfold allBlk; rw [List.range_succ, List.all_append]; simp
theorem allBlk_at {l : List Int} {n k : Nat} (h : allBlk l n = true) (hk : k < n) : blkIn (seg l 64 k) = true := by
 unfold allBlk at h
 rw [List.all_eq_true] at h
 exact h k (List.mem_range.2 hk)
theorem allBlk_not {l : List Int} {n k : Nat} (hk : k < n) (h : blkIn (seg l 64 k) = false) : allBlk l n = false := by
 cases e : allBlk l n
 · rfl
 · rw [allBlk_at e hk] at h; cases h
def blkE (l : List Int) (n : Nat) : Int := if 400 < n then 2 else if allBlk l n then 0 else 1

def cnt (L : List Int) : List Int := (List.range 256).map fun s : Nat => ((L.count (s : Int) : Nat) : Int)
theorem cnt_len (L : List Int) : (cnt L).length = 256 := by unfold cnt; simp
theorem cnt_nth (L : List Int) {s : Nat} (h : s < 256) : nth (cnt L) s = ((L.count (s : Int) : Nat) : Int) := by
 unfold cnt nth List.getD
 rw [List.getElem?_map, List.getElem?_range h]; rfl
theorem cnt_ext {A B : List Int} (ha : A.length = 256) (hb : B.length = 256) (h : ∀ i, i < 256 → nth A i = nth B i) : A = B := by
 refine List.ext_getElem (by rw [ha, hb]) fun i h1 h2 => ?_
 have := h i (by omega)
 simpa [nth, List.getD, h1, h2] using this
theorem cnt_nil : cnt [] = List.replicate 256 0 := by
 refine cnt_ext (cnt_len _) List.length_replicate fun i hi => ?_
 rw [cnt_nth _ hi]
 simp only [nth, List.getD, List.getElem?_replicate, if_pos hi]
 rfl
theorem cnt_snoc (L : List Int) {s : Nat} (h : s < 256) : (cnt L).set s (nth (cnt L) s + 1) = cnt (L ++ [(s : Int)]) := by
 refine cnt_ext (by rw [List.length_set, cnt_len]) (cnt_len _) fun i hi => ?_
 rw [nth_set _ _ _ _ (by rw [cnt_len]; exact h), cnt_nth _ hi, cnt_nth _ h, cnt_nth _ hi, List.count_append, List.count_singleton]
 by_cases e : s = i
 · subst e; simp
 · rw [if_neg e, if_neg (by simp; omega)]; simp
def bef (l : List Int) (k : Nat) : Int := if k = 0 then 0 else nth (seg l 64 (k - 1)) 0
def tkb (l : List Int) (k : Nat) : List Tok := tokL (bef l k) (seg l 64 k)
def syF (l : List Int) (n : Nat) : List Int := (List.range n).flatMap fun k => ((tkb l k).take 1).map (·.1)
def syR (l : List Int) (n : Nat) : List Int := (List.range n).flatMap fun k => ((tkb l k).drop 1).map (·.1)
theorem syF_succ (l : List Int) (n : Nat) : syF l (n + 1) = syF l n ++ ((tkb l n).take 1).map (·.1) := by unfold syF; rw [List.range_succ, List.flatMap_append]; simp
theorem syR_succ (l : List Int) (n : Nat) : syR l (n + 1) = syR l n ++ ((tkb l n).drop 1).map (·.1) := by unfold syR; rw [List.range_succ, List.flatMap_append]; simp
theorem tks_sym : ∀ (l : List Int) (r : Nat), (∀ x ∈ l, -2047 ≤ x ∧ x ≤ 2047) → ∀ t ∈ tks r l, 0 ≤ t.1 ∧ t.1 < 256
 | [], r, _, t, ht => by
  unfold tks at ht
  split at ht
  · simp at ht; subst ht; decide
  · simp at ht
 | n :: l, r, h, t, ht => by
  unfold tks at ht
  split at ht
  · exact tks_sym l (r + 1) (fun x hx => h x (by simp [hx])) t ht
  · rcases List.mem_append.1 ht with ht | ht
    · rw [List.eq_of_mem_replicate ht]; decide
    · rcases List.mem_cons.1 ht with rfl | ht
      · have h1 := sz_le11 n (by have := h n (by simp); omega)
        unfold tok
        dsimp only
        omega
      · exact tks_sym l 0 (fun x hx => h x (by simp [hx])) t ht
theorem tokL_sym {p : Int} {x : List Int} (hx : x.length = 64) : ∀ t ∈ tokL p x, 0 ≤ t.1 ∧ t.1 < 256 := by
 intro t ht
 unfold tokL at ht
 split at ht
 · rename_i h
   obtain ⟨h1, h2⟩ := tokE_ok hx h
   have hz : ∀ i, i < 64 → -2047 ≤ nth (zto x) i ∧ nth (zto x) i ≤ 2047 := fun i hi => by rw [zto_get _ i hi]; exact h2 _ (zn_lt i hi)
   unfold toksOf at ht
   rcases List.mem_cons.1 ht with rfl | ht
   · have := hz 0 (by omega)
     have h3 := sz_le (nth (zto x) 0 - p) (by omega)
     unfold tok
     dsimp only
     omega
   · refine tks_sym _ 0 (fun y hy => ?_) t ht
     obtain ⟨i, hi, rfl⟩ := List.mem_iff_getElem.1 (List.mem_of_mem_drop hy)
     have := hz i (by rw [← zto_len x]; exact hi)
     simpa [nth, List.getD, hi] using this
 · simp at ht
theorem tokL_le {p : Int} {x : List Int} (hx : x.length = 64) : (tokL p x).length ≤ 64 := by
 unfold tokL
 split
 · exact (toks_len p (zto x) (zto_len x)).2
 · simp
theorem sy_len {l : List Int} {m : Nat} (hl : l.length = m * 64) : ∀ n, n ≤ m → (syF l n).length + (syR l n).length ≤ n * 64
 | 0, _ => by simp [syF, syR]
 | n + 1, h => by
  have ih := sy_len hl n (by omega)
  have h1 : (tkb l n).length ≤ 64 := tokL_le (seg_len l 64 n m hl (by omega))
  rw [syF_succ, syR_succ]
  simp
  omega
theorem take_next {T : List Tok} {i : Nat} {x : Tok} (hi : i < T.length) (h : T.take (i + 1) = T.take i ++ [x]) (A B : List Int) :
 (i = 0 → A ++ ((T.take (i + 1)).take 1).map (·.1) = (A ++ ((T.take i).take 1).map (·.1)) ++ [x.1] ∧ B ++ ((T.take (i + 1)).drop 1).map (·.1) = B ++ ((T.take i).drop 1).map (·.1)) ∧
 (i ≠ 0 → A ++ ((T.take (i + 1)).take 1).map (·.1) = A ++ ((T.take i).take 1).map (·.1) ∧ B ++ ((T.take (i + 1)).drop 1).map (·.1) = (B ++ ((T.take i).drop 1).map (·.1)) ++ [x.1]) := by
 have hl : (T.take i).length = i := by simp; omega
 rw [h]
 constructor
 · rintro rfl
   simp
 · intro h0
   rw [List.take_append_of_le_length (by omega), List.drop_append_of_le_length (by omega), List.map_append, ← List.append_assoc]
   exact ⟨rfl, rfl⟩
theorem cnt_bd (L : List Int) {q : Nat} (hq : q < 256) : 0 ≤ nth (cnt L) q ∧ nth (cnt L) q ≤ L.length := by
 rw [cnt_nth _ hq]
 have := List.count_le_length (a := (q : Int)) (l := L)
 omega
theorem refTokens_b (w0 : World) (l : List Int) (k : Nat) (p : Int) (h : bef l k = p) (hl : Len (seg l 64 k) 64) :
 Calls Tryd.prog 83 #[.int .i64 p, .agg (iv (seg l 64 k))] w0 fun e w => ∃ ad m c E, (tkb l k).length = m ∧ e = .returned (.tuple #[.slice ad m c, .int .i64 E]) ∧ St w0 w [own 69 3 ad m c ((flt (tkb l k)).map (Value.int .i64))] := by
 subst h
 refine (refTokens_any w0 (bef l k) (seg l 64 k) hl).mono ?_
 rintro e w ⟨ad, c, rfl, hS⟩
 exact ⟨ad, _, c, _, rfl, rfl, hS⟩
set_option maxRecDepth 100000 in
set_option maxHeartbeats 8000000 in
theorem refCounts_any (w0 : World) (ad : Option Addr) (n c : Nat) (l : List Int) (hn : n ≤ 1048576) (hv : Sl w0 64 (.slice ad n c) n (l.map (Value.int .i64))) :
 Calls Tryd.prog 65 #[.slice ad n c] w0 fun e w => ∃ g1 g2, e = .returned (.tuple #[.slice (some ⟨g1, 0, none⟩) 256 256, .slice (some ⟨g2, 0, none⟩) 256 256]) ∧ St w0 w [own 3 1 (some ⟨g1, 0, none⟩) 256 256 ((cnt (syF l n)).map (Value.int .i64)), own 3 1 (some ⟨g2, 0, none⟩) 256 256 ((cnt (syR l n)).map (Value.int .i64))] := by
 have hl : l.length = n * 64 := by have := hv.1; simpa using this
 have HL := hid hl
 clear hl
 have hS := St.start w0
 go_enter Tryd.func65, Tryd.ntmps65
 repeat' (first
  | (refine y92 ?_) | ((fail_if_success with_reducible refine ga9 ?_); go_step))
 refine drawn_lit [] (fun _ => True) kr9 ?_
 replace hS := hS.drew
 focus
  refine branch [0, 1] kr9 (by simp) (.cons al9 rfl ?_ (.cons al9 rfl ?_ (.nil)))
  rotate_left 1
  focus
   (refine wp_make (o := ⟨some 14, _, _, _, _, _⟩) hS 24 _ _ rfl _ _ _ _ elz24 _ _ _ _ _ _ rfl rfl isn9 isn9 (by omega) (by omega) (by unfold maxLen; omega) ?_; clear hS; intro g14 w hS)
   refine ⟨fun _ h => h, ?_⟩
   refine drawn_move ?_
   go_step
   refine branch1 0 al9 rfl kr9 ?_
   (refine wp_make (o := ⟨some 13, _, _, _, _, _⟩) hS 24 _ _ rfl _ _ _ _ elz24 _ _ _ _ _ _ rfl rfl isn9 isn9 (by omega) (by omega) (by unfold maxLen; omega) ?_; clear hS; intro g13 w hS)
   refine ⟨fun _ h => h, ?_⟩
   refine drawn_move ?_
   go_step
   refine takeA 2 _ al9 kr9 kr9 kr9 hq9 rfl ?_
   go_step
   refine takeA 3 _ al9 kr9 kr9 kr9 hq9 rfl ?_
   go_step
   refine drawn_done kr9 ?_ _
  rotate_right 1
  focus
   (refine wp_make (o := ⟨some 13, _, _, _, _, _⟩) hS 24 _ _ rfl _ _ _ _ elz24 _ _ _ _ _ _ rfl rfl isn9 isn9 (by omega) (by omega) (by unfold maxLen; omega) ?_; clear hS; intro g13 w hS)
   refine ⟨fun _ h => h, ?_⟩
   refine drawn_move ?_
   go_step
   refine takeA 2 _ al9 kr9 kr9 kr9 hq9 rfl ?_
   go_step
   refine branch1 1 al9 rfl kr9 ?_
   (refine wp_make (o := ⟨some 14, _, _, _, _, _⟩) hS 24 _ _ rfl _ _ _ _ elz24 _ _ _ _ _ _ rfl rfl isn9 isn9 (by omega) (by omega) (by unfold maxLen; omega) ?_; clear hS; intro g14 w hS)
   refine ⟨fun _ h => h, ?_⟩
   refine drawn_move ?_
   go_step
   refine takeA 3 _ al9 kr9 kr9 kr9 hq9 rfl ?_
   go_step
   refine drawn_done kr9 ?_ _
 all_goals
  rw [show (256 * 1 : Nat) = 256 from rfl, ← cnt_nil] at hS
  replace hS := hS.sub (xs := [own 3 1 (some ⟨g13, 0, none⟩) 256 256 ((cnt []).map (Value.int .i64)), own 3 1 (some ⟨g14, 0, none⟩) 256 256 ((cnt []).map (Value.int .i64))]) sb9
  repeat' (first
   | (refine y9144 ?_) | (refine y998 ?_) | ((fail_if_success with_reducible refine ga9 ?_); go_step))
  go_loopg [17] n (fun gk kv w => ∃ k : Nat, gk + k = n ∧ kv = .int .i64 k ∧ St w0 w [own 3 1 (some ⟨g13, 0, none⟩) 256 256 ((cnt (syF l k)).map (Value.int .i64)), own 3 1 (some ⟨g14, 0, none⟩) 256 256 ((cnt (syR l k)).map (Value.int .i64))])
  case atStart => exact ⟨0, rfl, rfl, hS⟩
  case round =>
   clear hS
   obtain ⟨k, hk, rfl, hS⟩ := hrel
   by_cases hlt : k < n
   · have ls : Len (seg l 64 k) 64 := seg_len l 64 k n HL.out hlt
     by_cases hk0 : k = 0
     · have HB : Hid (bef l k = 0) := hid (by unfold bef; rw [if_pos hk0])
       repeat' (first
        | (refine y91 ?_) | (refine y989 ?_) | ((with_reducible refine gs9 20 ?_); (refine wpl_indexS (by with_reducible assumption) Tryd.underlying22 isz52 rfl rfl isn9 (by omega) rfl ?_; intro b20 o20 hl20 hc20; go_step)) | (refine y987 ?_) | (refine y9128 ?_) | ((with_reducible refine gs9 7 ?_); (refine wl9 ?_; apply wp_allocA (o := ⟨some 7, _, _, _, _, _⟩) hS 52 rfl (List.replicate 64 0) 64 List.length_replicate za52; clear hS; intro g7 w hS; refine put_move ?_; go_step)) | ((with_reducible refine gt9 _ (.store 52 _ _) ?_); (refine wl9 ?_; apply wp_storeA hS 52 _ _ rfl _ rfl 64 (row_of rfl) _ _; (case hp => exact pl9); (case hy => rfl); (case hm => (repeat (first | assumption | exact Len.rep | apply Len.set | ((with_reducible show Len (_ :: _) _); exact rfl)))); (case hd => exact rfl); clear hS; intro w hS)) | ((fail_if_success with_reducible refine ga9 ?_); go_step))
       repeat' (first
        | ((with_reducible refine gs9 33 ?_); refine wpl_call (f := 83) Tryd.call83 kr9 ?_; refine ⟨_, (refTokens_b _ l k _ HB.out ls), ?_⟩; rintro e w ⟨a5, m5, c5, E5, hm5, rfl, hS2⟩; have HM5 := hid hm5; replace hS := hS.call1 hS2; clear hS2 hm5; refine ⟨_, rfl, ?_⟩; refine put_move ?_; go_step) | (refine y91 ?_) | (refine y9104 ?_) | (refine y995 ?_) | ((fail_if_success with_reducible refine ga9 ?_); go_step))
       obtain ⟨T, hT⟩ : ∃ T, tkb l k = T := ⟨_, rfl⟩
       have HTE := hid hT
       rw [hT] at hS HM5
       have HSY := hid (show ∀ t ∈ T, 0 ≤ t.1 ∧ t.1 < 256 by rw [← hT]; exact tokL_sym ls)
       clear hT
       obtain ⟨gk1, hgk1⟩ : ∃ x, x = gk := ⟨_, rfl⟩
       subst hgk1
       go_loopg [38] m5 (fun gk kv w => ∃ i : Nat, gk + i = m5 ∧ kv = .int .i64 i ∧ St w0 w [own 69 3 a5 m5 c5 ((flt T).map (Value.int .i64)), own 3 1 (some ⟨g13, 0, none⟩) 256 256 ((cnt (syF l k ++ ((T.take i).take 1).map (·.1))).map (Value.int .i64)), own 3 1 (some ⟨g14, 0, none⟩) 256 256 ((cnt (syR l k ++ ((T.take i).drop 1).map (·.1))).map (Value.int .i64))])
       case atStart => exact ⟨0, rfl, rfl, by rw [show ((T.take 0).take 1).map (·.1) = ([] : List Int) by simp, show ((T.take 0).drop 1).map (·.1) = ([] : List Int) by simp, List.append_nil, List.append_nil]; exact hS.sub sb9⟩
       case round =>
        clear hS
        obtain ⟨i, hi, rfl, hS⟩ := hrel
        by_cases hlt2 : i < m5
        · obtain ⟨b5, rfl⟩ := own_some (a := a5) hS pl9 (by omega)
          obtain ⟨⟨s, v, y⟩, hx⟩ : ∃ x, T[i]? = some x := ⟨_, List.getElem?_eq_getElem (by rw [HM5.out]; exact hlt2)⟩
          have hseg := flt_get T i _ hx
          have hsy := HSY.out _ (List.mem_of_getElem? hx)
          dsimp only at hseg hsy
          obtain ⟨q, rfl⟩ : ∃ q : Nat, s = (q : Int) := ⟨s.toNat, by omega⟩
          have ht : T.take (i + 1) = T.take i ++ [((q : Int), v, y)] := by rw [List.take_add_one, hx]; rfl
          have HTK := hid ht
          clear hx ht
          have hnx := take_next (by rw [HM5.out]; exact hlt2) HTK.out (syF l k) (syR l k)
          dsimp only at hnx
          have hq : q < 256 := by omega
          have hsl := sy_len HL.out k (by omega)
          have hA := cnt_bd (syF l k ++ ((T.take i).take 1).map (·.1)) hq
          have hB := cnt_bd (syR l k ++ ((T.take i).drop 1).map (·.1)) hq
          have hTl : T.length ≤ 64 := by rw [← HTE.out]; exact tokL_le ls
          rw [List.length_append, List.length_map, List.length_take, List.length_take] at hA
          rw [List.length_append, List.length_map, List.length_drop, List.length_take] at hB
          have HCA := hid (cnt_snoc (syF l k ++ ((T.take i).take 1).map (·.1)) hq)
          have HCB := hid (cnt_snoc (syR l k ++ ((T.take i).drop 1).map (·.1)) hq)
          have HNX := hid hnx
          have hm5 : m5 ≤ 64 := by rw [← HM5.out]; exact hTl
          clear hnx
          repeat' (first
           | (refine y91 ?_) | (refine y989 ?_) | (refine y959 ?_) | (refine y985 ?_) | (refine y9130 ?_) | ((with_reducible refine gs9 12 ?_); (refine wl9 ?_; apply wp_alloc (o := ⟨some 12, _, _, _, _, _⟩) hS 69 rfl (.agg #[.int .i64 0, .int .i64 0, .int .i64 0]) [.int .i64 0, .int .i64 0, .int .i64 0] (fun w => Tryd.zeroValue69 w) rfl; clear hS; intro g12 w hS; refine put_move ?_; go_step)) | ((with_reducible refine gt9 _ (.store 69 _ _) ?_); (refine wl9 ?_; apply wp_storeG hS 69 _ _ rfl _ rfl 3 (row_of rfl) _ _; (case hp => exact pl9); (case hy => rfl); (case hn => rfl); (case hn' => rfl); (case hv => rfl); (case hd => exact rfl); clear hS; intro w hS)) | ((fail_if_success with_reducible refine ga9 ?_); go_step))
          · skip
            repeat' (first
             | (refine y9144 ?_) | (refine y9109 ?_) | (refine y963 ?_) | (refine y983 ?_) | (refine y968 ?_) | (refine y9123 ?_) | ((with_reducible refine gt9 _ (.store 3 _ _) ?_); (refine wl9 ?_; apply wp_store1OI hS 3 _ _ rfl _ _ rfl (one_of rfl) _ _ _ _ _; (case hp => exact pl9); (case hy => rfl); (case hi => omega); (case hd => exact rfl); clear hS; intro w hS)) | ((fail_if_success with_reducible refine ga9 ?_); go_step))
            clear hA hB hsl hTl
            repeat' (first
             | ((fail_if_success with_reducible refine ga9 ?_); go_step))
            go_roundg (gk - 1)
            case measure => omega
            case rel =>
             refine ⟨i + 1, by omega, by go_num, ?_⟩
             rw [(HNX.out.1 (by omega)).1, (HNX.out.1 (by omega)).2, ← HCA.out]
             exact hS.sub sb9
          · skip
            repeat' (first
             | (refine y9144 ?_) | (refine y9109 ?_) | (refine y973 ?_) | (refine y983 ?_) | (refine y977 ?_) | (refine y9123 ?_) | ((with_reducible refine gt9 _ (.store 3 _ _) ?_); (refine wl9 ?_; apply wp_store1OI hS 3 _ _ rfl _ _ rfl (one_of rfl) _ _ _ _ _; (case hp => exact pl9); (case hy => rfl); (case hi => omega); (case hd => exact rfl); clear hS; intro w hS)) | ((fail_if_success with_reducible refine ga9 ?_); go_step))
            clear hA hB hsl hTl
            repeat' (first
             | ((fail_if_success with_reducible refine ga9 ?_); go_step))
            go_roundg (gk - 1)
            case measure => omega
            case rel =>
             refine ⟨i + 1, by omega, by go_num, ?_⟩
             rw [(HNX.out.2 (by omega)).1, (HNX.out.2 (by omega)).2, ← HCB.out]
             exact hS.sub sb9
        · obtain rfl : i = m5 := by omega
          rw [show T.take i = T by rw [← HM5.out]; exact List.take_length, ← HTE.out, ← syF_succ, ← syR_succ] at hS
          repeat' (first
           | (refine y989 ?_) | ((fail_if_success with_reducible refine ga9 ?_); go_step))
          repeat' (first
           | (refine y9144 ?_) | (refine y983 ?_) | ((fail_if_success with_reducible refine ga9 ?_); go_step))
          go_roundg (gk1 - 1)
          case measure => omega
          case rel => exact ⟨k + 1, by omega, by go_num, hS.sub sb9⟩
     · have HB : Hid (bef l k = nth (seg l 64 (k - 1)) 0) := hid (by unfold bef; rw [if_neg hk0])
       repeat' (first
        | (refine y91 ?_) | (refine y989 ?_) | ((with_reducible refine gs9 20 ?_); (refine wpl_indexS (by with_reducible assumption) Tryd.underlying22 isz52 rfl rfl isn9 (by omega) rfl ?_; intro b20 o20 hl20 hc20; go_step)) | (refine y987 ?_) | (refine y994 ?_) | ((with_reducible refine gs9 27 ?_); (refine wpl_indexS (by with_reducible assumption) Tryd.underlying22 isz52 rfl rfl isn9 (by omega) rfl ?_; intro b27 o27 hl27 hc27; go_step)) | ((with_reducible refine gs9 28 ?_); (refine wvv9 (V.indexAr Tryd.underlying52 isz3 rfl rfl (show IsN 0 0 from rfl) (by omega) (show 0 * 1 = 0 from rfl) nq9) ?_; go_step)) | (refine y9128 ?_) | ((with_reducible refine gs9 7 ?_); (refine wl9 ?_; apply wp_allocA (o := ⟨some 7, _, _, _, _, _⟩) hS 52 rfl (List.replicate 64 0) 64 List.length_replicate za52; clear hS; intro g7 w hS; refine put_move ?_; go_step)) | ((with_reducible refine gt9 _ (.store 52 _ _) ?_); (refine wl9 ?_; apply wp_storeA hS 52 _ _ rfl _ rfl 64 (row_of rfl) _ _; (case hp => exact pl9); (case hy => rfl); (case hm => (repeat (first | assumption | exact Len.rep | apply Len.set | ((with_reducible show Len (_ :: _) _); exact rfl)))); (case hd => exact rfl); clear hS; intro w hS)) | ((with_reducible refine gt9 _ (.load 3 _) ?_); (refine wl9 ?_; apply wp_load1R0 hS 3 _ rfl _ _ rfl (one_of rfl) _ _; (case hl => with_reducible assumption); (case hr => with_reducible assumption); (case hf => omega); refine put_move ?_; go_step)) | ((fail_if_success with_reducible refine ga9 ?_); go_step))
       repeat' (first
        | ((with_reducible refine gs9 33 ?_); refine wpl_call (f := 83) Tryd.call83 kr9 ?_; refine ⟨_, (refTokens_b _ l k _ HB.out ls), ?_⟩; rintro e w ⟨a5, m5, c5, E5, hm5, rfl, hS2⟩; have HM5 := hid hm5; replace hS := hS.call1 hS2; clear hS2 hm5; refine ⟨_, rfl, ?_⟩; refine put_move ?_; go_step) | (refine y91 ?_) | (refine y9104 ?_) | (refine y995 ?_) | ((fail_if_success with_reducible refine ga9 ?_); go_step))
       obtain ⟨T, hT⟩ : ∃ T, tkb l k = T := ⟨_, rfl⟩
       have HTE := hid hT
       rw [hT] at hS HM5
       have HSY := hid (show ∀ t ∈ T, 0 ≤ t.1 ∧ t.1 < 256 by rw [← hT]; exact tokL_sym ls)
       clear hT
       obtain ⟨gk1, hgk1⟩ : ∃ x, x = gk := ⟨_, rfl⟩
       subst hgk1
       go_loopg [38] m5 (fun gk kv w => ∃ i : Nat, gk + i = m5 ∧ kv = .int .i64 i ∧ St w0 w [own 69 3 a5 m5 c5 ((flt T).map (Value.int .i64)), own 3 1 (some ⟨g13, 0, none⟩) 256 256 ((cnt (syF l k ++ ((T.take i).take 1).map (·.1))).map (Value.int .i64)), own 3 1 (some ⟨g14, 0, none⟩) 256 256 ((cnt (syR l k ++ ((T.take i).drop 1).map (·.1))).map (Value.int .i64))])
       case atStart => exact ⟨0, rfl, rfl, by rw [show ((T.take 0).take 1).map (·.1) = ([] : List Int) by simp, show ((T.take 0).drop 1).map (·.1) = ([] : List Int) by simp, List.append_nil, List.append_nil]; exact hS.sub sb9⟩
       case round =>
        clear hS
        obtain ⟨i, hi, rfl, hS⟩ := hrel
        by_cases hlt2 : i < m5
        · obtain ⟨b5, rfl⟩ := own_some (a := a5) hS pl9 (by omega)
          obtain ⟨⟨s, v, y⟩, hx⟩ : ∃ x, T[i]? = some x := ⟨_, List.getElem?_eq_getElem (by rw [HM5.out]; exact hlt2)⟩
          have hseg := flt_get T i _ hx
          have hsy := HSY.out _ (List.mem_of_getElem? hx)
          dsimp only at hseg hsy
          obtain ⟨q, rfl⟩ : ∃ q : Nat, s = (q : Int) := ⟨s.toNat, by omega⟩
          have ht : T.take (i + 1) = T.take i ++ [((q : Int), v, y)] := by rw [List.take_add_one, hx]; rfl
          have HTK := hid ht
          clear hx ht
          have hnx := take_next (by rw [HM5.out]; exact hlt2) HTK.out (syF l k) (syR l k)
          dsimp only at hnx
          have hq : q < 256 := by omega
          have hsl := sy_len HL.out k (by omega)
          have hA := cnt_bd (syF l k ++ ((T.take i).take 1).map (·.1)) hq
          have hB := cnt_bd (syR l k ++ ((T.take i).drop 1).map (·.1)) hq
          have hTl : T.length ≤ 64 := by rw [← HTE.out]; exact tokL_le ls
          rw [List.length_append, List.length_map, List.length_take, List.length_take] at hA
          rw [List.length_append, List.length_map, List.length_drop, List.length_take] at hB
          have HCA := hid (cnt_snoc (syF l k ++ ((T.take i).take 1).map (·.1)) hq)
          have HCB := hid (cnt_snoc (syR l k ++ ((T.take i).drop 1).map (·.1)) hq)
          have HNX := hid hnx
          have hm5 : m5 ≤ 64 := by rw [← HM5.out]; exact hTl
          clear hnx
          repeat' (first
           | (refine y91 ?_) | (refine y989 ?_) | (refine y959 ?_) | (refine y985 ?_) | (refine y9130 ?_) | ((with_reducible refine gs9 12 ?_); (refine wl9 ?_; apply wp_alloc (o := ⟨some 12, _, _, _, _, _⟩) hS 69 rfl (.agg #[.int .i64 0, .int .i64 0, .int .i64 0]) [.int .i64 0, .int .i64 0, .int .i64 0] (fun w => Tryd.zeroValue69 w) rfl; clear hS; intro g12 w hS; refine put_move ?_; go_step)) | ((with_reducible refine gt9 _ (.store 69 _ _) ?_); (refine wl9 ?_; apply wp_storeG hS 69 _ _ rfl _ rfl 3 (row_of rfl) _ _; (case hp => exact pl9); (case hy => rfl); (case hn => rfl); (case hn' => rfl); (case hv => rfl); (case hd => exact rfl); clear hS; intro w hS)) | ((fail_if_success with_reducible refine ga9 ?_); go_step))
          · skip
            repeat' (first
             | (refine y9144 ?_) | (refine y9109 ?_) | (refine y963 ?_) | (refine y983 ?_) | (refine y968 ?_) | (refine y9123 ?_) | ((with_reducible refine gt9 _ (.store 3 _ _) ?_); (refine wl9 ?_; apply wp_store1OI hS 3 _ _ rfl _ _ rfl (one_of rfl) _ _ _ _ _; (case hp => exact pl9); (case hy => rfl); (case hi => omega); (case hd => exact rfl); clear hS; intro w hS)) | ((fail_if_success with_reducible refine ga9 ?_); go_step))
            clear hA hB hsl hTl
            repeat' (first
             | ((fail_if_success with_reducible refine ga9 ?_); go_step))
            go_roundg (gk - 1)
            case measure => omega
            case rel =>
             refine ⟨i + 1, by omega, by go_num, ?_⟩
             rw [(HNX.out.1 (by omega)).1, (HNX.out.1 (by omega)).2, ← HCA.out]
             exact hS.sub sb9
          · skip
            repeat' (first
             | (refine y9144 ?_) | (refine y9109 ?_) | (refine y973 ?_) | (refine y983 ?_) | (refine y977 ?_) | (refine y9123 ?_) | ((with_reducible refine gt9 _ (.store 3 _ _) ?_); (refine wl9 ?_; apply wp_store1OI hS 3 _ _ rfl _ _ rfl (one_of rfl) _ _ _ _ _; (case hp => exact pl9); (case hy => rfl); (case hi => omega); (case hd => exact rfl); clear hS; intro w hS)) | ((fail_if_success with_reducible refine ga9 ?_); go_step))
            clear hA hB hsl hTl
            repeat' (first
             | ((fail_if_success with_reducible refine ga9 ?_); go_step))
            go_roundg (gk - 1)
            case measure => omega
            case rel =>
             refine ⟨i + 1, by omega, by go_num, ?_⟩
             rw [(HNX.out.2 (by omega)).1, (HNX.out.2 (by omega)).2, ← HCB.out]
             exact hS.sub sb9
        · obtain rfl : i = m5 := by omega
          rw [show T.take i = T by rw [← HM5.out]; exact List.take_length, ← HTE.out, ← syF_succ, ← syR_succ] at hS
          repeat' (first
           | (refine y989 ?_) | ((fail_if_success with_reducible refine ga9 ?_); go_step))
          repeat' (first
           | (refine y9144 ?_) | (refine y983 ?_) | ((fail_if_success with_reducible refine ga9 ?_); go_step))
          go_roundg (gk1 - 1)
          case measure => omega
          case rel => exact ⟨k + 1, by omega, by go_num, hS.sub sb9⟩
   · obtain rfl : k = n := by omega
     repeat' (first
      | (refine y91 ?_) | (refine y989 ?_) | ((fail_if_success with_reducible refine ga9 ?_); go_step))
     repeat' (first
      | ((fail_if_success with_reducible refine ga9 ?_); go_step))
     refine ret_all (xs := [_, _]) rfl (.cons (OneRes.tmp rfl) (.cons (OneRes.tmp rfl) (.nil))) (by simp) rfl ?_
     exact ⟨g13, g14, rfl, hS⟩

end Go.Proofs.YtehbjhocgnfpmaaDoor
/- Reading blocks from tokens: the plain law. -/
namespace Go.Proofs.YtehbjhocgnfpmaaDoor
set_option linter.unusedVariables false
def badT (t : Tok) : Bool := !(decide (0 ≤ t.2.1 ∧ t.2.1 ≤ 11) && decide (0 ≤ t.2.2 ∧ t.2.2 < 2 ^ t.2.1.toNat) && decide (0 ≤ t.1 ∧ t.1 ≤ 255) && decide (t.2.1 = t.1 % 16) && (decide (t.2.1 ≠ 0) || decide (t.1 = 0 ∨ t.1 = 240)))
def numT (t : Tok) : Int := sback t.2.1.toNat t.2.2.toNat
section
variable {σ : Type} (next : σ → Bool → Tok × Int × σ)
def frLoop : Nat → Nat → List Int → List Tok → σ → Int × List Int × List Tok × σ
 | 0, _, b, all, s => (0, b, all, s)
 | f + 1, at_, b, all, s =>
  if 64 ≤ at_ then (0, b, all, s) else
  if (next s false).2.1 ≠ 0 then ((next s false).2.1, b, all, (next s false).2.2) else
  if badT (next s false).1 = true then (4, b, all ++ [(next s false).1], (next s false).2.2) else
  if (next s false).1.1 = 0 then (0, b, all ++ [(next s false).1], (next s false).2.2) else
  if (next s false).1.1 = 240 then
   if 64 < at_ + 16 then (4, b, all ++ [(next s false).1], (next s false).2.2) else frLoop f (at_ + 16) b (all ++ [(next s false).1]) (next s false).2.2
  else
   if 64 ≤ at_ + (next s false).1.1.toNat / 16 then (4, b, all ++ [(next s false).1], (next s false).2.2)
   else frLoop f (at_ + (next s false).1.1.toNat / 16 + 1) (b.set (at_ + (next s false).1.1.toNat / 16) (numT (next s false).1)) (all ++ [(next s false).1]) (next s false).2.2
def okFirst (before : Int) (t : Tok) : Bool := decide (0 ≤ t.2.1 ∧ t.2.1 ≤ 12) && decide (0 ≤ t.2.2 ∧ t.2.2 < 2 ^ t.2.1.toNat) && decide (t.1 = t.2.1) && decide (-2047 ≤ before + numT t ∧ before + numT t ≤ 2047)
def first0 (n : Int) : List Int := (List.replicate 64 0).set 0 n
def frm (before : Int) (s : σ) : Int × List Int × List Tok × σ :=
 if (next s true).2.1 ≠ 0 then ((next s true).2.1, List.replicate 64 0, [], (next s true).2.2) else
 if okFirst before (next s true).1 = false then (4, List.replicate 64 0, [], (next s true).2.2) else
 if (frLoop next 64 1 (first0 (before + numT (next s true).1)) [(next s true).1] (next s true).2.2).1 ≠ 0 then
  ((frLoop next 64 1 (first0 (before + numT (next s true).1)) [(next s true).1] (next s true).2.2).1, List.replicate 64 0, [], (frLoop next 64 1 (first0 (before + numT (next s true).1)) [(next s true).1] (next s true).2.2).2.2.2) else
 if toksOf before (frLoop next 64 1 (first0 (before + numT (next s true).1)) [(next s true).1] (next s true).2.2).2.1 = (frLoop next 64 1 (first0 (before + numT (next s true).1)) [(next s true).1] (next s true).2.2).2.2.1 then
  (0, zfrom (frLoop next 64 1 (first0 (before + numT (next s true).1)) [(next s true).1] (next s true).2.2).2.1, (frLoop next 64 1 (first0 (before + numT (next s true).1)) [(next s true).1] (next s true).2.2).2.2.1, (frLoop next 64 1 (first0 (before + numT (next s true).1)) [(next s true).1] (next s true).2.2).2.2.2)
 else (4, List.replicate 64 0, [], (frLoop next 64 1 (first0 (before + numT (next s true).1)) [(next s true).1] (next s true).2.2).2.2.2)
end
theorem sback_sv (n : Int) : sback (sz n) (sv n).toNat = n ∧ 0 ≤ sv n ∧ sv n < 2 ^ sz n := by
 obtain ⟨h1, h2⟩ := blen_spec n.natAbs
 have hz : blen n.natAbs = sz n := rfl
 rw [hz] at h1 h2
 have e : ((2 : Int) ^ sz n) = ((2 ^ sz n : Nat) : Int) := by push_cast; rfl
 rw [e]
 by_cases hn : n < 0
 · obtain ⟨h3, h4⟩ := h2 (by omega)
   have hsv : sv n = n + ((2 ^ sz n - 1 : Nat) : Int) := by unfold sv; rw [if_pos hn]
   have hp : 2 ^ sz n = 2 * 2 ^ (sz n - 1) := by rw [← Nat.pow_succ']; congr 1; omega
   obtain ⟨p, hpe⟩ : ∃ p, 2 ^ (sz n - 1) = p := ⟨_, rfl⟩
   rw [hpe] at h4 hp
   rw [hp] at h1 hsv
   refine ⟨?_, by rw [hsv]; omega, by rw [hp, hsv]; omega⟩
   unfold sback
   rw [if_pos ⟨by omega, by rw [hpe, hsv]; omega⟩, hp, hsv]; omega
 · have hsv : sv n = n := by unfold sv; rw [if_neg hn]
   by_cases h0 : n = 0
   · subst h0
     rw [sv_zero, sz_zero]
     exact ⟨rfl, by omega, by decide⟩
   · obtain ⟨h3, h4⟩ := h2 (by omega)
     refine ⟨?_, by rw [hsv]; omega, by rw [hsv]; omega⟩
     unfold sback
     rw [if_neg (by rw [hsv]; omega), hsv]; omega
def Feeds {σ : Type} (next : σ → Bool → Tok × Int × σ) : List Tok → σ → σ → Prop
 | [], s, s' => s = s'
 | t :: r, s, s' => (next s false).1 = t ∧ (next s false).2.1 = 0 ∧ Feeds next r (next s false).2.2 s'
section
variable {σ : Type} {next : σ → Bool → Tok × Int × σ}
end

end Go.Proofs.YtehbjhocgnfpmaaDoor
/- Segments, in plain Lean: the tokens of blocks with their places, and what a call for each of them comes to. -/
namespace Go.Proofs.YtehbjhocgnfpmaaDoor
open Go.RowKit
set_option linter.unusedVariables false
def mark : List Tok → List (Tok × Bool)
 | [] => []
 | t :: r => (t, true) :: r.map fun x => (x, false)
def tfl (l : List Int) : Nat → Nat → List (Tok × Bool)
 | _, 0 => []
 | k, f + 1 => mark (tkb l k) ++ tfl l (k + 1) f
def ech {σ : Type} (step : σ → Tok → Bool → Int × σ) : List (Tok × Bool) → σ → Int × σ
 | [], s => (0, s)
 | x :: r, s => if (step s x.1 x.2).1 = 0 then ech step r (step s x.1 x.2).2 else step s x.1 x.2
def okT (t : Tok) : Prop := (0 ≤ t.1 ∧ t.1 < 256) ∧ (0 ≤ t.2.1 ∧ t.2.1 ≤ 12) ∧ 0 ≤ t.2.2 ∧ t.2.2 < 2 ^ t.2.1.toNat
theorem tok_okT (r : Nat) (n : Int) (hr : r ≤ 15) (hb : -4096 < n ∧ n < 4096) : okT (tok r n) := by
 have h1 := sz_le n hb
 have h2 := sback_sv n
 unfold okT tok
 dsimp only
 rw [Int.toNat_natCast]
 exact ⟨by omega, by omega, h2.2.1, by exact_mod_cast h2.2.2⟩
theorem tks_okT : ∀ (l : List Int) (r : Nat), (∀ x ∈ l, -2047 ≤ x ∧ x ≤ 2047) → ∀ t ∈ tks r l, okT t
 | [], r, _, t, ht => by
  unfold tks at ht
  split at ht
  · simp at ht; subst ht; unfold okT; decide
  · simp at ht
 | n :: l, r, h, t, ht => by
  unfold tks at ht
  split at ht
  · exact tks_okT l (r + 1) (fun x hx => h x (by simp [hx])) t ht
  · rcases List.mem_append.1 ht with ht | ht
    · rw [List.eq_of_mem_replicate ht]; unfold okT; decide
    · rcases List.mem_cons.1 ht with rfl | ht
      · exact tok_okT (r % 16) n (by omega) (by have := h n (by simp); omega)
      · exact tks_okT l 0 (fun x hx => h x (by simp [hx])) t ht
theorem tokL_okT {p : Int} {x : List Int} (hx : x.length = 64) : ∀ t ∈ tokL p x, okT t := by
 intro t ht
 unfold tokL at ht
 split at ht
 · rename_i h
   obtain ⟨h1, h2⟩ := tokE_ok hx h
   have hz : ∀ i, i < 64 → -2047 ≤ nth (zto x) i ∧ nth (zto x) i ≤ 2047 := fun i hi => by rw [zto_get _ i hi]; exact h2 _ (zn_lt i hi)
   unfold toksOf at ht
   rcases List.mem_cons.1 ht with rfl | ht
   · have := hz 0 (by omega)
     exact tok_okT 0 _ (by omega) (by omega)
   · refine tks_okT _ 0 (fun y hy => ?_) t ht
     obtain ⟨i, hi, rfl⟩ := List.mem_iff_getElem.1 (List.mem_of_mem_drop hy)
     have := hz i (by rw [← zto_len x]; exact hi)
     simpa [nth, List.getD, hi] using this
 · simp at ht
theorem mark_len (T : List Tok) : (mark T).length = T.length := by cases T <;> simp [mark]
theorem mark_get {T : List Tok} {i : Nat} {x : Tok} (h : T[i]? = some x) : (mark T).drop i = (x, decide (i = 0)) :: (mark T).drop (i + 1) := by
 cases T with
 | nil => simp at h
 | cons t r =>
  cases i with
  | zero => simp at h; subst h; simp [mark]
  | succ i =>
   rw [List.getElem?_cons_succ] at h
   have hi : i < r.length := by
    rcases Nat.lt_or_ge i r.length with h1 | h1
    · exact h1
    · rw [List.getElem?_eq_none h1] at h; cases h
   have hx : r[i] = x := by rw [List.getElem?_eq_getElem hi] at h; exact Option.some.inj h
   simp only [mark, List.drop_succ_cons]
   rw [← List.map_drop, ← List.map_drop, List.drop_eq_getElem_cons hi, hx]
   simp
theorem bef_in {l : List Int} {n k : Nat} (hl : l.length = n * 64) (h : allBlk l n = true) (hk : k < n) : -2047 ≤ bef l k ∧ bef l k ≤ 2047 := by
 unfold bef
 by_cases h0 : k = 0
 · rw [if_pos h0]; omega
 · rw [if_neg h0]
   have h1 := allBlk_at h (show k - 1 < n by omega)
   have h2 := (allIn_iff _ _ _).1 h1 0 (by rw [seg_len l 64 (k - 1) n hl (by omega)]; omega)
   exact h2
theorem tkb_ok {l : List Int} {n k : Nat} (hl : l.length = n * 64) (h : allBlk l n = true) (hk : k < n) : tokE (bef l k) (seg l 64 k) = 0 ∧ tkb l k = toksOf (bef l k) (zto (seg l 64 k)) := by
 have h1 : tokE (bef l k) (seg l 64 k) = 0 := by
  unfold tokE
  rw [if_pos ⟨(isC_iff _).2 (bef_in hl h hk), allBlk_at h hk⟩]
 exact ⟨h1, by unfold tkb tokL; rw [if_pos h1]⟩
theorem tokE_zero (x : List Int) : tokE 0 x = if blkIn x then 0 else 1 := by
 unfold tokE
 have h0 : isC 0 = true := rfl
 by_cases h : blkIn x = true
 · rw [if_pos ⟨h0, h⟩, if_pos h]
 · rw [if_neg (fun e => h e.2), if_neg h]

end Go.Proofs.YtehbjhocgnfpmaaDoor
/- The walks of seg.each and seg.Counts. -/
namespace Go.Proofs.YtehbjhocgnfpmaaDoor
open Go.RowKit
set_option maxRecDepth 100000
set_option linter.unusedVariables false
theorem V.makeFunc {P : Program} {ty : TypeId} {a : Act} {fn : Fn} {cs : List Operand} {vs : List Value} (h : cs.map a.eval = vs) : Val P (.makeFunc fn #[] cs.toArray) ty a (.func fn #[] vs.toArray) := fun d pos af g w => by
 subst h
 simp only [execOp, List.map_toArray]
 rfl
structure Clo (W : World) (σ : Type) where
 step : σ → Tok → Bool → Int × σ
 res : σ → Res
 ok : σ → Nat → Prop
 K : FuncId
 caps : Array Value
 inv : ∀ (args : Array Value) (w : World), (callFunc K args).run Tryd.prog w = .ok (.enter K args) w
 okS : ∀ s m t b, ok s (m + 1) → okT t → (step s t b).1 = 0 → ok (step s t b).2 m
 okM : ∀ s m k, ok s m → k ≤ m → ok s k
 call : ∀ (w : World) (rs rs' : List Res) (s : σ) (m : Nat) (t0 t1 t2 : Int) (b : Bool) (er : Int) (s' : σ), St W w rs → Pull (res s) rs rs' → ok s (m + 1) → okT (t0, t1, t2) → step s (t0, t1, t2) b = (er, s') →
  Calls Tryd.prog K (#[.agg #[.int .i64 t0, .int .i64 t1, .int .i64 t2], .bool b] ++ caps) w fun e w' => e = .returned (.int .i64 er) ∧ St W w' (res s' :: rs')
theorem bef_succ (l : List Int) (q : Nat) : bef l (q + 1) = nth (seg l 64 q) 0 := by unfold bef; rw [if_neg (by omega)]; rfl
structure Veil4 (p : Prop) : Prop where
 out : p
theorem tokens_e (w0 : World) (l : List Int) (p E : Int) (T : List Tok) (hE : tokE p l = E) (hT : tokL p l = T) (hl : Len l 64) :
 Calls Tryd.prog 57 #[.int .i64 p, .agg (iv l)] w0 fun e w => ∃ ad m c, T.length = m ∧ e = .returned (.tuple #[.slice ad m c, .int .i64 E]) ∧ St w0 w [own 69 3 ad m c ((flt T).map (Value.int .i64))] := by
 subst hE; subst hT
 refine (tokensOf_any w0 p l hl).mono ?_
 rintro e w ⟨ad, c, rfl, hS⟩
 exact ⟨ad, _, c, rfl, rfl, hS⟩
def EachGives {W : World} {σ : Type} (Z : Clo W σ) (l : List Int) (n : Nat) (s0 : σ) (rs' : List Res) (e : Ending) (w : World) : Prop :=
 ∃ s', (blkE l n = 0 → s' = (ech Z.step (tfl l 0 n) s0).2) ∧ e = .returned (.int .i64 (if blkE l n = 0 then (ech Z.step (tfl l 0 n) s0).1 else blkE l n)) ∧ St W w (Z.res s' :: rs')
theorem each_no {W w : World} {σ : Type} {Z : Clo W σ} {l : List Int} {n : Nat} {s0 : σ} {rs' : List Res} (E : Int) (h1 : blkE l n = E) (h2 : E ≠ 0) (hS : St W w (Z.res s0 :: rs')) : EachGives Z l n s0 rs' (.returned (.int .i64 E)) w :=
 ⟨s0, fun h => absurd (h1.symm.trans h) h2, by rw [h1, if_neg h2], hS⟩
theorem each_yes {W w : World} {σ : Type} {Z : Clo W σ} {l : List Int} {n : Nat} {s0 s' : σ} {rs' : List Res} (er : Int) (h1 : blkE l n = 0) (h2 : ech Z.step (tfl l 0 n) s0 = (er, s')) (hS : St W w (Z.res s' :: rs')) : EachGives Z l n s0 rs' (.returned (.int .i64 er)) w :=
 ⟨s', fun _ => by rw [h2], by rw [if_pos h1, h2], hS⟩
set_option maxHeartbeats 8000000 in
theorem each_any {W : World} {σ : Type} (Z : Clo W σ) (w0 : World) (rs rs' : List Res) (s0 : σ) (ad : Option Addr) (n c : Nat) (l : List Int) (hn : n ≤ 9223372036854775807) (hv : Sl W 64 (.slice ad n c) n (l.map (Value.int .i64)))
 (hS : St W w0 rs) (hp : Pull (Z.res s0) rs rs') (hok : Z.ok s0 25600) :
 Calls Tryd.prog 34 #[.slice ad n c, .func (.func Z.K) #[] Z.caps] w0 (EachGives Z l n s0 rs') := by
 have hl : l.length = n * 64 := by have := hv.1; simpa using this
 have HL := hid hl
 clear hl
 replace hS := hS.pull hp
 clear hp
 by_cases h4 : 400 < n
 · have HE := hid (show blkE l n = 2 by unfold blkE; rw [if_pos h4])
   go_enter Tryd.func34, Tryd.ntmps34
   repeat' (first
    | (refine y91 ?_) | (refine y998 ?_) | (refine y987 ?_) | ((fail_if_success with_reducible refine ga9 ?_); go_step))
   go_ret
   exact each_no 2 HE.out (by decide) hS
 have HE := hid (show blkE l n = if allBlk l n then 0 else 1 by unfold blkE; rw [if_neg h4])
 go_enter Tryd.func34, Tryd.ntmps34
 repeat' (first
  | (refine y91 ?_) | (refine y998 ?_) | (refine y987 ?_) | ((fail_if_success with_reducible refine ga9 ?_); go_step))
 repeat' (first
  | ((fail_if_success with_reducible refine ga9 ?_); go_step))
 go_loopg [22] n (fun gk kv w => ∃ k : Nat, gk + k = n ∧ kv = .int .i64 k ∧ Hid (allBlk l k = true) ∧ St W w (Z.res s0 :: rs'))
 case atStart => exact ⟨0, rfl, rfl, hid rfl, hS⟩
 case round =>
  clear hS
  obtain ⟨k, hk, rfl, HA, hS⟩ := hrel
  by_cases hlt : k < n
  · have ls : Len (seg l 64 k) 64 := seg_len l 64 k n HL.out hlt
    obtain ⟨B, hB⟩ : ∃ B, blkIn (seg l 64 k) = B := ⟨_, rfl⟩
    have HB2 := hid hB
    have HT := hid (tokE_zero (seg l 64 k))
    cases B
    · have HF := hid (allBlk_not hlt HB2.out)
      have HT1 := hid (show tokE 0 (seg l 64 k) = 1 by rw [HT.out, hB]; rfl)
      clear hB HT
      repeat' (first
       | ((with_reducible refine gt9 _ (.call ⟨.value (.func 57), _, _⟩) ?_); refine wpl_call (f := 57) Tryd.call57 kr9 ?_; refine ⟨_, (tokens_e _ _ 0 1 _ HT1.out rfl ls), ?_⟩; rintro e w ⟨a5, m5, c5, hm5, rfl, hS2⟩; replace hS := hS.call1 hS2; clear hS2 hm5; refine ⟨_, rfl, ?_⟩; refine put_move ?_; go_step) | (refine y91 ?_) | (refine y989 ?_) | ((with_reducible refine gs9 24 ?_); (refine wpl_indexS (by with_reducible assumption) Tryd.underlying22 isz52 rfl rfl isn9 (by omega) rfl ?_; intro b24 o24 hl24 hc24; go_step)) | (refine y9104 ?_) | (refine y990 ?_) | (refine y9128 ?_) | ((with_reducible refine gs9 6 ?_); (refine wl9 ?_; apply wp_allocA (o := ⟨some 6, _, _, _, _, _⟩) hS 52 rfl (List.replicate 64 0) 64 List.length_replicate za52; clear hS; intro g6 w hS; refine put_move ?_; go_step)) | ((with_reducible refine gt9 _ (.store 52 _ _) ?_); (refine wl9 ?_; apply wp_storeA hS 52 _ _ rfl _ rfl 64 (row_of rfl) _ _; (case hp => exact pl9); (case hy => rfl); (case hm => (repeat (first | assumption | exact Len.rep | apply Len.set | ((with_reducible show Len (_ :: _) _); exact rfl)))); (case hd => exact rfl); clear hS; intro w hS)) | ((fail_if_success with_reducible refine ga9 ?_); go_step))
      all_goals (try (have hF : False := (by omega); cases hF))
      go_ret
      exact each_no 1 (by rw [HE.out, HF.out]; rfl) (by decide) (hS.sub sb9)
    · have HT1 := hid (show tokE 0 (seg l 64 k) = 0 by rw [HT.out, hB]; rfl)
      clear hB HT
      repeat' (first
       | ((with_reducible refine gt9 _ (.call ⟨.value (.func 57), _, _⟩) ?_); refine wpl_call (f := 57) Tryd.call57 kr9 ?_; refine ⟨_, (tokens_e _ _ 0 0 _ HT1.out rfl ls), ?_⟩; rintro e w ⟨a5, m5, c5, hm5, rfl, hS2⟩; replace hS := hS.call1 hS2; clear hS2 hm5; refine ⟨_, rfl, ?_⟩; refine put_move ?_; go_step) | (refine y91 ?_) | (refine y989 ?_) | ((with_reducible refine gs9 24 ?_); (refine wpl_indexS (by with_reducible assumption) Tryd.underlying22 isz52 rfl rfl isn9 (by omega) rfl ?_; intro b24 o24 hl24 hc24; go_step)) | (refine y9104 ?_) | (refine y990 ?_) | (refine y9128 ?_) | ((with_reducible refine gs9 6 ?_); (refine wl9 ?_; apply wp_allocA (o := ⟨some 6, _, _, _, _, _⟩) hS 52 rfl (List.replicate 64 0) 64 List.length_replicate za52; clear hS; intro g6 w hS; refine put_move ?_; go_step)) | ((with_reducible refine gt9 _ (.store 52 _ _) ?_); (refine wl9 ?_; apply wp_storeA hS 52 _ _ rfl _ rfl 64 (row_of rfl) _ _; (case hp => exact pl9); (case hy => rfl); (case hm => (repeat (first | assumption | exact Len.rep | apply Len.set | ((with_reducible show Len (_ :: _) _); exact rfl)))); (case hd => exact rfl); clear hS; intro w hS)) | ((fail_if_success with_reducible refine ga9 ?_); go_step))
      repeat' (first
       | (refine y9144 ?_) | (refine y983 ?_) | ((fail_if_success with_reducible refine ga9 ?_); go_step))
      all_goals (try (have hF : False := (by omega); cases hF))
      go_roundg (gk - 1)
      case measure => omega
      case rel => exact ⟨k + 1, by omega, by go_num, hid (by rw [allBlk_succ, HA.out, HB2.out]; rfl), hS.sub sb9⟩
  · obtain rfl : k = n := by omega
    have HE0 := hid (show blkE l k = 0 by rw [HE.out, HA.out]; rfl)
    repeat' (first
     | (refine y91 ?_) | (refine y989 ?_) | ((fail_if_success with_reducible refine ga9 ?_); go_step))
    repeat' (first
     | (refine y9144 ?_) | (refine y998 ?_) | ((fail_if_success with_reducible refine ga9 ?_); go_step))
    clear hk
    go_loopg [9, 37] k (fun gk bv kv w => ∃ (q : Nat) (s : σ), gk + q = k ∧ kv = .int .i64 q ∧ bv = .int .i64 (bef l q) ∧ Hid (Z.ok s (25600 - 64 * q)) ∧ Veil4 (ech Z.step (tfl l 0 k) s0 = ech Z.step (tfl l q (k - q)) s) ∧ St W w (Z.res s :: rs'))
    case atStart => exact ⟨0, s0, rfl, rfl, rfl, hid hok, ⟨rfl⟩, hS⟩
    case round =>
     clear hS hok
     obtain ⟨q, s, hq, rfl, rfl, HO, HV, hS⟩ := hrel
     by_cases hlt : q < k
     · have ls : Len (seg l 64 q) 64 := seg_len l 64 q k HL.out hlt
       obtain ⟨ht1, ht2⟩ := tkb_ok HL.out HA.out hlt
       have HT1 := hid ht1
       obtain ⟨p, hpb⟩ : ∃ p, bef l q = p := ⟨_, rfl⟩
       obtain ⟨T, hT⟩ : ∃ T, tkb l q = T := ⟨_, rfl⟩
       have HT2 := hid (show tokL p (seg l 64 q) = T by rw [← hT, ← hpb]; rfl)
       have HSY := hid (show ∀ t ∈ T, okT t by rw [← HT2.out]; exact tokL_okT ls)
       have hTl : T.length ≤ 64 := by rw [← HT2.out]; exact tokL_le ls
       have HV2 : Veil4 (ech Z.step (tfl l 0 k) s0 = ech Z.step ((mark T).drop 0 ++ tfl l (q + 1) (k - (q + 1))) s) := ⟨by rw [HV.out, show k - q = (k - (q + 1)) + 1 by omega, tfl, hT]; rfl⟩
       rw [hpb] at HT1
       have HPB := hid hpb
       rw [hpb]
       clear ht1 ht2 hT HV hpb
       repeat' (first
        | ((with_reducible refine gt9 _ (.call ⟨.value (.func 57), _, _⟩) ?_); refine wpl_call (f := 57) Tryd.call57 kr9 ?_; refine ⟨_, (tokens_e _ _ p 0 T HT1.out HT2.out ls), ?_⟩; rintro e w ⟨a5, m5, c5, hm5, rfl, hS2⟩; replace hS := hS.call1 hS2; clear hS2; refine ⟨_, rfl, ?_⟩; refine put_move ?_; go_step) | (refine y91 ?_) | (refine y989 ?_) | ((with_reducible refine gs9 39 ?_); (refine wpl_indexS (by with_reducible assumption) Tryd.underlying22 isz52 rfl rfl isn9 (by omega) rfl ?_; intro b39 o39 hl39 hc39; go_step)) | (refine y9104 ?_) | (refine y995 ?_) | (refine y9128 ?_) | ((with_reducible refine gs9 11 ?_); (refine wl9 ?_; apply wp_allocA (o := ⟨some 11, _, _, _, _, _⟩) hS 52 rfl (List.replicate 64 0) 64 List.length_replicate za52; clear hS; intro g11 w hS; refine put_move ?_; go_step)) | ((with_reducible refine gt9 _ (.store 52 _ _) ?_); (refine wl9 ?_; apply wp_storeA hS 52 _ _ rfl _ rfl 64 (row_of rfl) _ _; (case hp => exact pl9); (case hy => rfl); (case hm => (repeat (first | assumption | exact Len.rep | apply Len.set | ((with_reducible show Len (_ :: _) _); exact rfl)))); (case hd => exact rfl); clear hS; intro w hS)) | ((fail_if_success with_reducible refine ga9 ?_); go_step))
       obtain ⟨gk1, hgk1⟩ : ∃ x, x = gk := ⟨_, rfl⟩
       subst hgk1
       go_loopg [49] m5 (fun gk kv w => ∃ (i : Nat) (s : σ), gk + i = m5 ∧ kv = .int .i64 i ∧ Hid (Z.ok s (25600 - 64 * q - i)) ∧ Veil4 (ech Z.step (tfl l 0 k) s0 = ech Z.step ((mark T).drop i ++ tfl l (q + 1) (k - (q + 1))) s) ∧ St W w (Z.res s :: own 69 3 a5 m5 c5 ((flt T).map (Value.int .i64)) :: arr g11 64 (seg l 64 q) :: rs'))
       case atStart => exact ⟨0, s, rfl, rfl, HO, HV2, hS.sub sb9⟩
       case round =>
        clear hS HV2 HO
        obtain ⟨i, s, hi, rfl, HO, HV, hS⟩ := hrel
        by_cases hlt2 : i < m5
        · obtain ⟨b5, rfl⟩ := own_some (a := a5) hS pl9 (by omega)
          obtain ⟨⟨t0, t1, t2⟩, hx⟩ : ∃ x, T[i]? = some x := ⟨_, List.getElem?_eq_getElem (by omega)⟩
          have hseg := flt_get T i _ hx
          have HSX := hid (HSY.out _ (List.mem_of_getElem? hx))
          have hmk := mark_get hx
          dsimp only at hseg
          obtain ⟨⟨er, s'⟩, hst⟩ : ∃ y, Z.step s (t0, t1, t2) (decide (((i : Nat) : Int) = 0)) = y := ⟨_, rfl⟩
          obtain ⟨m, hm⟩ : ∃ m, 25600 - 64 * q - i = m + 1 := ⟨25600 - 64 * q - i - 1, by omega⟩
          have ho := HO.out
          rw [hm] at ho
          have HO1 := hid ho
          have HST := hid hst
          have hv2 := HV.out
          rw [hmk, List.cons_append, ech, show decide (i = 0) = decide (((i : Nat) : Int) = 0) from decide_eq_decide.2 (by omega)] at hv2
          dsimp only at hv2
          rw [hst] at hv2
          have HO2 : Hid (er = 0 → Z.ok s' m) := hid fun h => by
           have := Z.okS s m _ _ ho HSX.out (by rw [hst]; exact h)
           rw [hst] at this; exact this
          have HV2 : Veil4 (ech Z.step (tfl l 0 k) s0 = if er = 0 then ech Z.step ((mark T).drop (i + 1) ++ tfl l (q + 1) (k - (q + 1))) s' else (er, s')) := ⟨hv2⟩
          clear hx hmk hst ho hv2 HV HO
          by_cases her : er = 0
          · have HO3 := hid (HO2.out her)
            have HV3 : Veil4 (ech Z.step (tfl l 0 k) s0 = ech Z.step ((mark T).drop (i + 1) ++ tfl l (q + 1) (k - (q + 1))) s') := ⟨by rw [HV2.out, if_pos her]⟩
            clear HV2 HO2
            subst her
            repeat' (first
             | ((with_reducible refine gs9 58 ?_); refine wl9 ?_; refine wp_callV (f := Z.K) rfl rfl Z.inv (Z.call _ _ _ s m t0 t1 t2 (decide (((i : Nat) : Int) = 0)) 0 s' hS pl9 HO1.out HSX.out HST.out) ?_; clear hS; rintro e w ⟨rfl, hS⟩; refine ⟨_, rfl, ?_⟩; refine put_move ?_; go_step) | (refine y91 ?_) | (refine y989 ?_) | (refine y971 ?_) | (refine y985 ?_) | (refine y990 ?_) | (refine y9131 ?_) | ((with_reducible refine gs9 15 ?_); (refine wl9 ?_; apply wp_alloc (o := ⟨some 15, _, _, _, _, _⟩) hS 69 rfl (.agg #[.int .i64 0, .int .i64 0, .int .i64 0]) [.int .i64 0, .int .i64 0, .int .i64 0] (fun w => Tryd.zeroValue69 w) rfl; clear hS; intro g15 w hS; refine put_move ?_; go_step)) | ((with_reducible refine gt9 _ (.store 69 _ _) ?_); (refine wl9 ?_; apply wp_storeG hS 69 _ _ rfl _ rfl 3 (row_of rfl) _ _; (case hp => exact pl9); (case hy => rfl); (case hn => rfl); (case hn' => rfl); (case hv => rfl); (case hd => exact rfl); clear hS; intro w hS)) | ((fail_if_success with_reducible refine ga9 ?_); go_step))
            all_goals (try (have hF : False := (by omega); cases hF))
            repeat' (first
             | (refine y9144 ?_) | (refine y983 ?_) | ((fail_if_success with_reducible refine ga9 ?_); go_step))
            go_roundg (gk - 1)
            case measure => omega
            case rel => exact ⟨i + 1, s', by omega, by go_num, hid (by rw [show 25600 - 64 * q - (i + 1) = m by omega]; exact HO3.out), HV3, hS.sub sb9⟩
          · have HV3 : Veil4 (ech Z.step (tfl l 0 k) s0 = (er, s')) := ⟨by rw [HV2.out, if_neg her]⟩
            clear HV2 HO2
            repeat' (first
             | ((with_reducible refine gs9 58 ?_); refine wl9 ?_; refine wp_callV (f := Z.K) rfl rfl Z.inv (Z.call _ _ _ s m t0 t1 t2 (decide (((i : Nat) : Int) = 0)) er s' hS pl9 HO1.out HSX.out HST.out) ?_; clear hS; rintro e w ⟨rfl, hS⟩; refine ⟨_, rfl, ?_⟩; refine put_move ?_; go_step) | (refine y91 ?_) | (refine y989 ?_) | (refine y971 ?_) | (refine y985 ?_) | (refine y990 ?_) | (refine y9131 ?_) | ((with_reducible refine gs9 15 ?_); (refine wl9 ?_; apply wp_alloc (o := ⟨some 15, _, _, _, _, _⟩) hS 69 rfl (.agg #[.int .i64 0, .int .i64 0, .int .i64 0]) [.int .i64 0, .int .i64 0, .int .i64 0] (fun w => Tryd.zeroValue69 w) rfl; clear hS; intro g15 w hS; refine put_move ?_; go_step)) | ((with_reducible refine gt9 _ (.store 69 _ _) ?_); (refine wl9 ?_; apply wp_storeG hS 69 _ _ rfl _ rfl 3 (row_of rfl) _ _; (case hp => exact pl9); (case hy => rfl); (case hn => rfl); (case hn' => rfl); (case hv => rfl); (case hd => exact rfl); clear hS; intro w hS)) | ((fail_if_success with_reducible refine ga9 ?_); go_step))
            all_goals (try (have hF : False := (by omega); cases hF))
            go_ret
            exact each_yes er HE0.out HV3.out (hS.sub sb9)
        · obtain rfl : i = m5 := by omega
          have HB := hid (bef_succ l q)
          have HV3 : Veil4 (ech Z.step (tfl l 0 k) s0 = ech Z.step (tfl l (q + 1) (k - (q + 1))) s) := ⟨by rw [HV.out, List.drop_of_length_le (by rw [mark_len]; omega)]; rfl⟩
          have HO3 := hid (Z.okM _ _ (25600 - 64 * (q + 1)) HO.out (by omega))
          clear HV HO
          repeat' (first
           | (refine y989 ?_) | ((fail_if_success with_reducible refine ga9 ?_); go_step))
          repeat' (first
           | (refine y91 ?_) | (refine y980 ?_) | (refine y983 ?_) | (refine y9120 ?_) | ((fail_if_success with_reducible refine ga9 ?_); go_step))
          go_roundg (gk1 - 1)
          case measure => omega
          case rel => exact ⟨q + 1, s, by omega, by go_num, by rw [HB.out], HO3, HV3, hS.sub sb9⟩
     · obtain rfl : q = k := by omega
       have HV3 : Veil4 (ech Z.step (tfl l 0 q) s0 = (0, s)) := ⟨by rw [HV.out, Nat.sub_self]; rfl⟩
       clear HV
       repeat' (first
        | (refine y92 ?_) | (refine y989 ?_) | ((fail_if_success with_reducible refine ga9 ?_); go_step))
       repeat' (first
        | ((fail_if_success with_reducible refine ga9 ?_); go_step))
       go_ret
       exact each_yes 0 HE0.out HV3.out hS

end Go.Proofs.YtehbjhocgnfpmaaDoor
/- The walks of the writer's Bytes and of bits.Write. -/
namespace Go.Proofs.YtehbjhocgnfpmaaDoor
set_option maxRecDepth 100000
open Go.RowKit
def GivesSl (T : TypeId) (s : Nat) (W : World) (rs : List Res) (n : Nat) (xs : List Value) (e : Ending) (w' : World) : Prop := ∃ ad c, e = .returned (.slice ad n c) ∧ St W w' (own T s ad n c xs :: rs)
theorem ones_pad (bs : List Bool) (h : 0 < bs.length % 8) : bitsOf (8 - bs.length % 8) (2 ^ (8 - bs.length % 8) - 1) = padding bs := by
 unfold padding
 rw [Nat.mod_eq_of_lt (show 8 - bs.length % 8 < 8 by omega)]
 generalize 8 - bs.length % 8 = k
 apply List.ext_getElem?
 intro i
 by_cases hi : i < k
 · rw [bitsOf_get _ _ _ hi, List.getElem?_replicate, if_pos hi]
   congr 1
   have h1 : 2 ^ k = 2 ^ (k - 1 - i) * 2 ^ (i + 1) := by rw [← Nat.pow_add]; congr 1; omega
   have h2 : (2 ^ k - 1) / 2 ^ (k - 1 - i) = 2 ^ (i + 1) - 1 := by
    rw [h1]
    have hp : 0 < 2 ^ (k - 1 - i) := Nat.two_pow_pos _
    have hq : 0 < 2 ^ (i + 1) := Nat.two_pow_pos _
    generalize 2 ^ (k - 1 - i) = p at hp
    generalize 2 ^ (i + 1) = q at hq
    obtain ⟨q', rfl⟩ : ∃ q', q = q' + 1 := ⟨q - 1, by omega⟩
    rw [Nat.mul_succ, Nat.add_sub_assoc (by omega), Nat.mul_add_div hp, Nat.div_eq_of_lt (by omega)]
    omega
   rw [h2, Nat.pow_succ]
   have : 0 < 2 ^ i := Nat.two_pow_pos _
   have h3 : (2 ^ i * 2 - 1) % 2 = 1 := by omega
   rw [h3]; rfl
 · rw [List.getElem?_eq_none (by rw [bitsOf_len]; omega), List.getElem?_eq_none (by simp; omega)]
set_option maxHeartbeats 1000000 in
theorem bytes_any (W w : World) (rs rs' : List Res) (g : Nat) (bs : List Bool) (hS : St W w rs) (hp : Pull (wr g bs) rs rs') (hb : bs.length ≤ 1000000000000) :
 Calls Tryd.prog 42 #[.pointer (some ⟨g, 0, none⟩)] w (GivesSl 5 1 W rs' ((bs.length + 7) / 8) (bv (bytesOf bs))) := by
 obtain ⟨⟨ad, c⟩, hS⟩ := (hS.pull hp).open
 dsimp only [List.cons_append, List.nil_append] at hS
 generalize hM : bs.length % 8 = M at *
 by_cases h0 : M = 0
 · subst h0
   go_enter Tryd.func42, Tryd.ntmps42
   go_wp2_with (first
    | ((with_reducible refine gt9 _ (.load 3 _) ?_); first | (refine wpl rfl (wp_load1A hS 3 _ rfl _ _ rfl (one_of rfl) _ _ pl9 (by omega) ?_); refine wpl_put (by (simp only [Act.put, List.setIfInBounds_toArray, List.set_cons_zero, List.set_cons_succ]); exact rfl) ?_) | (refine wpl rfl (wp_load1 hS 3 _ rfl _ _ rfl (one_of rfl) _ pl9 _ (by rfl) ?_); refine wpl_put (by (simp only [Act.put, List.setIfInBounds_toArray, List.set_cons_zero, List.set_cons_succ]); exact rfl) ?_) | (refine wpl rfl (wp_load1O hS 3 _ rfl _ _ rfl (one_of rfl) _ _ _ _ _ pl9 _ (by with_reducible assumption) ?_); refine wpl_put (by (simp only [Act.put, List.setIfInBounds_toArray, List.set_cons_zero, List.set_cons_succ]); exact rfl) ?_) | (refine wpl rfl (wp_loadW hS 3 _ rfl _ rfl (one_of rfl) _ (by with_reducible assumption) ?_); refine wpl_put (by (simp only [Act.put, List.setIfInBounds_toArray, List.set_cons_zero, List.set_cons_succ]); exact rfl) ?_)) | ((with_reducible refine gt9 _ (.load 34 _) ?_); first | (refine wpl rfl (wp_load1 hS 34 _ rfl _ _ rfl (one_of rfl) _ pl9 _ (by rfl) ?_); refine wpl_put (by (simp only [Act.put, List.setIfInBounds_toArray, List.set_cons_zero, List.set_cons_succ]); exact rfl) ?_) | (refine wpl rfl (wp_load1O hS 34 _ rfl _ _ rfl (one_of rfl) _ _ _ _ _ pl9 _ (by with_reducible assumption) ?_); refine wpl_put (by (simp only [Act.put, List.setIfInBounds_toArray, List.set_cons_zero, List.set_cons_succ]); exact rfl) ?_) | (refine wpl rfl (wp_loadW hS 34 _ rfl _ rfl (one_of rfl) _ (by with_reducible assumption) ?_); refine wpl_put (by (simp only [Act.put, List.setIfInBounds_toArray, List.set_cons_zero, List.set_cons_succ]); exact rfl) ?_))
     | (first | refine stop_load ?_ | refine stop_store ?_ | refine stop_alloc ?_ | refine stop_box ?_))
   go_ret
   have h1 : (bs.length + 7) / 8 = bs.length / 8 := by omega
   have h2 : bytesOf bs = packs (bs.length / 8) bs := by
    unfold bytesOf padding
    rw [hM, h1]; simp
   rw [h1, h2]
   exact ⟨ad, c, rfl, hS.sub sb9⟩
 · have hM8 : M < 8 := by omega
   have hpos : (0 : Int) < (M : Int) := by omega
   have HM := hid hM
   clear hM h0
   obtain ⟨k, hk⟩ : ∃ k, k = 8 - M := ⟨_, rfl⟩
   have hk8 : k ≤ 7 := by omega
   have e1 : IntKind.i64.wrap (8 - (M : Int)) = (k : Int) := by simp [IntKind.wrap, IntKind.signed, IntKind.bits]; omega
   have e2 : (0 : Int) ≤ (k : Int) := by omega
   have hk64 : (k : Int) < 64 := by omega
   have HK := hid hk
   clear hk
   have HC := hid (fun (w : World) (hS : St W w (blk g [.slice ad (bs.length / 8) c, .int .u64 (num (bs.drop (8 * (bs.length / 8))) : Nat), .int .i64 (M : Nat)] :: own 5 1 ad (bs.length / 8) c (bv (packs (bs.length / 8) bs)) :: rs')) =>
    (St.close (ad, c) (by simp only [List.cons_append, List.nil_append]; rw [HM.out]; exact hS) : St W w (wr g bs :: rs')))
   have HV := hid (show 2 ^ k - 1 < 2 ^ k by have := Nat.two_pow_pos k; omega)
   have HP := hid (show bitsOf k (2 ^ k - 1) = padding bs by
    have := ones_pad bs (by rw [HM.out]; omega)
    rwa [HM.out, ← HK.out] at this)
   have HW := hid (show wrap64 (wrap64 ((2 : Int) ^ k) - 1) = ((2 ^ k - 1 : Nat) : Int) by
    have h1 : 2 ^ k ≤ 2 ^ 7 := Nat.pow_le_pow_right (by omega) hk8
    have h0 := Nat.two_pow_pos k
    rw [show (2 : Int) ^ k = ((2 ^ k : Nat) : Int) by push_cast; rfl]
    generalize 2 ^ k = x at h1 h0
    unfold wrap64
    omega)
   go_enter Tryd.func42, Tryd.ntmps42
   go_wp2_with (first
    | ((with_reducible refine gt9 _ (.load 3 _) ?_); first | (refine wpl rfl (wp_load1A hS 3 _ rfl _ _ rfl (one_of rfl) _ _ pl9 (by omega) ?_); refine wpl_put (by (simp only [Act.put, List.setIfInBounds_toArray, List.set_cons_zero, List.set_cons_succ]); exact rfl) ?_) | (refine wpl rfl (wp_load1 hS 3 _ rfl _ _ rfl (one_of rfl) _ pl9 _ (by rfl) ?_); refine wpl_put (by (simp only [Act.put, List.setIfInBounds_toArray, List.set_cons_zero, List.set_cons_succ]); exact rfl) ?_) | (refine wpl rfl (wp_load1O hS 3 _ rfl _ _ rfl (one_of rfl) _ _ _ _ _ pl9 _ (by with_reducible assumption) ?_); refine wpl_put (by (simp only [Act.put, List.setIfInBounds_toArray, List.set_cons_zero, List.set_cons_succ]); exact rfl) ?_) | (refine wpl rfl (wp_loadW hS 3 _ rfl _ rfl (one_of rfl) _ (by with_reducible assumption) ?_); refine wpl_put (by (simp only [Act.put, List.setIfInBounds_toArray, List.set_cons_zero, List.set_cons_succ]); exact rfl) ?_)) | ((with_reducible refine gt9 _ (.load 34 _) ?_); first | (refine wpl rfl (wp_load1 hS 34 _ rfl _ _ rfl (one_of rfl) _ pl9 _ (by rfl) ?_); refine wpl_put (by (simp only [Act.put, List.setIfInBounds_toArray, List.set_cons_zero, List.set_cons_succ]); exact rfl) ?_) | (refine wpl rfl (wp_load1O hS 34 _ rfl _ _ rfl (one_of rfl) _ _ _ _ _ pl9 _ (by with_reducible assumption) ?_); refine wpl_put (by (simp only [Act.put, List.setIfInBounds_toArray, List.set_cons_zero, List.set_cons_succ]); exact rfl) ?_) | (refine wpl rfl (wp_loadW hS 34 _ rfl _ rfl (one_of rfl) _ (by with_reducible assumption) ?_); refine wpl_put (by (simp only [Act.put, List.setIfInBounds_toArray, List.set_cons_zero, List.set_cons_succ]); exact rfl) ?_))
     | (first | refine stop_load ?_ | refine stop_store ?_ | refine stop_alloc ?_ | refine stop_box ?_))
   refine drawn_lit [13] (fun w => St W w [blk g [.slice ad (bs.length / 8) c, .int .u64 (num (bs.drop (8 * (bs.length / 8))) : Nat), .int .i64 (M : Nat)]]) kr9 ?_
   replace hS := hS.drew
   apply takeP 0 al9 kr9 kr9 kr9 (fun _ _ _ _ h => h)
   case hfr => intro w; go_wp2_with fail; exact ⟨rfl, rfl⟩
   case hd => rfl
   apply takeP 1 al9 kr9 kr9 kr9 (fun _ _ _ _ h => h)
   case hfr => intro w; go_wp2_with fail; exact ⟨rfl, rfl⟩
   case hd => rfl
   apply takeP 2 al9 kr9 kr9 kr9 (fun _ _ _ _ h => h)
   case hfr => intro w; go_wp2_with fail; exact ⟨rfl, rfl⟩
   case hd => rfl
   apply takeP 3 al9 kr9 kr9 kr9 (fun _ _ _ _ h => h)
   case hfr => intro w; go_wp2_with fail; exact ⟨rfl, rfl⟩
   case hd => rfl
   apply takeS 4 al9 kr9 kr9 kr9 (fun _ _ _ _ h => h) [5, 13] kr9 (hS.sub sb9)
   case hfr => intro w hS; go_wp2_with (first | (refine wpl rfl (wp_load1A hS 3 _ rfl _ _ rfl (one_of rfl) _ _ pl9 (by omega) ?_); refine wpl_put (by (simp only [Act.put, List.setIfInBounds_toArray, List.set_cons_zero, List.set_cons_succ]); exact rfl) ?_) | (refine wpl rfl (wp_load1 hS 3 _ rfl _ _ rfl (one_of rfl) _ pl9 _ (by rfl) ?_); refine wpl_put (by (simp only [Act.put, List.setIfInBounds_toArray, List.set_cons_zero, List.set_cons_succ]); exact rfl) ?_) | (refine wpl rfl (wp_load1O hS 3 _ rfl _ _ rfl (one_of rfl) _ _ _ _ _ pl9 _ (by with_reducible assumption) ?_); refine wpl_put (by (simp only [Act.put, List.setIfInBounds_toArray, List.set_cons_zero, List.set_cons_succ]); exact rfl) ?_) | (refine wpl rfl (wp_loadW hS 3 _ rfl _ rfl (one_of rfl) _ (by with_reducible assumption) ?_); refine wpl_put (by (simp only [Act.put, List.setIfInBounds_toArray, List.set_cons_zero, List.set_cons_succ]); exact rfl) ?_)); exact ⟨rfl, rfl⟩
   case hd => rfl
   apply takeP 5 al9 kr9 kr9 kr9 (fun _ _ _ _ h => h)
   case hfr => intro w; go_wp2_with fail; exact ⟨rfl, rfl⟩
   case hd => rfl
   apply takeP 6 al9 kr9 kr9 kr9 (fun _ _ _ _ h => h)
   case hfr => intro w; go_wp2_with fail; exact ⟨rfl, rfl⟩
   case hd => rfl
   apply takeP 7 al9 kr9 kr9 kr9 (fun _ _ _ _ h => h)
   case hfr => intro w; go_wp2_with fail; exact ⟨rfl, rfl⟩
   case hd => rfl
   apply takeP 8 al9 kr9 kr9 kr9 (fun _ _ _ _ h => h)
   case hfr => intro w; go_wp2_with fail; exact ⟨rfl, rfl⟩
   case hd => rfl
   apply takeS 9 al9 kr9 kr9 kr9 (fun _ _ _ _ h => h) [10, 11, 12, 13] kr9 (hS.sub sb9)
   case hfr => intro w hS; go_wp2_with (first | (refine wpl rfl (wp_load1A hS 3 _ rfl _ _ rfl (one_of rfl) _ _ pl9 (by omega) ?_); refine wpl_put (by (simp only [Act.put, List.setIfInBounds_toArray, List.set_cons_zero, List.set_cons_succ]); exact rfl) ?_) | (refine wpl rfl (wp_load1 hS 3 _ rfl _ _ rfl (one_of rfl) _ pl9 _ (by rfl) ?_); refine wpl_put (by (simp only [Act.put, List.setIfInBounds_toArray, List.set_cons_zero, List.set_cons_succ]); exact rfl) ?_) | (refine wpl rfl (wp_load1O hS 3 _ rfl _ _ rfl (one_of rfl) _ _ _ _ _ pl9 _ (by with_reducible assumption) ?_); refine wpl_put (by (simp only [Act.put, List.setIfInBounds_toArray, List.set_cons_zero, List.set_cons_succ]); exact rfl) ?_) | (refine wpl rfl (wp_loadW hS 3 _ rfl _ rfl (one_of rfl) _ (by with_reducible assumption) ?_); refine wpl_put (by (simp only [Act.put, List.setIfInBounds_toArray, List.set_cons_zero, List.set_cons_succ]); exact rfl) ?_)); exact ⟨rfl, rfl⟩
   case hd => rfl
   apply takeP 10 al9 kr9 kr9 kr9 (fun _ _ _ _ h => h)
   case hfr => intro w; go_wp2_with fail; exact ⟨rfl, rfl⟩
   case hd => rfl
   apply takeP 11 al9 kr9 kr9 kr9 (fun _ _ _ _ h => h)
   case hfr => intro w; go_wp2_with fail; exact ⟨rfl, rfl⟩
   case hd => rfl
   apply takeP 12 al9 kr9 kr9 kr9 (fun _ _ _ _ h => h)
   case hfr => intro w; go_wp2_with fail; exact ⟨rfl, rfl⟩
   case hd => rfl
   refine branch1 13 al9 rfl kr9 ?_
   rw [HW.out]; refine wp_callF (f := 41) rfl Tryd.call41 (put_any W _ _ _ g bs k (2 ^ k - 1) (HC.out _ hS) Pull.head (by omega) HV.out (by omega)) ?_; clear hS; rintro e w ⟨rfl, hS⟩; refine ⟨_, rfl, ?_⟩
   refine ⟨fun h => absurd (by decide) h, ?_⟩
   refine drawn_put (by (simp only [Act.put, List.setIfInBounds_toArray, List.set_cons_zero, List.set_cons_succ]); exact rfl) ?_
   refine drawn_done kr9 ?_ _
   obtain ⟨⟨ad2, c2⟩, hS⟩ := hS.open
   rw [HP.out] at hS
   have HL := hid (show (bs ++ padding bs).length / 8 = (bs.length + 7) / 8 by rw [padding_len]; omega)
   simp only [List.cons_append, List.nil_append, HL.out] at hS
   go_wp2_with (first
    | ((with_reducible refine gt9 _ (.load 3 _) ?_); first | (refine wpl rfl (wp_load1A hS 3 _ rfl _ _ rfl (one_of rfl) _ _ pl9 (by omega) ?_); refine wpl_put (by (simp only [Act.put, List.setIfInBounds_toArray, List.set_cons_zero, List.set_cons_succ]); exact rfl) ?_) | (refine wpl rfl (wp_load1 hS 3 _ rfl _ _ rfl (one_of rfl) _ pl9 _ (by rfl) ?_); refine wpl_put (by (simp only [Act.put, List.setIfInBounds_toArray, List.set_cons_zero, List.set_cons_succ]); exact rfl) ?_) | (refine wpl rfl (wp_load1O hS 3 _ rfl _ _ rfl (one_of rfl) _ _ _ _ _ pl9 _ (by with_reducible assumption) ?_); refine wpl_put (by (simp only [Act.put, List.setIfInBounds_toArray, List.set_cons_zero, List.set_cons_succ]); exact rfl) ?_) | (refine wpl rfl (wp_loadW hS 3 _ rfl _ rfl (one_of rfl) _ (by with_reducible assumption) ?_); refine wpl_put (by (simp only [Act.put, List.setIfInBounds_toArray, List.set_cons_zero, List.set_cons_succ]); exact rfl) ?_)) | ((with_reducible refine gt9 _ (.load 34 _) ?_); first | (refine wpl rfl (wp_load1 hS 34 _ rfl _ _ rfl (one_of rfl) _ pl9 _ (by rfl) ?_); refine wpl_put (by (simp only [Act.put, List.setIfInBounds_toArray, List.set_cons_zero, List.set_cons_succ]); exact rfl) ?_) | (refine wpl rfl (wp_load1O hS 34 _ rfl _ _ rfl (one_of rfl) _ _ _ _ _ pl9 _ (by with_reducible assumption) ?_); refine wpl_put (by (simp only [Act.put, List.setIfInBounds_toArray, List.set_cons_zero, List.set_cons_succ]); exact rfl) ?_) | (refine wpl rfl (wp_loadW hS 34 _ rfl _ rfl (one_of rfl) _ (by with_reducible assumption) ?_); refine wpl_put (by (simp only [Act.put, List.setIfInBounds_toArray, List.set_cons_zero, List.set_cons_succ]); exact rfl) ?_))
     | (first | refine stop_load ?_ | refine stop_store ?_ | refine stop_alloc ?_ | refine stop_box ?_))
   go_ret
   refine ⟨ad2, c2, rfl, ?_⟩
   unfold bytesOf
   exact hS.sub sb9
theorem wr_new {W w : World} {g : Nat} {rs : List Res} (h : St W w (blk g [.slice none 0 0, .int .u64 0, .int .i64 0] :: rs)) : St W w (wr g [] :: rs) :=
 St.close (none, 0) ((h.nil 5 1).pull (.tail .head))

set_option maxRecDepth 100000
open Go.RowKit
set_option linter.unusedVariables false
theorem wb_len {L : List (Int × Nat × Nat)} (h : Good L) (s : Int) : (wb L s).length ≤ 16 := by
 unfold wb
 cases hs : symW L s with
 | none => simp
 | some y =>
  have := h.long _ (symW_mem hs)
  dsimp only at this ⊢
  rw [bitsOf_len]; omega

end Go.Proofs.YtehbjhocgnfpmaaDoor
/- The walk of seg.Encode. -/
namespace Go.Proofs.YtehbjhocgnfpmaaDoor
open Go.RowKit
set_option maxRecDepth 100000
set_option linter.unusedVariables false
def tkBits (L1 L2 : List (Int × Nat × Nat)) (x : Tok × Bool) : List Bool := wb (if x.2 then L1 else L2) x.1.1 ++ bitsOf x.1.2.1.toNat x.1.2.2.toNat
def encStep (L1 L2 : List (Int × Nat × Nat)) (bs : List Bool) (t : Tok) (b : Bool) : Int × List Bool := if (symW (if b then L1 else L2) t.1).isSome then (0, bs ++ tkBits L1 L2 (t, b)) else (5, bs)
theorem of_any (W w0 : World) (rs rs' : List Res) (g g1 g2 : Nat) (b : Bool) (hS : St W w0 rs) (hp : Pull (blk g [.pointer (some ⟨g1, 0, none⟩), .pointer (some ⟨g2, 0, none⟩)]) rs rs') :
 Calls Tryd.prog 39 #[.pointer (some ⟨g, 0, none⟩), .bool b] w0 fun e w => e = .returned (.pointer (some ⟨if b then g1 else g2, 0, none⟩)) ∧ Ext w0 w := by
 have h0 := St.start w0
 have hc := (hS.blk hp).1
 have c0 : w0.cell? ⟨g, 0, none⟩ = some (.pointer (some ⟨g1, 0, none⟩)) := by rw [hc.cell]; rfl
 have c1 : w0.cell? ⟨g, 1, none⟩ = some (.pointer (some ⟨g2, 0, none⟩)) := by rw [hc.cell]; rfl
 clear hS hc hp
 have hS := h0
 clear h0
 cases b
 · go_enter Tryd.func39, Tryd.ntmps39
   repeat' (first
    | (refine y91 ?_) | ((fail_if_success with_reducible refine ga9 ?_); go_step))
   repeat' (first
    | (refine y92 ?_) | (refine y9136 ?_) | ((with_reducible refine gt9 _ (.fieldAddr 120 _ 1) ?_); (refine wvv9 (V.fieldAddr fo120_1 rfl nq9) ?_; go_step)) | (refine y9133 ?_) | ((fail_if_success with_reducible refine ga9 ?_); go_step))
   all_goals (go_ret; exact ⟨rfl, hS.1⟩)
 · go_enter Tryd.func39, Tryd.ntmps39
   repeat' (first
    | (refine y91 ?_) | (refine y9136 ?_) | ((with_reducible refine gt9 _ (.fieldAddr 120 _ 0) ?_); (refine wvv9 (V.fieldAddr fo120_0 rfl nq9) ?_; go_step)) | (refine y9133 ?_) | ((fail_if_success with_reducible refine ga9 ?_); go_step))
   all_goals (go_ret; exact ⟨rfl, hS.1⟩)
def encR (g6 g8 gc gw : Nat) (L1 L2 : List (Int × Nat × Nat)) (bs : List Bool) : Res := star [blk g6 [.pointer (some ⟨gc, 0, none⟩)], blk g8 [.pointer (some ⟨gw, 0, none⟩)], cdr gc L1 L2, wr gw bs]
set_option maxHeartbeats 4000000 in
theorem encClo_any (W w0 : World) (rs rs' : List Res) (g6 g8 gc gw : Nat) (L1 L2 : List (Int × Nat × Nat)) (bs : List Bool) (t0 t1 t2 : Int) (b : Bool) (hL1 : Good L1) (hL2 : Good L2) (hS : St W w0 rs) (hp : Pull (encR g6 g8 gc gw L1 L2 bs) rs rs') (hb : bs.length ≤ 1000000000) (ht : okT (t0, t1, t2)) :
 Calls Tryd.prog 38 #[.agg #[.int .i64 t0, .int .i64 t1, .int .i64 t2], .bool b, .pointer (some ⟨g6, 0, none⟩), .pointer (some ⟨g8, 0, none⟩)] w0 fun e w => e = .returned (.int .i64 (encStep L1 L2 bs (t0, t1, t2) b).1) ∧ St W w (encR g6 g8 gc gw L1 L2 (encStep L1 L2 bs (t0, t1, t2) b).2 :: rs') := by
 obtain ⟨_, hS⟩ := (hS.pull hp).open
 obtain ⟨⟨g1, g2⟩, hS⟩ := (hS.pull (.tail (.tail .head))).open
 replace hS : St W w0 (blk gc [.pointer (some ⟨g1, 0, none⟩), .pointer (some ⟨g2, 0, none⟩)] :: cod g1 L1 :: cod g2 L2 :: blk g6 [.pointer (some ⟨gc, 0, none⟩)] :: blk g8 [.pointer (some ⟨gw, 0, none⟩)] :: wr gw bs :: rs') := hS
 clear hp
 obtain ⟨h1, h2, h3, h4⟩ := ht
 dsimp only at h1 h2 h3 h4
 obtain ⟨k, rfl⟩ : ∃ k : Nat, t1 = (k : Int) := ⟨t1.toNat, by omega⟩
 obtain ⟨v, rfl⟩ : ∃ v : Nat, t2 = (v : Int) := ⟨t2.toNat, by omega⟩
 have hv : v < 2 ^ k := by rw [Int.toNat_natCast] at h4; exact_mod_cast h4
 clear h4 h3
 obtain ⟨L, hL⟩ : ∃ L, (if b then L1 else L2) = L := ⟨_, rfl⟩
 obtain ⟨gb, hgb⟩ : ∃ x, (if b then g1 else g2) = x := ⟨_, rfl⟩
 have hGL : Good L := by rw [← hL]; cases b <;> assumption
 have HL := hid hL
 have HGB := hid hgb
 have HLen := hid (wb_len hGL t0)
 obtain ⟨r2, hS2, hC⟩ : ∃ r2, St W w0 (cod gb L :: r2 :: blk gc [.pointer (some ⟨g1, 0, none⟩), .pointer (some ⟨g2, 0, none⟩)] :: blk g6 [.pointer (some ⟨gc, 0, none⟩)] :: blk g8 [.pointer (some ⟨gw, 0, none⟩)] :: wr gw bs :: rs') ∧ ∀ w rs, St W w (cod gb L :: r2 :: blk gc [.pointer (some ⟨g1, 0, none⟩), .pointer (some ⟨g2, 0, none⟩)] :: rs) → St W w (cdr gc L1 L2 :: rs) := by
  cases b
  · obtain rfl : L2 = L := by simpa using hL
    obtain rfl : g2 = gb := by simpa using hgb
    refine ⟨cod g1 L1, hS.sub sb9, fun w rs h => St.close (g1, g2) ?_⟩
    dsimp only [List.cons_append, List.nil_append]
    exact h.sub sb9
  · obtain rfl : L1 = L := by simpa using hL
    obtain rfl : g1 = gb := by simpa using hgb
    refine ⟨cod g2 L2, hS.sub sb9, fun w rs h => St.close (g1, g2) ?_⟩
    dsimp only [List.cons_append, List.nil_append]
    exact h.sub sb9
 clear hS hL hgb
 have hS := hS2
 have HC := hid hC
 clear hS2 hC
 obtain ⟨I, hI⟩ : ∃ I, (symW L t0).isSome = I := ⟨_, rfl⟩
 have HI := hid hI
 cases I
 · have HR := hid (show encStep L1 L2 bs (t0, (k : Int), (v : Int)) b = (5, bs) by unfold encStep; dsimp only; rw [HL.out, hI]; rfl)
   clear hI
   go_enter Tryd.func38, Tryd.ntmps38
   repeat' (first
    | (refine y92 ?_) | ((with_reducible refine gs9 4 ?_); (refine wl9 ?_; apply wp_boxG (o := ⟨some 4, _, _, _, _, _⟩) hS 69 _ rfl _ rfl; clear hS; intro g4 w hS; refine put_move ?_; go_step)) | ((fail_if_success with_reducible refine ga9 ?_); go_step))
   refine drawn_lit [6] (fun w => St W w [blk g6 [.pointer (some ⟨gc, 0, none⟩)], blk g8 [.pointer (some ⟨gw, 0, none⟩)], blk g4 [.int .i64 t0, .int .i64 (k : Nat), .int .i64 (v : Nat)]]) kr9 ?_
   replace hS := hS.drew
   focus
    apply takeS 0 al9 kr9 kr9 kr9 hq9 [2, 6, 7] kr9 (hS.sub sb9)
    case hfr => intro w hS; ((refine wl9 ?_; apply wp_load1 hS 72 _ rfl _ _ rfl (one_of rfl) _; (case hp => exact pl9); (case hc => rfl); refine put_move ?_; go_step)); refine wpList_nil ?_; exact ⟨rfl, rfl⟩
    case hd => rfl
    refine takeM 1 _ al9 kr9 kr9 kr9 hq9 rfl ?_
    go_step
    apply takeS 3 al9 kr9 kr9 kr9 hq9 [6, 7] kr9 (hS.sub sb9)
    case hfr => intro w hS; ((refine wl9 ?_; apply wp_load1 hS 75 _ rfl _ _ rfl (one_of rfl) _; (case hp => exact pl9); (case hc => rfl); refine put_move ?_; go_step)); refine wpList_nil ?_; exact ⟨rfl, rfl⟩
    case hd => rfl
    (refine takeV 4 _ al9 kr9 kr9 kr9 hq9 (V.fieldAddr fo69_0 rfl nq9) rfl ?_)
    go_step
    apply takeS 5 al9 kr9 kr9 kr9 hq9 [6, 7] kr9 (hS.sub sb9)
    case hfr => intro w hS; ((refine wl9 ?_; apply wp_load1 hS 3 _ rfl _ _ rfl (one_of rfl) _; (case hp => exact pl9); (case hc => rfl); refine put_move ?_; go_step)); refine wpList_nil ?_; exact ⟨rfl, rfl⟩
    case hd => rfl
    refine branch1 2 al9 rfl kr9 ?_
    refine wp_callF (f := 39) rfl Tryd.call39 (of_any W _ _ _ gc g1 g2 b hS pl9) ?_; rintro e w ⟨rfl, hE⟩; replace hS := hS.ext hE; clear hE; rw [HGB.out]; refine ⟨_, rfl, ?_⟩
    refine ⟨fun _ _ => hS.sub sb9, ?_⟩
    refine drawn_move ?_
    go_step
    refine branch1 6 al9 rfl kr9 ?_
    refine wp_callF (f := 40) rfl Tryd.call40 (codPut_any W _ _ _ _ gb gw L bs t0 hGL hS pl9 pl9 (by omega)) ?_; clear hS; rintro e w ⟨rfl, hS⟩; rw [HI.out]; refine ⟨_, rfl, ?_⟩
    refine ⟨fun h => absurd (by decide) h, ?_⟩
    refine drawn_move ?_
    go_step
    (refine takeV 7 _ al9 kr9 kr9 kr9 hq9 (V.not rfl) rfl ?_)
    go_step
    refine drawn_done kr9 ?_ _
   all_goals
    repeat' (first
     | (refine y92 ?_) | ((fail_if_success with_reducible refine ga9 ?_); go_step))
    go_ret
    rw [HR.out]
    have hwb : wb L t0 = [] := by unfold wb; cases hs : symW L t0 with
     | none => rfl
     | some y => have := HI.out; rw [hs] at this; cases this
    rw [hwb, List.append_nil] at hS
    refine ⟨rfl, St.close () ?_⟩
    dsimp only [List.cons_append, List.nil_append]
    exact (HC.out _ _ (hS.sub (xs := cod gb L :: r2 :: blk gc [.pointer (some ⟨g1, 0, none⟩), .pointer (some ⟨g2, 0, none⟩)] :: blk g6 [.pointer (some ⟨gc, 0, none⟩)] :: blk g8 [.pointer (some ⟨gw, 0, none⟩)] :: wr gw bs :: rs') sb9)).sub sb9
 · have HR := hid (show encStep L1 L2 bs (t0, (k : Int), (v : Int)) b = (0, bs ++ (wb L t0 ++ bitsOf k v)) by unfold encStep tkBits; dsimp only; rw [HL.out, hI, Int.toNat_natCast, Int.toNat_natCast]; rfl)
   clear hI
   go_enter Tryd.func38, Tryd.ntmps38
   repeat' (first
    | (refine y92 ?_) | ((with_reducible refine gs9 4 ?_); (refine wl9 ?_; apply wp_boxG (o := ⟨some 4, _, _, _, _, _⟩) hS 69 _ rfl _ rfl; clear hS; intro g4 w hS; refine put_move ?_; go_step)) | ((fail_if_success with_reducible refine ga9 ?_); go_step))
   refine drawn_lit [6] (fun w => St W w [blk g6 [.pointer (some ⟨gc, 0, none⟩)], blk g8 [.pointer (some ⟨gw, 0, none⟩)], blk g4 [.int .i64 t0, .int .i64 (k : Nat), .int .i64 (v : Nat)]]) kr9 ?_
   replace hS := hS.drew
   focus
    apply takeS 0 al9 kr9 kr9 kr9 hq9 [2, 6, 7] kr9 (hS.sub sb9)
    case hfr => intro w hS; ((refine wl9 ?_; apply wp_load1 hS 72 _ rfl _ _ rfl (one_of rfl) _; (case hp => exact pl9); (case hc => rfl); refine put_move ?_; go_step)); refine wpList_nil ?_; exact ⟨rfl, rfl⟩
    case hd => rfl
    refine takeM 1 _ al9 kr9 kr9 kr9 hq9 rfl ?_
    go_step
    apply takeS 3 al9 kr9 kr9 kr9 hq9 [6, 7] kr9 (hS.sub sb9)
    case hfr => intro w hS; ((refine wl9 ?_; apply wp_load1 hS 75 _ rfl _ _ rfl (one_of rfl) _; (case hp => exact pl9); (case hc => rfl); refine put_move ?_; go_step)); refine wpList_nil ?_; exact ⟨rfl, rfl⟩
    case hd => rfl
    (refine takeV 4 _ al9 kr9 kr9 kr9 hq9 (V.fieldAddr fo69_0 rfl nq9) rfl ?_)
    go_step
    apply takeS 5 al9 kr9 kr9 kr9 hq9 [6, 7] kr9 (hS.sub sb9)
    case hfr => intro w hS; ((refine wl9 ?_; apply wp_load1 hS 3 _ rfl _ _ rfl (one_of rfl) _; (case hp => exact pl9); (case hc => rfl); refine put_move ?_; go_step)); refine wpList_nil ?_; exact ⟨rfl, rfl⟩
    case hd => rfl
    refine branch1 2 al9 rfl kr9 ?_
    refine wp_callF (f := 39) rfl Tryd.call39 (of_any W _ _ _ gc g1 g2 b hS pl9) ?_; rintro e w ⟨rfl, hE⟩; replace hS := hS.ext hE; clear hE; rw [HGB.out]; refine ⟨_, rfl, ?_⟩
    refine ⟨fun _ _ => hS.sub sb9, ?_⟩
    refine drawn_move ?_
    go_step
    refine branch1 6 al9 rfl kr9 ?_
    refine wp_callF (f := 40) rfl Tryd.call40 (codPut_any W _ _ _ _ gb gw L bs t0 hGL hS pl9 pl9 (by omega)) ?_; clear hS; rintro e w ⟨rfl, hS⟩; rw [HI.out]; refine ⟨_, rfl, ?_⟩
    refine ⟨fun h => absurd (by decide) h, ?_⟩
    refine drawn_move ?_
    go_step
    (refine takeV 7 _ al9 kr9 kr9 kr9 hq9 (V.not rfl) rfl ?_)
    go_step
    refine drawn_done kr9 ?_ _
   all_goals
    repeat' (first
     | ((with_reducible refine gs9 20 ?_); refine wpl_call (f := 41) Tryd.call41 kr9 ?_; refine ⟨_, (put_any W _ _ _ gw (bs ++ wb L t0) k v hS pl9 (by omega) hv (by have := HLen.out; rw [List.length_append]; omega)), ?_⟩; clear hS; rintro e w ⟨rfl, hS⟩; refine ⟨_, rfl, ?_⟩; refine put_move ?_; go_step) | (refine y92 ?_) | (refine y9110 ?_) | (refine y9111 ?_) | (refine y9132 ?_) | (refine y9119 ?_) | ((fail_if_success with_reducible refine ga9 ?_); go_step))
    go_ret
    rw [HR.out]
    refine ⟨rfl, St.close () ?_⟩
    dsimp only [List.cons_append, List.nil_append]
    rw [List.append_assoc] at hS
    exact (HC.out _ _ (hS.sub (xs := cod gb L :: r2 :: blk gc [.pointer (some ⟨g1, 0, none⟩), .pointer (some ⟨g2, 0, none⟩)] :: blk g6 [.pointer (some ⟨gc, 0, none⟩)] :: blk g8 [.pointer (some ⟨gw, 0, none⟩)] :: wr gw (bs ++ (wb L t0 ++ bitsOf k v)) :: rs') sb9)).sub sb9
theorem tkBits_len {L1 L2 : List (Int × Nat × Nat)} (h1 : Good L1) (h2 : Good L2) (t : Tok) (b : Bool) (ht : okT t) : (tkBits L1 L2 (t, b)).length ≤ 28 := by
 obtain ⟨_, h3, _⟩ := ht
 unfold tkBits
 dsimp only
 rw [List.length_append, bitsOf_len]
 have h4 : (wb (if b then L1 else L2) t.1).length ≤ 16 := wb_len (by cases b <;> assumption) _
 omega
theorem encStep_cases (L1 L2 : List (Int × Nat × Nat)) (bs : List Bool) (t : Tok) (b : Bool) : (encStep L1 L2 bs t b).2 = bs ++ tkBits L1 L2 (t, b) ∨ (encStep L1 L2 bs t b).2 = bs := by
 unfold encStep
 by_cases h : (symW (if b then L1 else L2) t.1).isSome = true
 · rw [if_pos h]; exact .inl rfl
 · rw [if_neg h]; exact .inr rfl
theorem enc_res {W w : World} {g6 g8 gc gw : Nat} {L1 L2 : List (Int × Nat × Nat)} {rs : List Res} (h : St W w rs) (s : Sub [blk gw [.slice none 0 0, .int .u64 0, .int .i64 0], blk g6 [.pointer (some ⟨gc, 0, none⟩)], blk g8 [.pointer (some ⟨gw, 0, none⟩)], cdr gc L1 L2] rs) : St W w [encR g6 g8 gc gw L1 L2 []] := by
 have h2 := wr_new (h.sub s)
 refine St.close () ?_
 dsimp only [List.cons_append, List.nil_append]
 exact h2.sub sb9
def encClo (W : World) (g6 g8 gc gw : Nat) (L1 L2 : List (Int × Nat × Nat)) (h1 : Good L1) (h2 : Good L2) : Clo W (List Bool) where
 step := encStep L1 L2
 res := encR g6 g8 gc gw L1 L2
 ok bs m := bs.length + 28 * m ≤ 1000000000
 K := 38
 caps := #[.pointer (some ⟨g6, 0, none⟩), .pointer (some ⟨g8, 0, none⟩)]
 inv := Tryd.call38
 okS s m t b h ht _ := by
  have := tkBits_len h1 h2 t b ht
  rcases encStep_cases L1 L2 s t b with h4 | h4
  · rw [h4, List.length_append]; omega
  · rw [h4]; omega
 okM s m k h hk := by omega
 call w rs rs' s m t0 t1 t2 b er s' hS hp h ht hst := by
  have h3 := encClo_any W w rs rs' g6 g8 gc gw L1 L2 s t0 t1 t2 b h1 h2 hS hp (by omega) ht
  rw [hst] at h3
  exact h3
def segE (C1 S1 C2 S2 l : List Int) (n : Nat) : Int := if tbE C1 S1 C2 S2 = 0 then if blkE l n = 0 then (ech (encStep (wds C1 S1) (wds C2 S2)) (tfl l 0 n) []).1 else blkE l n else tbE C1 S1 C2 S2
def segBits (C1 S1 C2 S2 l : List Int) (n : Nat) : List Bool := (ech (encStep (wds C1 S1) (wds C2 S2)) (tfl l 0 n) []).2
def byI (l : List Nat) : List Int := l.map fun (x : Nat) => (x : Int)
theorem bv_byI (l : List Nat) : bv l = (byI l).map (Value.int .u8) := by simp [bv, byI]
def segB (C1 S1 C2 S2 l : List Int) (n : Nat) : List Int := if segE C1 S1 C2 S2 l n = 0 then stf (byI (bytesOf (segBits C1 S1 C2 S2 l n))) else []
theorem ech_ok {σ : Type} (step : σ → Tok → Bool → Int × σ) (ok : σ → Nat → Prop) (h1 : ∀ s m t b, ok s (m + 1) → okT t → ok (step s t b).2 m) (hm : ∀ s m k, ok s m → k ≤ m → ok s k) : ∀ (T : List (Tok × Bool)) (s : σ) (m : Nat), (∀ x ∈ T, okT x.1) → T.length ≤ m → ok s m → ok (ech step T s).2 0
 | [], s, m, _, _, h => hm s m 0 h (by omega)
 | x :: r, s, m, ht, hl, h => by
  rw [List.length_cons] at hl
  have h2 := h1 s (m - 1) x.1 x.2 (by rw [show m - 1 + 1 = m by omega]; exact h) (ht x (by simp))
  rw [ech]
  split
  · exact ech_ok step ok h1 hm r _ (m - 1) (fun y hy => ht y (by simp [hy])) (by omega) h2
  · exact hm _ _ 0 h2 (by omega)
theorem tfl_okT {l : List Int} {n : Nat} (hl : l.length = n * 64) : ∀ (f k : Nat), k + f ≤ n → (∀ x ∈ tfl l k f, okT x.1) ∧ (tfl l k f).length ≤ 64 * f
 | 0, k, _ => ⟨fun x hx => (by cases hx), by simp [tfl]⟩
 | f + 1, k, h => by
  obtain ⟨h1, h2⟩ := tfl_okT hl f (k + 1) (by omega)
  have hs : (seg l 64 k).length = 64 := seg_len l 64 k n hl (by omega)
  have h3 : ∀ t ∈ tkb l k, okT t := tokL_okT hs
  have h4 : (tkb l k).length ≤ 64 := tokL_le hs
  refine ⟨fun x hx => ?_, by rw [tfl, List.length_append, mark_len]; omega⟩
  rw [tfl] at hx
  rcases List.mem_append.1 hx with hx | hx
  · unfold mark at hx
    split at hx
    · cases hx
    · rename_i t r heq
      rcases List.mem_cons.1 hx with rfl | hx
      · exact h3 t (by rw [heq]; simp)
      · obtain ⟨y, hy, rfl⟩ := List.mem_map.1 hx
        exact h3 y (by rw [heq]; simp [hy])
  · exact h1 x hx
theorem segBits_len {C1 S1 C2 S2 l : List Int} {n : Nat} (h1 : tabE C1 S1 = 0) (h2 : tabE C2 S2 = 0) (hl : l.length = n * 64) (hn : n ≤ 400) : (segBits C1 S1 C2 S2 l n).length ≤ 1000000 := by
 have h3 := ech_ok (encStep (wds C1 S1) (wds C2 S2)) (fun bs m => bs.length + 28 * m ≤ 1000000) (fun s m t b h ht => by
  have := tkBits_len (wds_good h1) (wds_good h2) t b ht
  rcases encStep_cases (wds C1 S1) (wds C2 S2) s t b with h4 | h4
  · rw [h4, List.length_append]; omega
  · rw [h4]; omega) (fun s m k h hk => by omega) (tfl l 0 n) [] 25600 (tfl_okT hl n 0 (by omega)).1 (by have := (tfl_okT hl n 0 (by omega)).2; omega) (by simp)
 unfold segBits
 have h4 : (ech (encStep (wds C1 S1) (wds C2 S2)) (tfl l 0 n) []).2.length + 28 * 0 ≤ 1000000 := h3
 omega
theorem byI_in (bs : List Bool) : ∀ x ∈ byI (bytesOf bs), 0 ≤ x ∧ x < 256 := fun x hx => by
 obtain ⟨y, hy, rfl⟩ := List.mem_map.1 hx
 have := bytesOf_lt bs y hy
 omega
theorem blkE_400 {l : List Int} {n : Nat} (h : blkE l n = 0) : n ≤ 400 := by
 unfold blkE at h
 split at h
 · cases h
 · omega
def SegEnc (w0 : World) (E : Int) (B : List Int) (e : Ending) (w : World) : Prop :=
 ∃ ao c m, B.length = m ∧ e = .returned (.tuple #[.slice ao m c, .int .i64 E]) ∧ St w0 w [own 5 1 ao m c (B.map (Value.int .u8))]
theorem enc_err {w0 w : World} {E : Int} {B : List Int} (E' : Int) (h : E = E') (hB : B = []) (hE : Ext w0 w) : SegEnc w0 E B (.returned (.tuple #[.slice none 0 0, .int .i64 E'])) w := by
 subst h; subst hB
 exact ⟨none, 0, 0, rfl, rfl, (St.of_ext hE).nil _ _⟩
theorem encEach (W w0 : World) (rs rs' : List Res) (g6 g8 gc gw : Nat) (L1 L2 : List (Int × Nat × Nat)) (h1 : Good L1) (h2 : Good L2) (ad : Option Addr) (n c : Nat) (l : List Int) (E : Int) (bs : List Bool) (hE : blkE l n = 0 → ech (encStep L1 L2) (tfl l 0 n) [] = (E, bs)) (hE2 : blkE l n ≠ 0 → blkE l n = E) (hn : n ≤ 9223372036854775807) (hv : Sl W 64 (.slice ad n c) n (l.map (Value.int .i64))) (hS : St W w0 rs) (hp : Pull (encR g6 g8 gc gw L1 L2 []) rs rs') :
 Calls Tryd.prog 34 #[.slice ad n c, .func (.func 38) #[] #[.pointer (some ⟨g6, 0, none⟩), .pointer (some ⟨g8, 0, none⟩)]] w0 fun e w => e = .returned (.int .i64 E) ∧ ∃ s', (E = 0 → s' = bs) ∧ St W w (encR g6 g8 gc gw L1 L2 s' :: rs') := by
 refine (each_any (encClo W g6 g8 gc gw L1 L2 h1 h2) w0 rs rs' [] ad n c l hn hv hS hp (by show (0 + 28 * 25600 ≤ 1000000000); omega)).mono ?_
 rintro e w ⟨s', hs', rfl, hS⟩
 by_cases h0 : blkE l n = 0
 · have h3 : ech (encClo W g6 g8 gc gw L1 L2 h1 h2).step (tfl l 0 n) [] = (E, bs) := hE h0
   rw [h3] at hs' ⊢
   rw [if_pos h0]
   exact ⟨rfl, s', fun _ => hs' h0, hS⟩
 · rw [if_neg h0, hE2 h0]
   exact ⟨rfl, s', fun h => absurd ((hE2 h0).trans h) h0, hS⟩
set_option maxHeartbeats 8000000 in
theorem segEncode_any (w0 : World) (C1 C2 S1 S2 : List Int) (a1 a2 : Option Addr) (n1 n2 k1 k2 : Nat) (hC1 : Len C1 16) (hC2 : Len C2 16) (hs1 : Sl w0 1 (.slice a1 n1 k1) n1 (S1.map (Value.int .i64))) (hs2 : Sl w0 1 (.slice a2 n2 k2) n2 (S2.map (Value.int .i64))) (hn1 : n1 ≤ 9223372036854775807) (hn2 : n2 ≤ 9223372036854775807) (ad : Option Addr) (n c : Nat) (l : List Int) (hn : n ≤ 9223372036854775807) (hv : Sl w0 64 (.slice ad n c) n (l.map (Value.int .i64))) :
 Calls Tryd.prog 18 #[.agg (pcells [.ints C1, .val (.slice a1 n1 k1), .ints C2, .val (.slice a2 n2 k2)]).toArray, .slice ad n c] w0 (SegEnc w0 (segE C1 S1 C2 S2 l n) (segB C1 S1 C2 S2 l n)) := by
 have hl : l.length = n * 64 := by have := hv.1; simpa using this
 have HLl := hid hl
 have hS := St.start w0
 by_cases hT : tbE C1 S1 C2 S2 = 0
 case neg =>
  obtain ⟨E, hE⟩ : ∃ E, tbE C1 S1 C2 S2 = E := ⟨_, rfl⟩
  have h0 : E ≠ 0 := by rw [← hE]; exact hT
  have HE := hid hE
  have HR := hid (show segE C1 S1 C2 S2 l n = E by unfold segE; rw [if_neg hT]; exact hE)
  have HB := hid (show segB C1 S1 C2 S2 l n = [] by unfold segB; rw [if_neg (by rw [HR.out]; exact h0)])
  clear hE hT hl
  go_enter Tryd.func18, Tryd.ntmps18
  repeat' (first
   | ((with_reducible refine gs9 11 ?_); refine wpl_call (f := 37) Tryd.call37 kr9 ?_; refine ⟨_, (made_bad _ C1 C2 S1 S2 a1 a2 n1 n2 k1 k2 hC1 hC2 (hs1.ext hS.1) (hs2.ext hS.1) hn1 hn2 E HE.out h0), ?_⟩; rintro e w ⟨rfl, hE2⟩; replace hS := hS.ext hE2; clear hE2; refine ⟨_, rfl, ?_⟩; refine put_move ?_; go_step) | (refine y91 ?_) | (refine y9104 ?_) | (refine y990 ?_) | ((with_reducible refine gs9 2 ?_); (refine wl9 ?_; apply wp_boxP (o := ⟨some 2, _, _, _, _, _⟩) hS 33 _ rfl _ rfl; clear hS; intro g2 w hS; refine put_move ?_; go_step)) | (refine y9125 ?_) | ((with_reducible refine gs9 6 ?_); (refine wl9 ?_; apply wp_alloc (o := ⟨some 6, _, _, _, _, _⟩) hS 72 rfl (.pointer none) [.pointer none] (fun w => Tryd.zeroValue72 w) rfl; clear hS; intro g6 w hS; refine put_move ?_; go_step)) | ((with_reducible refine gt9 _ (.store 72 _ _) ?_); (refine wl9 ?_; apply wp_store1 hS 72 _ _ rfl _ _ rfl (one_of rfl) _ _; (case hp => exact pl9); (case hy => exact isv9); (case hv => rfl); (case hc => (repeat (first | with_reducible exact SetAt.head | apply SetAt.tail))); (case hd => exact rfl); clear hS; intro w hS)) | ((fail_if_success with_reducible refine ga9 ?_); go_step))
  all_goals (try (have hF : False := (by omega); cases hF))
  refine ret_all (xs := [_, _]) rfl (.cons (OneRes.tmp rfl) (.cons (OneRes.tmp rfl) (.nil))) (by simp) rfl ?_
  exact enc_err E HR.out HB.out hS.1
 have hT1 : tabE C1 S1 = 0 := by
  unfold tbE at hT
  split at hT
  · assumption
  · assumption
 have hT2 : tabE C2 S2 = 0 := by
  unfold tbE at hT
  rw [if_pos hT1] at hT; exact hT
 obtain ⟨⟨E, bs⟩, hech⟩ : ∃ y, (if blkE l n = 0 then ech (encStep (wds C1 S1) (wds C2 S2)) (tfl l 0 n) [] else (blkE l n, [])) = y := ⟨_, rfl⟩
 have HA := hid (show blkE l n = 0 → ech (encStep (wds C1 S1) (wds C2 S2)) (tfl l 0 n) [] = (E, bs) from fun h => by rw [if_pos h] at hech; exact hech)
 have HA2 := hid (show blkE l n ≠ 0 → blkE l n = E from fun h => by rw [if_neg h] at hech; exact congrArg Prod.fst hech)
 have HR := hid (show segE C1 S1 C2 S2 l n = E by
  unfold segE
  rw [if_pos hT]
  by_cases h0 : blkE l n = 0
  · rw [if_pos h0, HA.out h0]
  · rw [if_neg h0]; exact HA2.out h0)
 have HG1 := hid (wds_good hT1)
 have HG2 := hid (wds_good hT2)
 have HT1 := hid hT1
 have HT2 := hid hT2
 clear hT hech
 by_cases h0 : E = 0
 case neg =>
  have HB := hid (show segB C1 S1 C2 S2 l n = [] by unfold segB; rw [if_neg (by rw [HR.out]; exact h0)])
  clear hl hT1 hT2
  go_enter Tryd.func18, Tryd.ntmps18
  repeat' (first
   | ((with_reducible refine gs9 11 ?_); refine wpl_call (f := 37) Tryd.call37 kr9 ?_; refine ⟨_, (made_ok _ C1 C2 S1 S2 a1 a2 n1 n2 k1 k2 hC1 hC2 (hs1.ext hS.1) (hs2.ext hS.1) hn1 hn2 HT1.out HT2.out), ?_⟩; rintro e w ⟨gc, rfl, hS2⟩; replace hS := hS.call1 hS2; clear hS2; refine ⟨_, rfl, ?_⟩; refine put_move ?_; go_step) | (refine y91 ?_) | (refine y9104 ?_) | (refine y990 ?_) | ((with_reducible refine gs9 2 ?_); (refine wl9 ?_; apply wp_boxP (o := ⟨some 2, _, _, _, _, _⟩) hS 33 _ rfl _ rfl; clear hS; intro g2 w hS; refine put_move ?_; go_step)) | (refine y9125 ?_) | ((with_reducible refine gs9 6 ?_); (refine wl9 ?_; apply wp_alloc (o := ⟨some 6, _, _, _, _, _⟩) hS 72 rfl (.pointer none) [.pointer none] (fun w => Tryd.zeroValue72 w) rfl; clear hS; intro g6 w hS; refine put_move ?_; go_step)) | ((with_reducible refine gt9 _ (.store 72 _ _) ?_); (refine wl9 ?_; apply wp_store1 hS 72 _ _ rfl _ _ rfl (one_of rfl) _ _; (case hp => exact pl9); (case hy => exact isv9); (case hv => rfl); (case hc => (repeat (first | with_reducible exact SetAt.head | apply SetAt.tail))); (case hd => exact rfl); clear hS; intro w hS)) | ((fail_if_success with_reducible refine ga9 ?_); go_step))
  all_goals (try (have hF : False := (by omega); cases hF))
  repeat' (first
   | (refine y941 ?_) | ((with_reducible refine gs9 21 ?_); refine wpl_call (f := 34) Tryd.call34 kr9 ?_; refine ⟨_, (encEach w0 w _ _ g6 g8 gc g18 _ _ HG1.out HG2.out ad n c l E bs HA.out HA2.out hn hv (enc_res hS sb9) Pull.head), ?_⟩; clear hS; rintro e w ⟨rfl, s', hs', hS⟩; clear hs'; refine ⟨_, rfl, ?_⟩; refine put_move ?_; go_step) | (refine y91 ?_) | ((with_reducible refine gs9 17 ?_); (refine wvv9 (V.build (vs := []) rfl (bl78_)) ?_; go_step)) | (refine y990 ?_) | ((with_reducible refine gs9 18 ?_); (refine wl9 ?_; apply wp_boxG (o := ⟨some 18, _, _, _, _, _⟩) hS 78 _ rfl _ rfl; clear hS; intro g18 w hS; refine put_move ?_; go_step)) | ((with_reducible refine gs9 8 ?_); (refine wl9 ?_; apply wp_alloc (o := ⟨some 8, _, _, _, _, _⟩) hS 75 rfl (.pointer none) [.pointer none] (fun w => Tryd.zeroValue75 w) rfl; clear hS; intro g8 w hS; refine put_move ?_; go_step)) | ((with_reducible refine gt9 _ (.store 75 _ _) ?_); (refine wl9 ?_; apply wp_store1 hS 75 _ _ rfl _ _ rfl (one_of rfl) _ _; (case hp => exact pl9); (case hy => exact isv9); (case hv => rfl); (case hc => (repeat (first | with_reducible exact SetAt.head | apply SetAt.tail))); (case hd => exact rfl); clear hS; intro w hS)) | ((fail_if_success with_reducible refine ga9 ?_); go_step))
  all_goals (try (have hF : False := (by omega); cases hF))
  refine ret_all (xs := [_, _]) rfl (.cons (OneRes.tmp rfl) (.cons (OneRes.tmp rfl) (.nil))) (by simp) rfl ?_
  exact enc_err E HR.out HB.out hS.1
 subst h0
 have hz : blkE l n = 0 := by
  by_cases h0 : blkE l n = 0
  · exact h0
  · exact HA2.out h0
 have hbs : segBits C1 S1 C2 S2 l n = bs := by unfold segBits; rw [HA.out hz]
 have hbl : bs.length ≤ 1000000 := by rw [← hbs]; exact segBits_len hT1 hT2 hl (blkE_400 hz)
 have HB := hid (show segB C1 S1 C2 S2 l n = stf (byI (bytesOf bs)) by unfold segB; rw [if_pos HR.out, hbs])
 have hbyl : (byI (bytesOf bs)).length = (bs.length + 7) / 8 := by unfold byI; rw [List.length_map, bytesOf_len]
 have HBI := hid (byI_in bs)
 have HBV := hid (bv_byI (bytesOf bs))
 clear hl hT1 hT2 hbs hz
 go_enter Tryd.func18, Tryd.ntmps18
 repeat' (first
  | ((with_reducible refine gs9 11 ?_); refine wpl_call (f := 37) Tryd.call37 kr9 ?_; refine ⟨_, (made_ok _ C1 C2 S1 S2 a1 a2 n1 n2 k1 k2 hC1 hC2 (hs1.ext hS.1) (hs2.ext hS.1) hn1 hn2 HT1.out HT2.out), ?_⟩; rintro e w ⟨gc, rfl, hS2⟩; replace hS := hS.call1 hS2; clear hS2; refine ⟨_, rfl, ?_⟩; refine put_move ?_; go_step) | (refine y91 ?_) | (refine y9104 ?_) | (refine y990 ?_) | ((with_reducible refine gs9 2 ?_); (refine wl9 ?_; apply wp_boxP (o := ⟨some 2, _, _, _, _, _⟩) hS 33 _ rfl _ rfl; clear hS; intro g2 w hS; refine put_move ?_; go_step)) | (refine y9125 ?_) | ((with_reducible refine gs9 6 ?_); (refine wl9 ?_; apply wp_alloc (o := ⟨some 6, _, _, _, _, _⟩) hS 72 rfl (.pointer none) [.pointer none] (fun w => Tryd.zeroValue72 w) rfl; clear hS; intro g6 w hS; refine put_move ?_; go_step)) | ((with_reducible refine gt9 _ (.store 72 _ _) ?_); (refine wl9 ?_; apply wp_store1 hS 72 _ _ rfl _ _ rfl (one_of rfl) _ _; (case hp => exact pl9); (case hy => exact isv9); (case hv => rfl); (case hc => (repeat (first | with_reducible exact SetAt.head | apply SetAt.tail))); (case hd => exact rfl); clear hS; intro w hS)) | ((fail_if_success with_reducible refine ga9 ?_); go_step))
 all_goals (try (have hF : False := (by omega); cases hF))
 repeat' (first
  | (refine y941 ?_) | ((with_reducible refine gs9 21 ?_); refine wpl_call (f := 34) Tryd.call34 kr9 ?_; refine ⟨_, (encEach w0 w _ _ g6 g8 gc g18 _ _ HG1.out HG2.out ad n c l 0 bs HA.out HA2.out hn hv (enc_res hS sb9) Pull.head), ?_⟩; clear hS; rintro e w ⟨rfl, s', hs', hS⟩; obtain rfl := hs' rfl; clear hs'; obtain ⟨_, hS⟩ := hS.open; dsimp only [List.cons_append, List.nil_append] at hS; refine ⟨_, rfl, ?_⟩; refine put_move ?_; go_step) | (refine y91 ?_) | ((with_reducible refine gs9 17 ?_); (refine wvv9 (V.build (vs := []) rfl (bl78_)) ?_; go_step)) | (refine y990 ?_) | ((with_reducible refine gs9 18 ?_); (refine wl9 ?_; apply wp_boxG (o := ⟨some 18, _, _, _, _, _⟩) hS 78 _ rfl _ rfl; clear hS; intro g18 w hS; refine put_move ?_; go_step)) | ((with_reducible refine gs9 8 ?_); (refine wl9 ?_; apply wp_alloc (o := ⟨some 8, _, _, _, _, _⟩) hS 75 rfl (.pointer none) [.pointer none] (fun w => Tryd.zeroValue75 w) rfl; clear hS; intro g8 w hS; refine put_move ?_; go_step)) | ((with_reducible refine gt9 _ (.store 75 _ _) ?_); (refine wl9 ?_; apply wp_store1 hS 75 _ _ rfl _ _ rfl (one_of rfl) _ _; (case hp => exact pl9); (case hy => exact isv9); (case hv => rfl); (case hc => (repeat (first | with_reducible exact SetAt.head | apply SetAt.tail))); (case hd => exact rfl); clear hS; intro w hS)) | ((fail_if_success with_reducible refine ga9 ?_); go_step))
 all_goals (try (have hF : False := (by omega); cases hF))
 repeat' (first
  | ((with_reducible refine gs9 26 ?_); refine wpl_call (f := 42) Tryd.call42 kr9 ?_; refine ⟨_, (bytes_any w0 _ _ _ g18 s' hS pl9 (by omega)), ?_⟩; clear hS; rintro e w ⟨ab, cb, rfl, hS⟩; rw [HBV.out] at hS; refine ⟨_, rfl, ?_⟩; refine put_move ?_; go_step) | ((with_reducible refine gs9 27 ?_); refine wpl_call (f := 33) Tryd.call33 kr9 ?_; refine ⟨_, (stuff_any _ ab _ cb (byI (bytesOf s')) (hS.sl pl9) (fun h => own_nil hS Pull.head h) HBI.out (by omega)), ?_⟩; rintro e w ⟨ao, co, rfl, hS2⟩; replace hS := hS.call1 hS2; clear hS2; refine ⟨_, rfl, ?_⟩; refine put_move ?_; go_step) | (refine y92 ?_) | (refine y9132 ?_) | ((fail_if_success with_reducible refine ga9 ?_); go_step))
 refine ret_all (xs := [_, _]) rfl (.cons (OneRes.tmp rfl) (.cons (OneRes.tmp rfl) (.nil))) (by simp) rfl ?_
 refine ⟨ao, co, _, by rw [HB.out], by rw [HR.out]; rfl, ?_⟩
 rw [HB.out]
 exact hS.sub sb9

set_option maxRecDepth 100000
set_option linter.unusedVariables false
def rdo (g : Nat) (ad : Option Addr) (n c i : Nat) (l : List Nat) : Res := star [rd g ad n c i, own 5 1 ad n c (bv l)]
def GetOwn (W : World) (rs : List Res) (g : Nat) (ad : Option Addr) (n c i m : Nat) (l : List Nat) (e : Ending) (w : World) : Prop :=
 (8 * n < i + m → e = .returned (.tuple #[.int .i64 0, .bool false]) ∧ St W w (rdo g ad n c i l :: rs)) ∧
 (i + m ≤ 8 * n → e = .returned (.tuple #[.int .i64 (numAt l i m : Nat), .bool true]) ∧ St W w (rdo g ad n c (i + m) l :: rs))
set_option maxHeartbeats 4000000 in
theorem get_own (W w0 : World) (rs rs' : List Res) (g n c i m : Nat) (ad : Option Addr) (l : List Nat) (hS : St W w0 rs) (hp : Pull (rdo g ad n c i l) rs rs') (hl : ∀ x ∈ l, x < 256) (hn : n ≤ 1000000000000000000) (hi : i ≤ 8 * n) (hm : m ≤ 60) :
 Calls Tryd.prog 51 #[.pointer (some ⟨g, 0, none⟩), .int .i64 m] w0 (GetOwn W rs' g ad n c i m l) := by
 obtain ⟨_, hS⟩ := (hS.pull hp).open
 dsimp only [List.cons_append, List.nil_append] at hS
 have hll : l.length = n := by have := hS.ownLen (.tail .head); simpa [bv] using this
 have HLt := hid hl
 have HLen := hid hll
 clear hl hll
 by_cases hb : 8 * n < i + m
 · have c0 : w0.cell? ⟨g, 0, none⟩ = some (.slice ad n c) := by rw [(hS.blk Pull.head).1.cell]; rfl
   have c1 : w0.cell? ⟨g, 1, none⟩ = some (.int .i64 (i : Nat)) := by rw [(hS.blk Pull.head).1.cell]; rfl
   have HL := hid (left_any w0 g n c i ad c0 c1 hn hi)
   clear c0 c1
   go_enter Tryd.func51, Tryd.ntmps51
   repeat' (first
    | ((with_reducible refine gt9 _ (.call ⟨.value (.func 50), _, _⟩) ?_); refine wpl_call (f := 50) Tryd.call50 kr9 ?_; refine ⟨_, (HL.out), ?_⟩; rintro e w ⟨rfl, hE⟩; replace hS := hS.ext hE; clear hE; refine ⟨_, rfl, ?_⟩; refine put_move ?_; go_step) | (refine y91 ?_) | (refine y987 ?_) | ((fail_if_success with_reducible refine ga9 ?_); go_step))
   go_ret2
   exact ⟨fun _ => ⟨rfl, St.close () (by dsimp only [List.cons_append, List.nil_append]; exact hS)⟩, fun h => absurd h (by omega)⟩
 · have hb2 : i + m ≤ 8 * n := by omega
   have c0 : w0.cell? ⟨g, 0, none⟩ = some (.slice ad n c) := by rw [(hS.blk Pull.head).1.cell]; rfl
   have c1 : w0.cell? ⟨g, 1, none⟩ = some (.int .i64 (i : Nat)) := by rw [(hS.blk Pull.head).1.cell]; rfl
   have HL := hid (left_any w0 g n c i ad c0 c1 hn hi)
   clear c0 c1
   go_enter Tryd.func51, Tryd.ntmps51
   repeat' (first
    | ((with_reducible refine gt9 _ (.call ⟨.value (.func 50), _, _⟩) ?_); refine wpl_call (f := 50) Tryd.call50 kr9 ?_; refine ⟨_, (HL.out), ?_⟩; rintro e w ⟨rfl, hE⟩; replace hS := hS.ext hE; clear hE; refine ⟨_, rfl, ?_⟩; refine put_move ?_; go_step) | (refine y91 ?_) | (refine y987 ?_) | ((fail_if_success with_reducible refine ga9 ?_); go_step))
   go_loopg [6, 12] m (fun gk nv kv w => ∃ (k : Nat), gk + k = m ∧ kv = .int .i64 k ∧ nv = .int .i64 (numAt l i k : Nat) ∧ St W w (rd g ad n c (i + k) :: own 5 1 ad n c (bv l) :: rs'))
   case atStart => exact ⟨0, rfl, rfl, rfl, hS⟩
   case round =>
    clear hS
    obtain ⟨k, hk, rfl, rfl, hS⟩ := hrel
    by_cases hlt : k < m
    · have hN : numAt l i k < 4611686018427387904 := by
       refine Nat.lt_of_lt_of_le (numAt_lt l i k) ?_
       exact Nat.le_trans (Nat.pow_le_pow_right (n := 2) (by omega) (show k ≤ 62 by omega)) (by decide)
      have HOr := hid (or_bit (numAt l i k) (bitAt l (i + k)) hN (Nat.mod_lt _ (by omega)))
      have HOr2 := hid (or_bit2 (numAt l i k) (bitAt l (i + k)) hN (Nat.mod_lt _ (by omega)))
      have HAnd := hid (bit_and l (i + k) HLt.out)
      have HSucc := hid (numAt_succ l i k (by rw [HLen.out]; omega))
      have hbit : bitAt l (i + k) < 2 := Nat.mod_lt _ (by omega)
      have h8 : (i + k) / 8 < n := by omega
      unfold rd at hS
      obtain ⟨b, rfl⟩ := own_some (a := ad) hS pl9 (by omega)
      have hcell : (bv l)[(i + k) / 8]? = some (.int .u8 ((l.getD ((i + k) / 8) 0 : Nat) : Int)) := by
       unfold bv
       rw [List.getElem?_map, List.getElem?_eq_getElem (by rw [HLen.out]; exact h8)]
       simp [List.getD, HLen.out, h8]
      clear HL
      repeat' (first
       | (refine y989 ?_) | ((fail_if_success with_reducible refine ga9 ?_); go_step))
      refine drawn_lit [] (fun w => St W w (blk g [.slice (some ⟨b, 0, none⟩) n c, .int .i64 ((i + k : Nat) : Int)] :: own 5 1 (some ⟨b, 0, none⟩) n c (bv l) :: rs')) kr9 ?_
      replace hS := hS.drew
      focus
       refine takeM 0 _ al9 kr9 kr9 kr9 hq9 rfl ?_
       go_step
       (refine takeV 1 _ al9 kr9 kr9 kr9 hq9 (V.shlI rfl rfl isn9 (by omega) (by omega)) rfl ?_)
       go_step
       refine takeM 2 _ al9 kr9 kr9 kr9 hq9 rfl ?_
       go_step
       (refine takeV 3 _ al9 kr9 kr9 kr9 hq9 (V.nilCheck rfl) rfl ?_)
       go_step
       (refine takeV 4 _ al9 kr9 kr9 kr9 hq9 (V.fieldAddr fo140_0 rfl nq9) rfl ?_)
       go_step
       apply takeS 5 al9 kr9 kr9 kr9 hq9 [11, 12, 19, 20, 21, 22, 23] kr9 (hS.sub sb9)
       case hfr => intro w hS; ((refine wl9 ?_; apply wp_load1 hS 34 _ rfl _ _ rfl (one_of rfl) _; (case hp => exact pl9); (case hc => rfl); refine put_move ?_; go_step)); refine wpList_nil ?_; exact ⟨rfl, rfl⟩
       case hd => rfl
       refine takeM 6 _ al9 kr9 kr9 kr9 hq9 rfl ?_
       go_step
       (refine takeV 7 _ al9 kr9 kr9 kr9 hq9 (V.nilCheck rfl) rfl ?_)
       go_step
       (refine takeV 8 _ al9 kr9 kr9 kr9 hq9 (V.fieldAddr fo140_1 rfl nq9) rfl ?_)
       go_step
       apply takeS 9 al9 kr9 kr9 kr9 hq9 [10, 11, 12, 19, 20, 21, 22, 23] kr9 (hS.sub sb9)
       case hfr => intro w hS; ((refine wl9 ?_; apply wp_load1 hS 3 _ rfl _ _ rfl (one_of rfl) _; (case hp => exact pl9); (case hc => rfl); refine put_move ?_; go_step)); refine wpList_nil ?_; exact ⟨rfl, rfl⟩
       case hd => rfl
       (refine takeV 10 _ al9 kr9 kr9 kr9 hq9 (V.quo rfl rfl (by omega) (by omega)) rfl ?_)
       go_step
       (refine takeV 11 _ al9 kr9 kr9 kr9 hq9 (V.indexSl Tryd.underlying34 isz5 rfl rfl isn9 (by omega) (Nat.mul_one _) nq9) rfl ?_)
       go_step
       apply takeS 12 al9 kr9 kr9 kr9 hq9 [19, 20, 21, 22, 23] kr9 (hS.sub sb9)
       case hfr => intro w hS; ((refine wl9 ?_; apply wp_load1O hS 5 _ rfl _ _ rfl (one_of rfl) _ _ _ _ _; (case hp => exact pl9); (case hv => with_reducible assumption); refine put_move ?_; go_step)); refine wpList_nil ?_; exact ⟨rfl, rfl⟩
       case hd => rfl
       refine takeM 13 _ al9 kr9 kr9 kr9 hq9 rfl ?_
       go_step
       (refine takeV 14 _ al9 kr9 kr9 kr9 hq9 (V.nilCheck rfl) rfl ?_)
       go_step
       (refine takeV 15 _ al9 kr9 kr9 kr9 hq9 (V.fieldAddr fo140_1 rfl nq9) rfl ?_)
       go_step
       apply takeS 16 al9 kr9 kr9 kr9 hq9 [17, 18, 19, 20, 21, 22, 23] kr9 (hS.sub sb9)
       case hfr => intro w hS; ((refine wl9 ?_; apply wp_load1 hS 3 _ rfl _ _ rfl (one_of rfl) _; (case hp => exact pl9); (case hc => rfl); refine put_move ?_; go_step)); refine wpList_nil ?_; exact ⟨rfl, rfl⟩
       case hd => rfl
       (refine takeV 17 _ al9 kr9 kr9 kr9 hq9 (V.rem rfl rfl (by omega) (by omega)) rfl ?_)
       go_step
       (refine takeV 18 _ al9 kr9 kr9 kr9 hq9 (V.subI rfl rfl (by omega)) rfl ?_)
       go_step
       (refine takeV 19 _ al9 kr9 kr9 kr9 hq9 (V.shrB (N := 8) rfl rfl isn9 (by omega) rfl) rfl ?_)
       go_step
       (refine takeV 20 (.int _ (((bitAt l (i + k) : Nat) : Int))) al9 kr9 kr9 kr9 hq9 (V.as (V.and rfl rfl) (by exact HAnd.out)) rfl ?_)
       go_step
       (refine takeV 21 _ al9 kr9 kr9 kr9 hq9 (V.convI (by rw [Tryd.underlying5]; rfl) Tryd.underlying3 rfl (IntWalk.i64_in _ (by omega))) rfl ?_)
       go_step
       (refine takeV 22 (.int _ (((2 * numAt l i k + bitAt l (i + k) : Nat) : Int))) al9 kr9 kr9 kr9 hq9 (V.as (V.or rfl rfl) (by exact HOr2.out)) rfl ?_)
       go_step
       refine takeA 23 _ al9 kr9 kr9 kr9 hq9 rfl ?_
       go_step
       refine drawn_done kr9 ?_ _
      repeat' (first
       | (refine y9144 ?_) | (refine y9136 ?_) | ((with_reducible refine gt9 _ (.fieldAddr 140 _ 1) ?_); (refine wvv9 (V.fieldAddr fo140_1 rfl nq9) ?_; go_step)) | (refine y983 ?_) | (refine y9119 ?_) | ((with_reducible refine gt9 _ (.store 3 _ _) ?_); (refine wl9 ?_; apply wp_store1 hS 3 _ _ rfl _ _ rfl (one_of rfl) _ _; (case hp => exact pl9); (case hy => exact isv9); (case hv => rfl); (case hc => (repeat (first | with_reducible exact SetAt.head | apply SetAt.tail))); (case hd => exact rfl); clear hS; intro w hS)) | ((fail_if_success with_reducible refine ga9 ?_); go_step))
      go_roundg (gk - 1)
      case measure => omega
      case rel => exact ⟨k + 1, by omega, by go_num, by rw [HSucc.out], by unfold rd; exact hS⟩
    · obtain rfl : k = m := by omega
      repeat' (first
       | (refine y91 ?_) | (refine y989 ?_) | ((fail_if_success with_reducible refine ga9 ?_); go_step))
      go_ret2
      exact ⟨fun h => absurd h (by omega), fun _ => ⟨rfl, St.close () (by dsimp only [List.cons_append, List.nil_append]; exact hS)⟩⟩
theorem rdo_len {W w0 : World} {rs rs' rs2 : List Res} {r : Res} {g n c i : Nat} {ad : Option Addr} {l : List Nat} (hS : St W w0 rs) (hp : Pull r rs rs') (hp2 : Pull (rdo g ad n c i l) rs' rs2) : l.length = n := by
 obtain ⟨_, h⟩ := ((hS.pull hp).drop.pull hp2).open
 have := h.ownLen (.tail .head)
 simpa [bv] using this
set_option maxRecDepth 100000 in
set_option maxHeartbeats 4000000 in
theorem codGet_own (W w0 : World) (rs rs' rs2 : List Res) (g g2 n c i : Nat) (ad : Option Addr) (L : List (Int × Nat × Nat)) (l : List Nat) (hS : St W w0 rs) (hp : Pull (cod g L) rs rs') (hp2 : Pull (rdo g2 ad n c i l) rs' rs2)
 (hl : ∀ x ∈ l, x < 256) (hn : n ≤ 1000000000000000000) (hi : i ≤ 8 * n) :
 Calls Tryd.prog 131 #[.pointer (some ⟨g, 0, none⟩), .pointer (some ⟨g2, 0, none⟩)] w0 fun e w => e = .returned (.tuple #[.int .i64 (gtW L l i 16 0).1, .int .i64 (gtW L l i 16 0).2.1]) ∧ (gtW L l i 16 0).2.2 ≤ 8 * n ∧ St W w (cod g L :: rdo g2 ad n c (gtW L l i 16 0).2.2 l :: rs2) := by
 have hll : l.length = n := rdo_len hS hp hp2
 obtain ⟨⟨m1, m2⟩, hS⟩ := (hS.pull hp).open
 dsimp only [List.cons_append, List.nil_append] at hS
 have hp3 : Pull (rdo g2 ad n c i l) (blk g [.map (some m1), .map (some m2)] :: mp ik m1 (symF L) :: mp pk m2 (codF L) :: rs') (blk g [.map (some m1), .map (some m2)] :: mp ik m1 (symF L) :: mp pk m2 (codF L) :: rs2) := .tail (.tail (.tail hp2))
 replace hS := hS.pull hp3
 have HLt := hid hl
 have HLl := hid hll
 clear hl hll hp hp2 hp3
 obtain ⟨R, hR⟩ : ∃ R, gtW L l i 16 0 = R := ⟨_, rfl⟩
 rw [hR]
 have HR := hid hR
 clear hR
 go_enter Tryd.func131, Tryd.ntmps131
 repeat' (first
  | (refine y92 ?_) | ((fail_if_success with_reducible refine ga9 ?_); go_step))
 go_loopg [6, 7] 16 (fun gk cv kv w => ∃ d : Nat, gk + d = 16 ∧ kv = .int .i64 ((d : Int) + 1) ∧ cv = .int .i64 (numAt l i d : Nat) ∧ i + d ≤ 8 * n ∧ Hid (gtW L l i gk d = R) ∧ St W w (rdo g2 ad n c (i + d) l :: blk g [.map (some m1), .map (some m2)] :: mp ik m1 (symF L) :: mp pk m2 (codF L) :: rs2))
 case atStart => exact ⟨0, rfl, rfl, by rw [show numAt l i 0 = 0 by unfold numAt; rw [List.take_zero]; rfl]; rfl, hi, HR, hS⟩
 case round =>
  clear hS
  obtain ⟨d, hd, rfl, rfl, hid2, HG, hS⟩ := hrel
  by_cases hlt : d < 16
  · obtain ⟨gk', rfl⟩ : ∃ k, gk = k + 1 := ⟨gk - 1, by omega⟩
    have hg := HG.out
    rw [gtW, HLl.out] at hg
    by_cases hsh : 8 * n < i + d + 1
    · rw [if_pos (by omega)] at hg
      have HG2 := hid hg
      clear hg HG
      repeat' (first
       | ((with_reducible refine gs9 18 ?_); refine wpl_call (f := 51) Tryd.call51 kr9 ?_; refine ⟨_, (get_own W _ _ _ g2 n c (i + d) 1 ad l hS pl9 HLt.out hn hid2 (by omega)), ?_⟩; rintro e w ⟨hG, _⟩; obtain ⟨rfl, hS2⟩ := hG (by omega); clear hG hS; have hS := hS2; clear hS2; refine ⟨_, rfl, ?_⟩; refine put_move ?_; go_step) | (refine y91 ?_) | (refine y988 ?_) | (refine y9104 ?_) | (refine y9143 ?_) | ((fail_if_success with_reducible refine ga9 ?_); go_step))
      refine ret_all (xs := [_, _]) rfl (.cons (OneRes.tmp rfl) (.cons (OneRes.tmp rfl) (.nil))) (by simp) rfl ?_
      rw [← HG2.out]
      refine ⟨rfl, hid2, St.close (m1, m2) ?_⟩
      exact hS.sub sb9
    · rw [if_neg (by omega)] at hg
      have HCat := hid (numAt_cat l i d (by rw [HLl.out]; omega))
      have hb1 : numAt l (i + d) 1 < 2 := numAt_lt l (i + d) 1
      have hN : numAt l i d < 65536 := Nat.lt_of_lt_of_le (numAt_lt l i d) (Nat.pow_le_pow_right (n := 2) (j := 16) (by omega) (by omega))
      obtain ⟨N1, hN1⟩ : ∃ x, numAt l i (d + 1) = x := ⟨_, rfl⟩
      rw [hN1] at hg HCat
      have HN1 := hid hN1
      clear hN1
      have HOr := hid (or_bit2 (numAt l i d) (numAt l (i + d) 1) (by omega) hb1)
      rw [← HCat.out] at HOr
      cases hc : codW L (((d + 1 : Nat) : Int), (N1 : Int)) with
      | some s =>
       rw [hc] at hg
       dsimp only at hg
       have HG2 := hid hg
       have hf : codF L ((d : Int) + 1, (N1 : Int)) = some (.int .i64 s) := by
        unfold codF; rw [show (d : Int) + 1 = ((d + 1 : Nat) : Int) by omega, hc]; rfl
       clear hg HG hc
       repeat' (first
        | ((with_reducible refine gs9 18 ?_); refine wpl_call (f := 51) Tryd.call51 kr9 ?_; refine ⟨_, (get_own W _ _ _ g2 n c (i + d) 1 ad l hS pl9 HLt.out hn hid2 (by omega)), ?_⟩; rintro e w ⟨_, hG⟩; obtain ⟨rfl, hS2⟩ := hG (by omega); clear hG hS; have hS := hS2; clear hS2; refine ⟨_, rfl, ?_⟩; refine put_move ?_; go_step) | (refine y946 ?_) | (refine y91 ?_) | (refine y988 ?_) | (refine y9104 ?_) | (refine y9143 ?_) | (refine y993 ?_) | (refine y9136 ?_) | ((with_reducible refine gt9 _ (.fieldAddr 125 _ 1) ?_); (refine wvv9 (V.fieldAddr fo125_1 rfl nq9) ?_; go_step)) | ((with_reducible refine gs9 34 ?_); (refine wvv9 (V.build (vs := [(0, _), (1, _)]) rfl (bl154_0_1 _ _)) ?_; go_step)) | (refine y9115 ?_) | ((with_reducible refine gs9 35 ?_); (refine wl9 ?_; apply wp_lookupS2 (enc := pk) hS 123 _ _ rfl _ rfl (_, _) rfl Tryd.underlying123 (keyLaw_pair Tryd.underlying154 Tryd.underlying3 isz3) (.int .i64 0) (fun w => Tryd.zeroValue3 w) _; (case hp => exact pl9); (case hf => with_reducible assumption); refine put_move ?_; go_step)) | ((fail_if_success with_reducible refine ga9 ?_); go_step))
       refine ret_all (xs := [_, _]) rfl (.cons (OneRes.tmp rfl) (.cons (OneRes.tmp rfl) (.nil))) (by simp) rfl ?_
       rw [← HG2.out]
       refine ⟨rfl, by show i + (d + 1) ≤ 8 * n; omega, St.close (m1, m2) ?_⟩
       dsimp only
       rw [show i + d + 1 = i + (d + 1) by omega] at hS
       exact hS.sub sb9
      | none =>
       rw [hc] at hg
       dsimp only at hg
       have HG2 := hid hg
       have hf : codF L ((d : Int) + 1, (N1 : Int)) = none := by
        unfold codF; rw [show (d : Int) + 1 = ((d + 1 : Nat) : Int) by omega, hc]; rfl
       clear hg HG hc
       repeat' (first
        | ((with_reducible refine gs9 18 ?_); refine wpl_call (f := 51) Tryd.call51 kr9 ?_; refine ⟨_, (get_own W _ _ _ g2 n c (i + d) 1 ad l hS pl9 HLt.out hn hid2 (by omega)), ?_⟩; rintro e w ⟨_, hG⟩; obtain ⟨rfl, hS2⟩ := hG (by omega); clear hG hS; have hS := hS2; clear hS2; refine ⟨_, rfl, ?_⟩; refine put_move ?_; go_step) | (refine y946 ?_) | (refine y91 ?_) | (refine y988 ?_) | (refine y983 ?_) | (refine y9104 ?_) | (refine y9143 ?_) | (refine y993 ?_) | (refine y9136 ?_) | ((with_reducible refine gt9 _ (.fieldAddr 125 _ 1) ?_); (refine wvv9 (V.fieldAddr fo125_1 rfl nq9) ?_; go_step)) | ((with_reducible refine gs9 34 ?_); (refine wvv9 (V.build (vs := [(0, _), (1, _)]) rfl (bl154_0_1 _ _)) ?_; go_step)) | (refine y9115 ?_) | ((with_reducible refine gs9 35 ?_); (refine wl9 ?_; apply wp_lookupN2 (enc := pk) hS 123 _ _ rfl _ rfl (_, _) rfl Tryd.underlying123 (keyLaw_pair Tryd.underlying154 Tryd.underlying3 isz3) (.int .i64 0) (fun w => Tryd.zeroValue3 w) _; (case hp => exact pl9); (case hf => with_reducible assumption); refine put_move ?_; go_step)) | ((fail_if_success with_reducible refine ga9 ?_); go_step))
       go_roundg gk'
       case measure => omega
       case rel => exact ⟨d + 1, by omega, by go_num, by rw [HN1.out], by omega, HG2, (by rw [show i + d + 1 = i + (d + 1) by omega] at hS; exact hS.sub sb9)⟩
  · obtain rfl : d = 16 := by omega
    obtain rfl : gk = 0 := by omega
    have hg := HG.out
    rw [gtW] at hg
    have HG2 := hid hg
    clear hg HG
    repeat' (first
     | (refine y91 ?_) | (refine y988 ?_) | ((fail_if_success with_reducible refine ga9 ?_); go_step))
    refine ret_all (xs := [_, _]) rfl (.cons (OneRes.tmp rfl) (.cons (OneRes.tmp rfl) (.nil))) (by simp) rfl ?_
    rw [← HG2.out]
    refine ⟨rfl, hid2, St.close (m1, m2) ?_⟩
    exact hS.sub sb9

end Go.Proofs.YtehbjhocgnfpmaaDoor
/- Decoding what has been encoded: the plain law. -/
namespace Go.Proofs.YtehbjhocgnfpmaaDoor
set_option linter.unusedVariables false
theorem gt_ok {L : List (Int × Nat × Nat)} (l : List Nat) (i : Nat) : ∀ f d, (gtW L l i f d).2.1 = 0 → ∃ m, d < m ∧ m ≤ d + f ∧ (gtW L l i f d).2.2 = i + m ∧ i + m ≤ 8 * l.length ∧ ((gtW L l i f d).1, m, numAt l i m) ∈ L := by
 intro f
 induction f with
 | zero => intro d h; exact absurd h (by show (4 : Int) ≠ 0; decide)
 | succ f ih =>
  intro d h
  rw [gtW] at h ⊢
  by_cases hs : 8 * l.length < i + (d + 1)
  · rw [if_pos hs] at h; exact absurd h (by show (3 : Int) ≠ 0; decide)
  · rw [if_neg hs] at h ⊢
    cases hc : codW L (((d + 1 : Nat) : Int), (numAt l i (d + 1) : Int)) with
    | some s => exact ⟨d + 1, by omega, by omega, rfl, by omega, codW_mem hc⟩
    | none =>
     rw [hc] at h
     obtain ⟨m, h1, h2, h3, h4, h5⟩ := ih (d + 1) h
     exact ⟨m, by omega, by omega, h3, h4, h5⟩
theorem wb_of {L : List (Int × Nat × Nat)} (hG : Good L) {x : Int × Nat × Nat} (hx : x ∈ L) : wb L x.1 = bitsOf x.2.1 x.2.2 := by
 unfold wb; rw [hG.symW hx]

end Go.Proofs.YtehbjhocgnfpmaaDoor
/- The walk of run.From, at any source of tokens. -/
namespace Go.Proofs.YtehbjhocgnfpmaaDoor
open Go.RowKit
set_option linter.unusedVariables false
theorem bl52_0 (m0 : Int) (w : World) : (Instr.build 52 #[(0, .int .i64 m0)]).run Tryd.prog w = .ok (.agg (iv (((List.replicate 64 0).set 0 m0)))) w := by kernel_rfl
theorem bl52_ (w : World) : (Instr.build 52 #[]).run Tryd.prog w = .ok (.agg (iv ((List.replicate 64 0)))) w := by kernel_rfl
structure Src (W : World) (σ : Type) where
 next : σ → Bool → Tok × Int × σ
 res : σ → Res
 tid : TypeId
 ptr : Value
 f : FuncId
 inv : ∀ (b : Bool) (w : World), (invoke (.fn (.method "Token") #[]) [.iface tid ptr, .bool b].toArray).run Tryd.prog w = .ok (.enter f #[ptr, .bool b]) w
 call : ∀ (w : World) (rs rs' : List Res) (s : σ) (b : Bool) (t0 t1 t2 er : Int) (s' : σ), St W w rs → Pull (res s) rs rs' → next s b = ((t0, t1, t2), er, s') →
  Calls Tryd.prog f #[ptr, .bool b] w fun e w' => e = .returned (.tuple #[.agg #[.int .i64 t0, .int .i64 t1, .int .i64 t2], .int .i64 er]) ∧ St W w' (res s' :: rs')
structure Veil (p : Prop) : Prop where
 out : p
def nought0 : List Int := List.replicate 64 0
set_option maxRecDepth 100000 in
theorem none_any (w0 : World) (e0 : Int) : Calls Tryd.prog 70 #[.int .i64 e0] w0 fun e w => e = .returned (.tuple #[.agg (iv nought0), .slice none 0 0, .int .i64 e0]) ∧ Ext w0 w := by
 have hS := St.start w0
 have hZ : Len nought0 64 := List.length_replicate
 go_enter Tryd.func70, Tryd.ntmps70
 repeat' (first
  | (refine y91 ?_) | ((with_reducible refine gs9 5 ?_); (refine wvv9 (V.build (vs := []) rfl (bl52_)) ?_; go_step)) | ((with_reducible refine gs9 2 ?_); (refine wl9 ?_; apply wp_allocA (o := ⟨some 2, _, _, _, _, _⟩) hS 52 rfl (List.replicate 64 0) 64 List.length_replicate za52; clear hS; intro g2 w hS; refine put_move ?_; go_step)) | ((with_reducible refine gt9 _ (.store 52 _ _) ?_); (refine wl9 ?_; apply wp_storeA hS 52 _ _ rfl _ rfl 64 (row_of rfl) _ _; (case hp => exact pl9); (case hy => rfl); (case hm => (repeat (first | assumption | exact Len.rep | apply Len.set | ((with_reducible show Len (_ :: _) _); exact rfl)))); (case hd => exact rfl); clear hS; intro w hS)) | ((fail_if_success with_reducible refine ga9 ?_); go_step))
 refine ret_all (xs := [_, _, _]) rfl (.cons (OneRes.arr hS rfl (row_of (n := 64) rfl) pl9) (.cons (OneRes.tmp rfl) (.cons (OneRes.tmp rfl) (.nil)))) (by simp) rfl ?_
 exact ⟨rfl, hS.1⟩
def okB (k v : Int) : Bool := decide (0 ≤ k ∧ k ≤ 12) && decide (0 ≤ v ∧ v < 2 ^ k.toNat)
set_option maxHeartbeats 1000000 in
theorem back_no (k v : Int) (w : World) (h : okB k v = false) : Calls Tryd.prog 71 #[.int .i64 k, .int .i64 v] w fun e w' => e = .returned (.tuple #[.int .i64 0, .int .i64 1]) ∧ w = w' := by
 by_cases hk : 0 ≤ k ∧ k ≤ 12
 case neg =>
  have hk2 : k < 0 ∨ 12 < k := by omega
  clear hk h
  go_enter Tryd.func71, Tryd.ntmps71
  repeat' (first
   | go_skip | ((first | (with_reducible refine mv9 ?_) | (with_reducible refine as9 ?_)); (first | go_big_want | go_step); go_step) | ((with_reducible refine gt9 _ (.pick _ _ _) ?_); first | (refine wplPickT rfl kr9 ?_; go_step) | (refine wplPickF rfl kr9 ?_; go_step)) | ((with_reducible refine gs9 8 ?_); (refine wplD _ (V.lss rfl rfl) kr9 (fun hB => ?_) (fun hB => ?_) <;> (try (have hF : False := (by omega); cases hF)) <;> go_step)) | ((with_reducible refine gs9 11 ?_); (refine wplD _ (V.gtr rfl rfl) kr9 (fun hB => ?_) (fun hB => ?_) <;> (try (have hF : False := (by omega); cases hF)) <;> go_step)) | ((fail_if_success with_reducible refine ga9 ?_); go_step))
  all_goals (try (have hF : False := (by omega); cases hF))
  all_goals
   refine ret_all (xs := [_, _]) rfl (.cons (OneRes.tmp rfl) (.cons (OneRes.tmp rfl) (.nil))) (by simp) rfl ?_
   exact ⟨rfl, rfl⟩
 obtain ⟨n, rfl⟩ : ∃ n : Nat, k = (n : Int) := ⟨k.toNat, by omega⟩
 obtain ⟨p, hp⟩ : ∃ p, 2 ^ n = p := ⟨_, rfl⟩
 have HP : Hid ((2 : Int) ^ n = (p : Int)) := hid (by rw [← hp]; push_cast; rfl)
 have hp2 : p ≤ 4096 := by rw [← hp]; exact Nat.pow_le_pow_right (n := 2) (j := 12) (by omega) (by omega)
 have hv : v < 0 ∨ (p : Int) ≤ v := by
  unfold okB at h
  rw [decide_eq_true hk, Bool.true_and, decide_eq_false_iff_not, Int.toNat_natCast, HP.out] at h
  omega
 clear h hp
 go_enter Tryd.func71, Tryd.ntmps71
 repeat' (first
  | ((with_reducible refine gs9 20 ?_); (refine wplV (.int _ (((p : Nat) : Int))) (V.as (V.shl1 rfl rfl isn9 (by omega)) (by exact HP.out)) rfl ?_; go_step)) | go_skip | (refine y91 ?_) | (refine y9139 ?_) | ((with_reducible refine gs9 8 ?_); (refine wplD _ (V.lss rfl rfl) kr9 (fun hB => ?_) (fun hB => ?_) <;> (try (have hF : False := (by omega); cases hF)) <;> go_step)) | ((with_reducible refine gs9 11 ?_); (refine wplD _ (V.gtr rfl rfl) kr9 (fun hB => ?_) (fun hB => ?_) <;> (try (have hF : False := (by omega); cases hF)) <;> go_step)) | ((with_reducible refine gs9 15 ?_); (refine wplD _ (V.lss rfl rfl) kr9 (fun hB => ?_) (fun hB => ?_) <;> (try (have hF : False := (by omega); cases hF)) <;> go_step)) | (refine y986 ?_) | ((fail_if_success with_reducible refine ga9 ?_); go_step))
 all_goals (try (have hF : False := (by omega); cases hF))
 all_goals
  refine ret_all (xs := [_, _]) rfl (.cons (OneRes.tmp rfl) (.cons (OneRes.tmp rfl) (.nil))) (by simp) rfl ?_
  exact ⟨rfl, rfl⟩
theorem back_yes (k v : Int) (w : World) (h : okB k v = true) : Calls Tryd.prog 71 #[.int .i64 k, .int .i64 v] w fun e w' => e = .returned (.tuple #[.int .i64 (sback k.toNat v.toNat), .int .i64 0]) ∧ w = w' := by
 unfold okB at h
 simp only [Bool.and_eq_true, decide_eq_true_eq] at h
 obtain ⟨n, rfl⟩ : ∃ n : Nat, k = (n : Int) := ⟨k.toNat, by omega⟩
 obtain ⟨m, rfl⟩ : ∃ m : Nat, v = (m : Int) := ⟨v.toNat, by omega⟩
 rw [Int.toNat_natCast, Int.toNat_natCast]
 refine sizeBack_any n m w (by omega) ?_
 have h2 := h.2.2
 rw [Int.toNat_natCast] at h2
 have : ((m : Int)) < ((2 ^ n : Nat) : Int) := by push_cast; exact h2
 omega
theorem sback_lt (k v : Nat) (h : v < 2 ^ k) : -(2 ^ k : Nat) < sback k v ∧ sback k v < (2 ^ k : Nat) := by
 unfold sback
 split <;> omega
theorem numT_bd (t0 t1 t2 : Int) (h : okB t1 t2 = true) : -4096 < numT (t0, t1, t2) ∧ numT (t0, t1, t2) < 4096 ∧ (t1 ≤ 11 → -2048 < numT (t0, t1, t2) ∧ numT (t0, t1, t2) < 2048) := by
 unfold okB at h
 simp only [Bool.and_eq_true, decide_eq_true_eq] at h
 obtain ⟨n, rfl⟩ : ∃ n : Nat, t1 = (n : Int) := ⟨t1.toNat, by omega⟩
 obtain ⟨m, rfl⟩ : ∃ m : Nat, t2 = (m : Int) := ⟨t2.toNat, by omega⟩
 rw [Int.toNat_natCast] at h
 have h2 : m < 2 ^ n := by
  have : ((m : Int)) < ((2 ^ n : Nat) : Int) := by push_cast; exact h.2.2
  omega
 have h3 := sback_lt n m h2
 unfold numT
 dsimp only
 rw [Int.toNat_natCast, Int.toNat_natCast]
 have h4 : 2 ^ n ≤ 4096 := Nat.pow_le_pow_right (n := 2) (j := 12) (by omega) (by omega)
 refine ⟨by omega, by omega, fun h5 => ?_⟩
 have h6 : 2 ^ n ≤ 2048 := Nat.pow_le_pow_right (n := 2) (j := 11) (by omega) (by omega)
 omega
theorem badT_eq (t0 t1 t2 : Int) : badT (t0, t1, t2) = true ↔ okB t1 t2 = false ∨ 11 < t1 ∨ t0 < 0 ∨ 255 < t0 ∨ t1 ≠ t0 % 16 ∨ (t1 = 0 ∧ t0 ≠ 0 ∧ t0 ≠ 240) := by
 unfold badT okB
 dsimp only
 generalize hB : (decide (0 ≤ t2 ∧ t2 < 2 ^ t1.toNat)) = B
 clear hB
 cases B
 · simp
 · rw [Bool.and_true, Bool.and_true, Bool.not_eq_true']
   rw [show (decide (0 ≤ t1 ∧ t1 ≤ 11) && decide (0 ≤ t0 ∧ t0 ≤ 255) && decide (t1 = t0 % 16) && (decide (t1 ≠ 0) || decide (t0 = 0 ∨ t0 = 240))) = decide ((0 ≤ t1 ∧ t1 ≤ 11) ∧ (0 ≤ t0 ∧ t0 ≤ 255) ∧ t1 = t0 % 16 ∧ (t1 ≠ 0 ∨ t0 = 0 ∨ t0 = 240)) by
    rw [Bool.eq_iff_iff]; simp only [Bool.and_eq_true, Bool.or_eq_true, decide_eq_true_eq]; omega]
   rw [decide_eq_false_iff_not, decide_eq_false_iff_not]
   omega
theorem and15 (t0 : Int) (h : 0 ≤ t0 ∧ t0 ≤ 255) : bits .and .i64 t0 15 = t0 % 16 := by
 obtain ⟨n, rfl⟩ : ∃ n : Nat, t0 = (n : Int) := ⟨t0.toNat, by omega⟩
 rw [show (15 : Int) = ((15 : Nat) : Int) from rfl, bits_and_i64_nat n 15 (by omega) (by omega)]
 rw [show (15 : Nat) = 2 ^ 4 - 1 from rfl, Nat.and_two_pow_sub_one_eq_mod]
 omega
theorem zfrom_bd (l : List Int) (h : ∀ i, i < 64 → -2047 ≤ nth l i ∧ nth l i ≤ 2047) (j : Nat) (hj : j < 64) : -2047 ≤ nth (zfrom l) j ∧ nth (zfrom l) j ≤ 2047 := by
 obtain ⟨h1, h2⟩ := zn_onto j hj
 have h3 := zfl_get l 64 (by omega) _ h1
 rw [h2] at h3
 have h4 : nth (zfrom l) j = nth l (zord.idxOf j) := h3
 rw [h4]; exact h _ h1
def FromGives {W : World} {σ : Type} (Z : Src W σ) (before : Int) (s0 : σ) (rs' : List Res) (e : Ending) (w : World) : Prop :=
 ∃ ad c, e = .returned (.tuple #[.agg (iv (frm Z.next before s0).2.1), .slice ad (frm Z.next before s0).2.2.1.length c, .int .i64 (frm Z.next before s0).1]) ∧
  St W w (own 69 3 ad (frm Z.next before s0).2.2.1.length c ((flt (frm Z.next before s0).2.2.1).map (Value.int .i64)) :: Z.res (frm Z.next before s0).2.2.2 :: rs')
theorem from_no {W w : World} {σ : Type} {Z : Src W σ} {before : Int} {s0 s1 : σ} {rs' rs : List Res} (E : Int) (h : frm Z.next before s0 = (E, nought0, [], s1)) (hS : St W w rs) (hp : Sub (Z.res s1 :: rs') rs) :
 FromGives Z before s0 rs' (.returned (.tuple #[.agg (iv nought0), .slice none 0 0, .int .i64 E])) w := by
 refine ⟨none, 0, by rw [h]; rfl, ?_⟩
 rw [h]
 exact (hS.sub hp).nil _ _
set_option maxRecDepth 100000 in
set_option maxHeartbeats 40000000 in
theorem from_bad {W : World} {σ : Type} (Z : Src W σ) (w0 : World) (rs rs' : List Res) (s0 : σ) (before : Int) (hb : -2047 ≤ before ∧ before ≤ 2047) (hS : St W w0 rs) (hp : Pull (Z.res s0) rs rs') (hbad : ¬ ((Z.next s0 true).2.1 = 0 ∧ okFirst before (Z.next s0 true).1 = true)) :
 Calls Tryd.prog 49 #[.int .i64 before, .iface Z.tid Z.ptr] w0 (FromGives Z before s0 rs') := by
 replace hS := hS.pull hp
 have hbad := Veil.mk hbad
 have hZ0 : Len nought0 64 := List.length_replicate
 clear hp
 obtain ⟨⟨⟨t0, t1, t2⟩, er, s1⟩, hn⟩ : ∃ x, Z.next s0 true = x := ⟨_, rfl⟩
 by_cases he : er = 0
 case neg =>
  have HF : Hid (frm Z.next before s0 = (er, nought0, [], s1)) := hid (by unfold frm; rw [hn]; exact if_pos he)
  have HN := hid hn
  clear hn
  go_enter Tryd.func49, Tryd.ntmps49
  repeat' (first
   | ((with_reducible refine gs9 19 ?_); refine wl9 ?_; refine wp_callI rfl (.iface Z.tid Z.ptr) rfl [.bool true] rfl Z.f #[Z.ptr, .bool true] (Z.inv true) (Z.call _ _ _ s0 true _ _ _ _ _ hS pl9 HN.out) ?_; clear hS; rintro e w ⟨rfl, hS⟩; refine ⟨_, rfl, ?_⟩; refine put_move ?_; go_step) | ((with_reducible refine gs9 26 ?_); refine wl9 ?_; refine wp_callV (f := 70) rfl rfl Tryd.call70 (none_any _ _) ?_; rintro e w ⟨rfl, hE⟩; replace hS := hS.ext hE; clear hE; refine ⟨_, rfl, ?_⟩; refine put_move ?_; go_step) | (refine y91 ?_) | (refine y9104 ?_) | (refine y990 ?_) | ((with_reducible refine gs9 4 ?_); (refine wl9 ?_; apply wp_allocA (o := ⟨some 4, _, _, _, _, _⟩) hS 52 rfl (List.replicate 64 0) 64 List.length_replicate za52; clear hS; intro g4 w hS; refine put_move ?_; go_step)) | ((with_reducible refine gs9 8 ?_); (refine wl9 ?_; apply wp_alloc (o := ⟨some 8, _, _, _, _, _⟩) hS 69 rfl (.agg #[.int .i64 0, .int .i64 0, .int .i64 0]) [.int .i64 0, .int .i64 0, .int .i64 0] (fun w => Tryd.zeroValue69 w) rfl; clear hS; intro g8 w hS; refine put_move ?_; go_step)) | ((with_reducible refine gt9 _ (.store 69 _ _) ?_); (refine wl9 ?_; apply wp_storeG hS 69 _ _ rfl _ rfl 3 (row_of rfl) _ _; (case hp => exact pl9); (case hy => rfl); (case hn => rfl); (case hn' => rfl); (case hv => rfl); (case hd => exact rfl); clear hS; intro w hS)) | ((with_reducible refine gt9 _ (.store 52 _ _) ?_); (refine wl9 ?_; apply wp_storeA hS 52 _ _ rfl _ rfl 64 (row_of rfl) _ _; (case hp => exact pl9); (case hy => rfl); (case hm => (repeat (first | assumption | exact Len.rep | apply Len.set | ((with_reducible show Len (_ :: _) _); exact rfl)))); (case hd => exact rfl); clear hS; intro w hS)) | ((fail_if_success with_reducible refine ga9 ?_); go_step))
  refine ret_all (xs := [_, _, _]) rfl (.cons (OneRes.arr hS rfl (row_of (n := 64) rfl) pl9) (.cons (OneRes.tmp rfl) (.cons (OneRes.tmp rfl) (.nil)))) (by simp) rfl ?_
  exact from_no er HF.out hS sb9
 subst he
 have HN := hid hn
 obtain ⟨F, hF⟩ : ∃ F, okFirst before (t0, t1, t2) = F := ⟨_, rfl⟩
 by_cases hB : okB t1 t2 = true
 case neg =>
  have hB2 : okB t1 t2 = false := by simpa using hB
  have HF : Hid (frm Z.next before s0 = (4, nought0, [], s1)) := hid (by
   have : okFirst before (t0, t1, t2) = false := by
    unfold okFirst; dsimp only
    rw [show (decide (0 ≤ t1 ∧ t1 ≤ 12) && decide (0 ≤ t2 ∧ t2 < 2 ^ t1.toNat)) = false from hB2]; rfl
   unfold frm; rw [hn]
   rw [if_neg (by simp), if_pos this]; rfl)
  clear hn hF hB
  go_enter Tryd.func49, Tryd.ntmps49
  repeat' (first
   | ((with_reducible refine gs9 19 ?_); refine wl9 ?_; refine wp_callI rfl (.iface Z.tid Z.ptr) rfl [.bool true] rfl Z.f #[Z.ptr, .bool true] (Z.inv true) (Z.call _ _ _ s0 true _ _ _ _ _ hS pl9 HN.out) ?_; clear hS; rintro e w ⟨rfl, hS⟩; refine ⟨_, rfl, ?_⟩; refine put_move ?_; go_step) | ((with_reducible refine gs9 37 ?_); refine wpl_call (f := 71) Tryd.call71 kr9 ?_; refine ⟨_, (back_no t1 t2 _ hB2), ?_⟩; rintro e w' ⟨rfl, rfl⟩; refine ⟨_, rfl, ?_⟩; refine put_move ?_; go_step) | ((with_reducible refine gs9 57 ?_); refine wl9 ?_; refine wp_callV (f := 70) rfl rfl Tryd.call70 (none_any _ _) ?_; rintro e w ⟨rfl, hE⟩; replace hS := hS.ext hE; clear hE; refine ⟨_, rfl, ?_⟩; refine put_move ?_; go_step) | go_skip | (refine y91 ?_) | (refine y9138 ?_) | ((with_reducible refine gs9 41 ?_); (refine wplD _ (V.neq rfl rfl) kr9 (fun hB => ?_) (fun hB => ?_) <;> (try (have hF : False := (by omega); cases hF)) <;> go_step)) | (refine y9104 ?_) | (refine y990 ?_) | (refine y9110 ?_) | (refine y9111 ?_) | ((with_reducible refine gs9 4 ?_); (refine wl9 ?_; apply wp_allocA (o := ⟨some 4, _, _, _, _, _⟩) hS 52 rfl (List.replicate 64 0) 64 List.length_replicate za52; clear hS; intro g4 w hS; refine put_move ?_; go_step)) | ((with_reducible refine gs9 8 ?_); (refine wl9 ?_; apply wp_alloc (o := ⟨some 8, _, _, _, _, _⟩) hS 69 rfl (.agg #[.int .i64 0, .int .i64 0, .int .i64 0]) [.int .i64 0, .int .i64 0, .int .i64 0] (fun w => Tryd.zeroValue69 w) rfl; clear hS; intro g8 w hS; refine put_move ?_; go_step)) | ((with_reducible refine gt9 _ (.store 69 _ _) ?_); (refine wl9 ?_; apply wp_storeG hS 69 _ _ rfl _ rfl 3 (row_of rfl) _ _; (case hp => exact pl9); (case hy => rfl); (case hn => rfl); (case hn' => rfl); (case hv => rfl); (case hd => exact rfl); clear hS; intro w hS)) | ((with_reducible refine gt9 _ (.store 52 _ _) ?_); (refine wl9 ?_; apply wp_storeA hS 52 _ _ rfl _ rfl 64 (row_of rfl) _ _; (case hp => exact pl9); (case hy => rfl); (case hm => (repeat (first | assumption | exact Len.rep | apply Len.set | ((with_reducible show Len (_ :: _) _); exact rfl)))); (case hd => exact rfl); clear hS; intro w hS)) | (refine y9129 ?_) | ((with_reducible refine gs9 31 ?_); (refine wl9 ?_; apply wp_buildSlice1 (o := ⟨some 31, _, _, _, _, _⟩) hS 100 1 _ rfl 69 3 24 el100 _ _; (case hvs => (repeat (first | exact Parts.nil | (apply Parts.agg; (rfl); (rfl)) | (apply Parts.one; exact isv9; (rfl); (rfl))))); (case hn => rfl); (case hn0 => decide); (case hns => decide); clear hS; intro g31 w hS; simp only [List.cons_append, List.nil_append] at hS; refine put_move ?_; go_step)) | (refine y9119 ?_) | ((fail_if_success with_reducible refine ga9 ?_); go_step))
  all_goals (try (have hF : False := (by omega); cases hF))
  refine ret_all (xs := [_, _, _]) rfl (.cons (OneRes.arr hS rfl (row_of (n := 64) rfl) pl9) (.cons (OneRes.tmp rfl) (.cons (OneRes.tmp rfl) (.nil)))) (by simp) rfl ?_
  exact from_no 4 HF.out hS sb9
 obtain ⟨n, hnum⟩ : ∃ n, numT (t0, t1, t2) = n := ⟨_, rfl⟩
 have hnb := numT_bd t0 t1 t2 hB
 rw [hnum] at hnb
 obtain ⟨hn1, hn2, _⟩ := hnb
 have HNum : Hid (sback t1.toNat t2.toNat = n) := hid hnum
 obtain ⟨q, hq⟩ : ∃ q, isC (before + n) = q := ⟨_, rfl⟩
 have HQ := hid hq
 by_cases hok : t0 = t1 ∧ q = true
 case neg =>
  have HF : Hid (frm Z.next before s0 = (4, nought0, [], s1)) := hid (by
   have : okFirst before (t0, t1, t2) = false := by
    unfold okFirst; rw [hnum]; dsimp only
    by_cases h1 : t0 = t1
    · rw [show decide (-2047 ≤ before + n ∧ before + n ≤ 2047) = false from decide_eq_false (fun h => hok ⟨h1, by rw [← hq]; exact (isC_iff _).2 h⟩)]; simp
    · rw [decide_eq_false h1]; simp
   unfold frm; rw [hn]
   rw [if_neg (by simp), if_pos this]; rfl)
  clear hn hF hnum hq
  by_cases h1 : t0 = t1
  case pos =>
   obtain rfl : q = false := by cases q <;> simp_all
   clear hok
   go_enter Tryd.func49, Tryd.ntmps49
   repeat' (first
    | ((with_reducible refine gs9 19 ?_); refine wl9 ?_; refine wp_callI rfl (.iface Z.tid Z.ptr) rfl [.bool true] rfl Z.f #[Z.ptr, .bool true] (Z.inv true) (Z.call _ _ _ s0 true _ _ _ _ _ hS pl9 HN.out) ?_; clear hS; rintro e w ⟨rfl, hS⟩; refine ⟨_, rfl, ?_⟩; refine put_move ?_; go_step) | ((with_reducible refine gs9 37 ?_); refine wpl_call (f := 71) Tryd.call71 kr9 ?_; refine ⟨_, (back_yes t1 t2 _ hB), ?_⟩; rintro e w' ⟨rfl, rfl⟩; rw [HNum.out]; refine ⟨_, rfl, ?_⟩; refine put_move ?_; go_step) | ((with_reducible refine gt9 _ (.call ⟨.value (.func 72), _, _⟩) ?_); refine wpl_call (f := 72) Tryd.call72 kr9 ?_; refine ⟨_, (isCoef_any (before + n) _), ?_⟩; rintro e w' ⟨rfl, rfl⟩; rw [HQ.out]; refine ⟨_, rfl, ?_⟩; refine put_move ?_; go_step) | ((with_reducible refine gs9 57 ?_); refine wl9 ?_; refine wp_callV (f := 70) rfl rfl Tryd.call70 (none_any _ _) ?_; rintro e w ⟨rfl, hE⟩; replace hS := hS.ext hE; clear hE; refine ⟨_, rfl, ?_⟩; refine put_move ?_; go_step) | (refine y91 ?_) | (refine y9137 ?_) | ((with_reducible refine gs9 41 ?_); (refine wplD _ (V.neq rfl rfl) kr9 (fun hB => ?_) (fun hB => ?_) <;> (try (have hF : False := (by omega); cases hF)) <;> go_step)) | ((with_reducible refine gs9 47 ?_); (refine wplD _ (V.neq rfl rfl) kr9 (fun hB => ?_) (fun hB => ?_) <;> (try (have hF : False := (by omega); cases hF)) <;> go_step)) | (refine y9104 ?_) | (refine y990 ?_) | (refine y9110 ?_) | (refine y9111 ?_) | (refine y9109 ?_) | (refine y983 ?_) | (refine y9143 ?_) | ((with_reducible refine gs9 4 ?_); (refine wl9 ?_; apply wp_allocA (o := ⟨some 4, _, _, _, _, _⟩) hS 52 rfl (List.replicate 64 0) 64 List.length_replicate za52; clear hS; intro g4 w hS; refine put_move ?_; go_step)) | ((with_reducible refine gs9 8 ?_); (refine wl9 ?_; apply wp_alloc (o := ⟨some 8, _, _, _, _, _⟩) hS 69 rfl (.agg #[.int .i64 0, .int .i64 0, .int .i64 0]) [.int .i64 0, .int .i64 0, .int .i64 0] (fun w => Tryd.zeroValue69 w) rfl; clear hS; intro g8 w hS; refine put_move ?_; go_step)) | ((with_reducible refine gt9 _ (.store 69 _ _) ?_); (refine wl9 ?_; apply wp_storeG hS 69 _ _ rfl _ rfl 3 (row_of rfl) _ _; (case hp => exact pl9); (case hy => rfl); (case hn => rfl); (case hn' => rfl); (case hv => rfl); (case hd => exact rfl); clear hS; intro w hS)) | ((with_reducible refine gt9 _ (.store 52 _ _) ?_); (refine wl9 ?_; apply wp_storeA hS 52 _ _ rfl _ rfl 64 (row_of rfl) _ _; (case hp => exact pl9); (case hy => rfl); (case hm => (repeat (first | assumption | exact Len.rep | apply Len.set | ((with_reducible show Len (_ :: _) _); exact rfl)))); (case hd => exact rfl); clear hS; intro w hS)) | (refine y9129 ?_) | ((with_reducible refine gs9 31 ?_); (refine wl9 ?_; apply wp_buildSlice1 (o := ⟨some 31, _, _, _, _, _⟩) hS 100 1 _ rfl 69 3 24 el100 _ _; (case hvs => (repeat (first | exact Parts.nil | (apply Parts.agg; (rfl); (rfl)) | (apply Parts.one; exact isv9; (rfl); (rfl))))); (case hn => rfl); (case hn0 => decide); (case hns => decide); clear hS; intro g31 w hS; simp only [List.cons_append, List.nil_append] at hS; refine put_move ?_; go_step)) | (refine y9119 ?_) | ((fail_if_success with_reducible refine ga9 ?_); go_step))
   all_goals (try (have hF : False := (by omega); cases hF))
   refine ret_all (xs := [_, _, _]) rfl (.cons (OneRes.arr hS rfl (row_of (n := 64) rfl) pl9) (.cons (OneRes.tmp rfl) (.cons (OneRes.tmp rfl) (.nil)))) (by simp) rfl ?_
   exact from_no 4 HF.out hS sb9
  case neg =>
   clear hok
   go_enter Tryd.func49, Tryd.ntmps49
   repeat' (first
    | ((with_reducible refine gs9 19 ?_); refine wl9 ?_; refine wp_callI rfl (.iface Z.tid Z.ptr) rfl [.bool true] rfl Z.f #[Z.ptr, .bool true] (Z.inv true) (Z.call _ _ _ s0 true _ _ _ _ _ hS pl9 HN.out) ?_; clear hS; rintro e w ⟨rfl, hS⟩; refine ⟨_, rfl, ?_⟩; refine put_move ?_; go_step) | ((with_reducible refine gs9 37 ?_); refine wpl_call (f := 71) Tryd.call71 kr9 ?_; refine ⟨_, (back_yes t1 t2 _ hB), ?_⟩; rintro e w' ⟨rfl, rfl⟩; rw [HNum.out]; refine ⟨_, rfl, ?_⟩; refine put_move ?_; go_step) | ((with_reducible refine gs9 57 ?_); refine wl9 ?_; refine wp_callV (f := 70) rfl rfl Tryd.call70 (none_any _ _) ?_; rintro e w ⟨rfl, hE⟩; replace hS := hS.ext hE; clear hE; refine ⟨_, rfl, ?_⟩; refine put_move ?_; go_step) | go_skip | (refine y91 ?_) | (refine y9139 ?_) | ((with_reducible refine gs9 41 ?_); (refine wplD _ (V.neq rfl rfl) kr9 (fun hB => ?_) (fun hB => ?_) <;> (try (have hF : False := (by omega); cases hF)) <;> go_step)) | ((with_reducible refine gs9 47 ?_); (refine wplD _ (V.neq rfl rfl) kr9 (fun hB => ?_) (fun hB => ?_) <;> (try (have hF : False := (by omega); cases hF)) <;> go_step)) | (refine y9104 ?_) | (refine y990 ?_) | (refine y9110 ?_) | (refine y9111 ?_) | (refine y9109 ?_) | ((with_reducible refine gs9 4 ?_); (refine wl9 ?_; apply wp_allocA (o := ⟨some 4, _, _, _, _, _⟩) hS 52 rfl (List.replicate 64 0) 64 List.length_replicate za52; clear hS; intro g4 w hS; refine put_move ?_; go_step)) | ((with_reducible refine gs9 8 ?_); (refine wl9 ?_; apply wp_alloc (o := ⟨some 8, _, _, _, _, _⟩) hS 69 rfl (.agg #[.int .i64 0, .int .i64 0, .int .i64 0]) [.int .i64 0, .int .i64 0, .int .i64 0] (fun w => Tryd.zeroValue69 w) rfl; clear hS; intro g8 w hS; refine put_move ?_; go_step)) | ((with_reducible refine gt9 _ (.store 69 _ _) ?_); (refine wl9 ?_; apply wp_storeG hS 69 _ _ rfl _ rfl 3 (row_of rfl) _ _; (case hp => exact pl9); (case hy => rfl); (case hn => rfl); (case hn' => rfl); (case hv => rfl); (case hd => exact rfl); clear hS; intro w hS)) | ((with_reducible refine gt9 _ (.store 52 _ _) ?_); (refine wl9 ?_; apply wp_storeA hS 52 _ _ rfl _ rfl 64 (row_of rfl) _ _; (case hp => exact pl9); (case hy => rfl); (case hm => (repeat (first | assumption | exact Len.rep | apply Len.set | ((with_reducible show Len (_ :: _) _); exact rfl)))); (case hd => exact rfl); clear hS; intro w hS)) | (refine y9129 ?_) | ((with_reducible refine gs9 31 ?_); (refine wl9 ?_; apply wp_buildSlice1 (o := ⟨some 31, _, _, _, _, _⟩) hS 100 1 _ rfl 69 3 24 el100 _ _; (case hvs => (repeat (first | exact Parts.nil | (apply Parts.agg; (rfl); (rfl)) | (apply Parts.one; exact isv9; (rfl); (rfl))))); (case hn => rfl); (case hn0 => decide); (case hns => decide); clear hS; intro g31 w hS; simp only [List.cons_append, List.nil_append] at hS; refine put_move ?_; go_step)) | (refine y9119 ?_) | ((fail_if_success with_reducible refine ga9 ?_); go_step))
   all_goals (try (have hF : False := (by omega); cases hF))
   refine ret_all (xs := [_, _, _]) rfl (.cons (OneRes.arr hS rfl (row_of (n := 64) rfl) pl9) (.cons (OneRes.tmp rfl) (.cons (OneRes.tmp rfl) (.nil)))) (by simp) rfl ?_
   exact from_no 4 HF.out hS sb9
 obtain ⟨rfl, rfl⟩ := hok
 have hco := (isC_iff _).1 hq
 have HFirst : Hid (okFirst before (t0, t0, t2) = true) := hid (by
  unfold okFirst; rw [hnum]; dsimp only
  rw [show (decide (0 ≤ t0 ∧ t0 ≤ 12) && decide (0 ≤ t2 ∧ t2 < 2 ^ t0.toNat)) = true from hB, decide_eq_true (rfl : t0 = t0), decide_eq_true hco]; rfl)
 exact absurd ⟨by rw [hn], by rw [hn]; exact HFirst.out⟩ hbad.out

end Go.Proofs.YtehbjhocgnfpmaaDoor
/- The walk of run.From, at any source of tokens. -/
namespace Go.Proofs.YtehbjhocgnfpmaaDoor
open Go.RowKit
set_option linter.unusedVariables false
set_option maxRecDepth 100000 in
set_option maxHeartbeats 40000000 in
theorem from_any {W : World} {σ : Type} (Z : Src W σ) (w0 : World) (rs rs' : List Res) (s0 : σ) (before : Int) (hb : -2047 ≤ before ∧ before ≤ 2047) (hS : St W w0 rs) (hp : Pull (Z.res s0) rs rs') :
 Calls Tryd.prog 49 #[.int .i64 before, .iface Z.tid Z.ptr] w0 (FromGives Z before s0 rs') := by
 by_cases hgood : (Z.next s0 true).2.1 = 0 ∧ okFirst before (Z.next s0 true).1 = true
 case neg => exact from_bad Z w0 rs rs' s0 before hb hS hp hgood
 replace hS := hS.pull hp
 have hZ0 : Len nought0 64 := List.length_replicate
 clear hp
 obtain ⟨⟨⟨t0, t1, t2⟩, er, s1⟩, hn⟩ : ∃ x, Z.next s0 true = x := ⟨_, rfl⟩
 rw [hn] at hgood
 obtain ⟨he, hfst⟩ := hgood
 dsimp only at he hfst
 subst he
 have hf2 := hfst
 unfold okFirst at hf2
 simp only [Bool.and_eq_true, decide_eq_true_eq] at hf2
 obtain ⟨⟨⟨q1, q2⟩, q3⟩, q4⟩ := hf2
 subst q3
 have hB : okB t0 t2 = true := by unfold okB; rw [decide_eq_true q1, decide_eq_true q2]; rfl
 obtain ⟨n, hnum⟩ : ∃ n, numT (t0, t0, t2) = n := ⟨_, rfl⟩
 have hnb := numT_bd t0 t0 t2 hB
 rw [hnum] at hnb
 obtain ⟨hn1, hn2, _⟩ := hnb
 have HNum : Hid (sback t0.toNat t2.toNat = n) := hid hnum
 rw [hnum] at q4
 have hco : -2047 ≤ before + n ∧ before + n ≤ 2047 := q4
 have HQ : Hid (isC (before + n) = true) := hid ((isC_iff _).2 hco)
 have HFirst : Hid (okFirst before (t0, t0, t2) = true) := hid hfst
 have HN := hid hn
 clear q1 q2 q4 hfst
 obtain ⟨R, hR⟩ : ∃ R, frLoop Z.next 64 1 (first0 (before + n)) [(t0, t0, t2)] s1 = R := ⟨_, rfl⟩
 have HF : Hid (frm Z.next before s0 = if R.1 ≠ 0 then (R.1, nought0, [], R.2.2.2) else if toksOf before R.2.1 = R.2.2.1 then (0, zfrom R.2.1, R.2.2.1, R.2.2.2) else (4, nought0, [], R.2.2.2)) := hid (by
  unfold frm; rw [hn]; dsimp only
  rw [if_neg (by simp), if_neg (by rw [HFirst.out]; simp), hnum, hR]; rfl)
 have HR := hid hR
 have hfl : Len (first0 (before + n)) 64 := Len.set Len.rep
 have HFb : Hid (∀ i, i < 64 → -2047 ≤ nth (first0 (before + n)) i ∧ nth (first0 (before + n)) i ≤ 2047) := hid fun i hi => by
  unfold first0
  rw [nth_set _ _ _ _ (by simp)]
  split
  · exact hco
  · rw [nth_zeros]; omega
 clear hn hnum hR hco
 go_enter Tryd.func49, Tryd.ntmps49
 repeat' (first
  | ((with_reducible refine gs9 19 ?_); refine wl9 ?_; refine wp_callI rfl (.iface Z.tid Z.ptr) rfl [.bool true] rfl Z.f #[Z.ptr, .bool true] (Z.inv true) (Z.call _ _ _ s0 true _ _ _ _ _ hS pl9 HN.out) ?_; clear hS; rintro e w ⟨rfl, hS⟩; refine ⟨_, rfl, ?_⟩; refine put_move ?_; go_step) | ((with_reducible refine gs9 37 ?_); refine wpl_call (f := 71) Tryd.call71 kr9 ?_; refine ⟨_, (back_yes t0 t2 _ hB), ?_⟩; rintro e w' ⟨rfl, rfl⟩; rw [HNum.out]; refine ⟨_, rfl, ?_⟩; refine put_move ?_; go_step) | ((with_reducible refine gt9 _ (.call ⟨.value (.func 72), _, _⟩) ?_); refine wpl_call (f := 72) Tryd.call72 kr9 ?_; refine ⟨_, (isCoef_any (before + n) _), ?_⟩; rintro e w' ⟨rfl, rfl⟩; rw [HQ.out]; refine ⟨_, rfl, ?_⟩; refine put_move ?_; go_step) | ((with_reducible refine gs9 31 ?_); (refine wl9 ?_; apply wp_buildSliceO (o := ⟨some 31, _, _, _, _, _⟩) hS 100 1 _ rfl 69 3 24 el100 _ _; (case hvs => (repeat (first | exact Parts.nil | (apply Parts.agg; (rfl); (rfl)) | (apply Parts.one; exact isv9; (rfl); (rfl))))); (case hn => rfl); (case hn0 => decide); (case hns => decide); clear hS; intro g31 w hS; simp only [List.cons_append, List.nil_append] at hS; refine put_move ?_; go_step)) | ((first | (with_reducible refine mv9 ?_) | (with_reducible refine as9 ?_)); (first | go_big_want | go_step); go_step) | ((with_reducible refine gt9 _ (.pick _ _ _) ?_); (refine wplPickF rfl kr9 ?_; go_step)) | ((with_reducible refine gs9 41 ?_); (refine wplD _ (V.neq rfl rfl) kr9 (fun hB => ?_) (fun hB => ?_) <;> (try (have hF : False := (by omega); cases hF)) <;> go_step)) | ((with_reducible refine gs9 47 ?_); (refine wplD _ (V.neq rfl rfl) kr9 (fun hB => ?_) (fun hB => ?_) <;> (try (have hF : False := (by omega); cases hF)) <;> go_step)) | ((with_reducible refine gt9 _ (.extract _ _) ?_); (refine wvv9 (V.extract rfl rfl) ?_; go_step)) | ((with_reducible refine gt9 _ (.binOp .neq 25 _ _ _) ?_); (refine wvv9 (V.neq rfl rfl) ?_; go_step)) | ((with_reducible refine gt9 _ (.fieldAddr 69 _ 1) ?_); (refine wvv9 (V.fieldAddr fo69_1 rfl nq9) ?_; go_step)) | ((with_reducible refine gt9 _ (.fieldAddr 69 _ 2) ?_); (refine wvv9 (V.fieldAddr fo69_2 rfl nq9) ?_; go_step)) | ((with_reducible refine gt9 _ (.fieldAddr 69 _ 0) ?_); (refine wvv9 (V.fieldAddr fo69_0 rfl nq9) ?_; go_step)) | ((with_reducible refine gt9 _ (.binOp .add _ _ _ _) ?_); (refine wvv9 (V.addI rfl rfl (by omega)) ?_; go_step)) | ((with_reducible refine gt9 _ (.unOp .not _ _) ?_); (refine wvv9 (V.not rfl) ?_; go_step)) | ((with_reducible refine gs9 64 ?_); (refine wvv9 (V.build (vs := [(0, _)]) rfl (bl52_0 _)) ?_; go_step)) | ((with_reducible refine gs9 4 ?_); (refine wl9 ?_; apply wp_allocA (o := ⟨some 4, _, _, _, _, _⟩) hS 52 rfl (List.replicate 64 0) 64 List.length_replicate za52; clear hS; intro g4 w hS; refine put_move ?_; go_step)) | ((with_reducible refine gs9 8 ?_); (refine wl9 ?_; apply wp_alloc (o := ⟨some 8, _, _, _, _, _⟩) hS 69 rfl (.agg #[.int .i64 0, .int .i64 0, .int .i64 0]) [.int .i64 0, .int .i64 0, .int .i64 0] (fun w => Tryd.zeroValue69 w) rfl; clear hS; intro g8 w hS; refine put_move ?_; go_step)) | ((with_reducible refine gt9 _ (.store 69 _ _) ?_); (refine wl9 ?_; apply wp_storeG hS 69 _ _ rfl _ rfl 3 (row_of rfl) _ _; (case hp => exact pl9); (case hy => rfl); (case hn => rfl); (case hn' => rfl); (case hv => rfl); (case hd => exact rfl); clear hS; intro w hS)) | ((with_reducible refine gt9 _ (.store 52 _ _) ?_); (refine wl9 ?_; apply wp_storeA hS 52 _ _ rfl _ rfl 64 (row_of rfl) _ _; (case hp => exact pl9); (case hy => rfl); (case hm => (repeat (first | assumption | exact Len.rep | apply Len.set | ((with_reducible show Len (_ :: _) _); exact rfl)))); (case hd => exact rfl); clear hS; intro w hS)) | ((with_reducible refine gt9 _ (.load 69 _) ?_); (refine wl9 ?_; apply wp_loadG hS 69 _ rfl _ rfl 3 (row_of rfl) _; (case hp => exact pl9); (case hn => rfl); refine put_move ?_; go_step)) | ((with_reducible refine gt9 _ (.load 3 _) ?_); (refine wl9 ?_; apply wp_load1 hS 3 _ rfl _ _ rfl (one_of rfl) _; (case hp => exact pl9); (case hc => rfl); refine put_move ?_; go_step)) | ((with_reducible refine gs9 12 ?_); (refine wl9 ?_; apply wp_allocA (o := ⟨some 12, _, _, _, _, _⟩) hS 52 rfl (List.replicate 64 0) 64 List.length_replicate za52; clear hS; intro g12 w hS; refine put_move ?_; go_step)) | ((fail_if_success with_reducible refine ga9 ?_); go_step))
 all_goals (try (have hF : False := (by omega); cases hF))
 replace hS := hS.sub (xs := arr g12 64 ((List.replicate 64 0).set 0 (before + n)) :: own 69 3 (some ⟨g31, 0, none⟩) 1 1 [.int .i64 t0, .int .i64 t0, .int .i64 t2] :: arr g4 64 (List.replicate 64 0) :: Z.res s1 :: rs') sb9
 go_loopg [10, 13] 64 (fun gk ov av w => ∃ (at_ m : Nat) (bl : List Int) (all : List Tok) (a' : Option Addr) (c' : Nat) (s : σ), 65 ≤ gk + at_ ∧ 1 ≤ at_ ∧ at_ ≤ 64 ∧ m ≤ at_ ∧ av = .int .i64 at_ ∧ ov = .slice a' m c' ∧ Hid (all.length = m) ∧ Len bl 64 ∧ Hid (∀ i, i < 64 → -2047 ≤ nth bl i ∧ nth bl i ≤ 2047) ∧ Hid (frLoop Z.next gk at_ bl all s = R) ∧
  St W w (arr g12 64 bl :: own 69 3 a' m c' ((flt all).map (Value.int .i64)) :: arr g4 64 (List.replicate 64 0) :: Z.res s :: rs'))
 case atStart => exact ⟨1, 1, first0 (before + n), [(t0, t0, t2)], _, _, s1, by omega, by omega, by omega, by omega, rfl, rfl, hid rfl, hfl, HFb, HR, hS⟩
 case round =>
  clear hS HFb hfl
  obtain ⟨at_, m, bl, all, a', c', s, hga, h1a, ha64, hma, rfl, rfl, HAl, hbl, HBl, HLo, hS⟩ := hrel
  by_cases hlt : at_ < 64
  · obtain ⟨gk', rfl⟩ : ∃ x, gk = x + 1 := ⟨gk - 1, by omega⟩
    obtain ⟨⟨⟨u0, u1, u2⟩, er, s2⟩, hn⟩ : ∃ x, Z.next s false = x := ⟨_, rfl⟩
    have hlo := HLo.out
    rw [frLoop, if_neg (by omega), hn] at hlo
    dsimp only at hlo
    have HN2 := hid hn
    clear hn HLo
    by_cases he : er = 0
    case neg =>
     rw [if_pos he] at hlo
     have HF2 : Hid (frm Z.next before s0 = (er, nought0, [], s2)) := hid (by rw [HF.out, ← hlo]; exact if_pos he)
     clear hlo
     repeat' (first
      | ((with_reducible refine gs9 69 ?_); refine wl9 ?_; refine wp_callI rfl (.iface Z.tid Z.ptr) rfl [.bool false] rfl Z.f #[Z.ptr, .bool false] (Z.inv false) (Z.call _ _ _ s false _ _ _ _ _ hS pl9 HN2.out) ?_; clear hS; rintro e w ⟨rfl, hS⟩; refine ⟨_, rfl, ?_⟩; refine put_move ?_; go_step) | ((first | (with_reducible refine mv9 ?_) | (with_reducible refine as9 ?_)); (first | go_big_want | go_step); go_step) | ((with_reducible refine gs9 66 ?_); (refine wvv9 (V.lss rfl rfl) ?_; go_step)) | ((with_reducible refine gs9 70 ?_); (refine wvv9 (V.extract rfl rfl) ?_; go_step)) | ((with_reducible refine gs9 71 ?_); (refine wvv9 (V.extract rfl rfl) ?_; go_step)) | ((with_reducible refine gs9 14 ?_); (refine wl9 ?_; apply wp_alloc (o := ⟨some 14, _, _, _, _, _⟩) hS 69 rfl (.agg #[.int .i64 0, .int .i64 0, .int .i64 0]) [.int .i64 0, .int .i64 0, .int .i64 0] (fun w => Tryd.zeroValue69 w) rfl; clear hS; intro g14 w hS; refine put_move ?_; go_step)) | ((with_reducible refine gt9 _ (.store 69 _ _) ?_); (refine wl9 ?_; apply wp_storeG hS 69 _ _ rfl _ rfl 3 (row_of rfl) _ _; (case hp => exact pl9); (case hy => rfl); (case hn => rfl); (case hn' => rfl); (case hv => rfl); (case hd => exact rfl); clear hS; intro w hS)) | ((fail_if_success with_reducible refine ga9 ?_); go_step))
     all_goals (try (have hF : False := (by omega); cases hF))
     repeat' (first
      | ((with_reducible refine gs9 76 ?_); refine wl9 ?_; refine wp_callV (f := 70) rfl rfl Tryd.call70 (none_any _ _) ?_; rintro e w ⟨rfl, hE⟩; replace hS := hS.ext hE; clear hE; refine ⟨_, rfl, ?_⟩; refine put_move ?_; go_step) | ((first | (with_reducible refine mv9 ?_) | (with_reducible refine as9 ?_)); (first | go_big_want | go_step); go_step) | ((with_reducible refine gs9 73 ?_); (refine wvv9 (V.neq rfl rfl) ?_; go_step)) | ((with_reducible refine gs9 77 ?_); (refine wvv9 (V.extract rfl rfl) ?_; go_step)) | ((with_reducible refine gs9 78 ?_); (refine wvv9 (V.extract rfl rfl) ?_; go_step)) | ((with_reducible refine gs9 79 ?_); (refine wvv9 (V.extract rfl rfl) ?_; go_step)) | ((with_reducible refine gt9 _ (.store 52 _ _) ?_); (refine wl9 ?_; apply wp_storeA hS 52 _ _ rfl _ rfl 64 (row_of rfl) _ _; (case hp => exact pl9); (case hy => rfl); (case hm => (repeat (first | assumption | exact Len.rep | apply Len.set | ((with_reducible show Len (_ :: _) _); exact rfl)))); (case hd => exact rfl); clear hS; intro w hS)) | ((fail_if_success with_reducible refine ga9 ?_); go_step))
     refine ret_all (xs := [_, _, _]) rfl (.cons (OneRes.arr hS rfl (row_of (n := 64) rfl) pl9) (.cons (OneRes.tmp rfl) (.cons (OneRes.tmp rfl) (.nil)))) (by simp) rfl ?_
     exact from_no er HF2.out hS sb9
    subst he
    rw [if_neg (by simp)] at hlo
    obtain ⟨bd, hbd⟩ : ∃ b, badT (u0, u1, u2) = b := ⟨_, rfl⟩
    have hiff := badT_eq u0 u1 u2
    rw [hbd] at hiff hlo
    have HFl := hid (flt_snoc all (u0, u1, u2))
    dsimp only at HFl
    cases bd
    case true =>
     rw [if_pos rfl] at hlo
     have HF2 : Hid (frm Z.next before s0 = (4, nought0, [], s2)) := hid (by rw [HF.out, ← hlo]; exact if_pos (show (4 : Int) ≠ 0 by decide))
     have hor := hiff.1 rfl
     clear hlo hiff hbd
     by_cases hB2 : okB u1 u2 = true
     case neg =>
      have hB3 : okB u1 u2 = false := by simpa using hB2
      clear hor hB2
      repeat' (first
       | ((with_reducible refine gs9 69 ?_); refine wl9 ?_; refine wp_callI rfl (.iface Z.tid Z.ptr) rfl [.bool false] rfl Z.f #[Z.ptr, .bool false] (Z.inv false) (Z.call _ _ _ s false _ _ _ _ _ hS pl9 HN2.out) ?_; clear hS; rintro e w ⟨rfl, hS⟩; refine ⟨_, rfl, ?_⟩; refine put_move ?_; go_step) | ((first | (with_reducible refine mv9 ?_) | (with_reducible refine as9 ?_)); (first | go_big_want | go_step); go_step) | ((with_reducible refine gs9 66 ?_); (refine wvv9 (V.lss rfl rfl) ?_; go_step)) | ((with_reducible refine gs9 70 ?_); (refine wvv9 (V.extract rfl rfl) ?_; go_step)) | ((with_reducible refine gs9 71 ?_); (refine wvv9 (V.extract rfl rfl) ?_; go_step)) | ((with_reducible refine gs9 14 ?_); (refine wl9 ?_; apply wp_alloc (o := ⟨some 14, _, _, _, _, _⟩) hS 69 rfl (.agg #[.int .i64 0, .int .i64 0, .int .i64 0]) [.int .i64 0, .int .i64 0, .int .i64 0] (fun w => Tryd.zeroValue69 w) rfl; clear hS; intro g14 w hS; refine put_move ?_; go_step)) | ((with_reducible refine gt9 _ (.store 69 _ _) ?_); (refine wl9 ?_; apply wp_storeG hS 69 _ _ rfl _ rfl 3 (row_of rfl) _ _; (case hp => exact pl9); (case hy => rfl); (case hn => rfl); (case hn' => rfl); (case hv => rfl); (case hd => exact rfl); clear hS; intro w hS)) | ((fail_if_success with_reducible refine ga9 ?_); go_step))
      all_goals (try (have hF : False := (by omega); cases hF))
      repeat' (first
       | ((with_reducible refine gs9 89 ?_); refine wpl_call (f := 71) Tryd.call71 kr9 ?_; refine ⟨_, (back_no u1 u2 _ hB3), ?_⟩; rintro e w' ⟨rfl, rfl⟩; refine ⟨_, rfl, ?_⟩; refine put_move ?_; go_step) | ((first | (with_reducible refine mv9 ?_) | (with_reducible refine as9 ?_)); (first | go_big_want | go_step); go_step) | ((with_reducible refine gs9 73 ?_); (refine wvv9 (V.neq rfl rfl) ?_; go_step)) | ((with_reducible refine gs9 85 ?_); (refine wvv9 (V.fieldAddr fo69_1 rfl nq9) ?_; go_step)) | ((with_reducible refine gs9 87 ?_); (refine wvv9 (V.fieldAddr fo69_2 rfl nq9) ?_; go_step)) | ((with_reducible refine gs9 90 ?_); (refine wvv9 (V.extract rfl rfl) ?_; go_step)) | ((with_reducible refine gs9 91 ?_); (refine wvv9 (V.extract rfl rfl) ?_; go_step)) | ((with_reducible refine gt9 _ (.load 69 _) ?_); (refine wl9 ?_; apply wp_loadG hS 69 _ rfl _ rfl 3 (row_of rfl) _; (case hp => exact pl9); (case hn => rfl); refine put_move ?_; go_step)) | ((with_reducible refine gs9 82 ?_); (refine wl9 ?_; apply wp_buildSlice1 (o := ⟨some 82, _, _, _, _, _⟩) hS 100 1 _ rfl 69 3 24 el100 _ _; (case hvs => (repeat (first | exact Parts.nil | (apply Parts.agg; (rfl); (rfl)) | (apply Parts.one; exact isv9; (rfl); (rfl))))); (case hn => rfl); (case hn0 => decide); (case hns => decide); clear hS; intro g82 w hS; simp only [List.cons_append, List.nil_append] at hS; refine put_move ?_; go_step)) | ((with_reducible refine gs9 83 ?_); (refine wl9 ?_; apply wp_append (o := ⟨some 83, _, _, _, _, _⟩) hS _ _ 100 rfl 69 3 24 el100 _ _ _ _ rfl; (case hp => exact pl9); (case hx => exact rfl); (case hm => (first | exact hS.slBlk pl9 (by rfl) (by decide) | exact hS.sl pl9 | with_reducible assumption | exact Sl.ext (by with_reducible assumption) hS.1 | exact Sl.nil _ _ | exact Sl.ext (by assumption) hS.1 | assumption)); (case h1 => (first | exact oneAll rfl | exact oneMap _ _ | (intro u hu; cases hu))); (case h63 => unfold maxLen; omega); (case hb => omega); clear hS; intro ad83 c83 w hS; (first | simp only [mapk1] at hS | simp only [mapk2] at hS | simp only [mapk3] at hS | simp only [mapk4] at hS | simp only [mapkl] at hS | skip); refine put_move ?_; go_step)) | ((with_reducible refine gt9 _ (.load 3 _) ?_); (refine wl9 ?_; apply wp_load1 hS 3 _ rfl _ _ rfl (one_of rfl) _; (case hp => exact pl9); (case hc => rfl); refine put_move ?_; go_step)) | ((fail_if_success with_reducible refine ga9 ?_); go_step))
      all_goals (try (have hF : False := (by omega); cases hF))
      repeat' (first
       | ((with_reducible refine gs9 133 ?_); refine wl9 ?_; refine wp_callV (f := 70) rfl rfl Tryd.call70 (none_any _ _) ?_; rintro e w ⟨rfl, hE⟩; replace hS := hS.ext hE; clear hE; refine ⟨_, rfl, ?_⟩; refine put_move ?_; go_step) | go_big_skip | ((first | (with_reducible refine mv9 ?_) | (with_reducible refine as9 ?_)); (first | go_big_want | go_step); go_step) | ((with_reducible refine gt9 _ (.pick _ _ _) ?_); (refine wplPickT rfl kr9 ?_; go_step)) | ((with_reducible refine gs9 93 ?_); (refine wplD _ (V.neq rfl rfl) kr9 (fun hB => ?_) (fun hB => ?_) <;> (try (have hF : False := (by omega); cases hF)) <;> go_step)) | ((with_reducible refine gs9 134 ?_); (refine wvv9 (V.extract rfl rfl) ?_; go_step)) | ((with_reducible refine gs9 135 ?_); (refine wvv9 (V.extract rfl rfl) ?_; go_step)) | ((with_reducible refine gs9 136 ?_); (refine wvv9 (V.extract rfl rfl) ?_; go_step)) | ((with_reducible refine gt9 _ (.store 52 _ _) ?_); (refine wl9 ?_; apply wp_storeA hS 52 _ _ rfl _ rfl 64 (row_of rfl) _ _; (case hp => exact pl9); (case hy => rfl); (case hm => (repeat (first | assumption | exact Len.rep | apply Len.set | ((with_reducible show Len (_ :: _) _); exact rfl)))); (case hd => exact rfl); clear hS; intro w hS)) | ((fail_if_success with_reducible refine ga9 ?_); go_step))
      all_goals (try (have hF : False := (by omega); cases hF))
      all_goals
       refine ret_all (xs := [_, _, _]) rfl (.cons (OneRes.arr hS rfl (row_of (n := 64) rfl) pl9) (.cons (OneRes.tmp rfl) (.cons (OneRes.tmp rfl) (.nil)))) (by simp) rfl ?_
       exact from_no 4 HF2.out hS sb9
     have hor2 : 11 < u1 ∨ u0 < 0 ∨ 255 < u0 ∨ u1 ≠ u0 % 16 ∨ (u1 = 0 ∧ u0 ≠ 0 ∧ u0 ≠ 240) := by
      rcases hor with h | h
      · rw [hB2] at h; cases h
      · exact h
     clear hor
     obtain ⟨n2, hn2⟩ : ∃ x, sback u1.toNat u2.toNat = x := ⟨_, rfl⟩
     have HNb := hid hn2
     clear hn2
     by_cases hr : 0 ≤ u0 ∧ u0 ≤ 255
     case pos =>
      have HAnd := hid (and15 u0 hr)
      have hor3 : 11 < u1 ∨ u1 ≠ u0 % 16 ∨ (u1 = 0 ∧ u0 ≠ 0 ∧ u0 ≠ 240) := by omega
      clear hor2
      repeat' (first
       | ((with_reducible refine gs9 69 ?_); refine wl9 ?_; refine wp_callI rfl (.iface Z.tid Z.ptr) rfl [.bool false] rfl Z.f #[Z.ptr, .bool false] (Z.inv false) (Z.call _ _ _ s false _ _ _ _ _ hS pl9 HN2.out) ?_; clear hS; rintro e w ⟨rfl, hS⟩; refine ⟨_, rfl, ?_⟩; refine put_move ?_; go_step) | ((first | (with_reducible refine mv9 ?_) | (with_reducible refine as9 ?_)); (first | go_big_want | go_step); go_step) | ((with_reducible refine gs9 66 ?_); (refine wvv9 (V.lss rfl rfl) ?_; go_step)) | ((with_reducible refine gs9 70 ?_); (refine wvv9 (V.extract rfl rfl) ?_; go_step)) | ((with_reducible refine gs9 71 ?_); (refine wvv9 (V.extract rfl rfl) ?_; go_step)) | ((with_reducible refine gs9 14 ?_); (refine wl9 ?_; apply wp_alloc (o := ⟨some 14, _, _, _, _, _⟩) hS 69 rfl (.agg #[.int .i64 0, .int .i64 0, .int .i64 0]) [.int .i64 0, .int .i64 0, .int .i64 0] (fun w => Tryd.zeroValue69 w) rfl; clear hS; intro g14 w hS; refine put_move ?_; go_step)) | ((with_reducible refine gt9 _ (.store 69 _ _) ?_); (refine wl9 ?_; apply wp_storeG hS 69 _ _ rfl _ rfl 3 (row_of rfl) _ _; (case hp => exact pl9); (case hy => rfl); (case hn => rfl); (case hn' => rfl); (case hv => rfl); (case hd => exact rfl); clear hS; intro w hS)) | ((fail_if_success with_reducible refine ga9 ?_); go_step))
      all_goals (try (have hF : False := (by omega); cases hF))
      repeat' (first
       | ((with_reducible refine gs9 89 ?_); refine wpl_call (f := 71) Tryd.call71 kr9 ?_; refine ⟨_, (back_yes u1 u2 _ hB2), ?_⟩; rintro e w' ⟨rfl, rfl⟩; rw [HNb.out]; refine ⟨_, rfl, ?_⟩; refine put_move ?_; go_step) | ((first | (with_reducible refine mv9 ?_) | (with_reducible refine as9 ?_)); (first | go_big_want | go_step); go_step) | ((with_reducible refine gs9 73 ?_); (refine wvv9 (V.neq rfl rfl) ?_; go_step)) | ((with_reducible refine gs9 85 ?_); (refine wvv9 (V.fieldAddr fo69_1 rfl nq9) ?_; go_step)) | ((with_reducible refine gs9 87 ?_); (refine wvv9 (V.fieldAddr fo69_2 rfl nq9) ?_; go_step)) | ((with_reducible refine gs9 90 ?_); (refine wvv9 (V.extract rfl rfl) ?_; go_step)) | ((with_reducible refine gs9 91 ?_); (refine wvv9 (V.extract rfl rfl) ?_; go_step)) | ((with_reducible refine gt9 _ (.load 69 _) ?_); (refine wl9 ?_; apply wp_loadG hS 69 _ rfl _ rfl 3 (row_of rfl) _; (case hp => exact pl9); (case hn => rfl); refine put_move ?_; go_step)) | ((with_reducible refine gs9 82 ?_); (refine wl9 ?_; apply wp_buildSlice1 (o := ⟨some 82, _, _, _, _, _⟩) hS 100 1 _ rfl 69 3 24 el100 _ _; (case hvs => (repeat (first | exact Parts.nil | (apply Parts.agg; (rfl); (rfl)) | (apply Parts.one; exact isv9; (rfl); (rfl))))); (case hn => rfl); (case hn0 => decide); (case hns => decide); clear hS; intro g82 w hS; simp only [List.cons_append, List.nil_append] at hS; refine put_move ?_; go_step)) | ((with_reducible refine gs9 83 ?_); (refine wl9 ?_; apply wp_append (o := ⟨some 83, _, _, _, _, _⟩) hS _ _ 100 rfl 69 3 24 el100 _ _ _ _ rfl; (case hp => exact pl9); (case hx => exact rfl); (case hm => (first | exact hS.slBlk pl9 (by rfl) (by decide) | exact hS.sl pl9 | with_reducible assumption | exact Sl.ext (by with_reducible assumption) hS.1 | exact Sl.nil _ _ | exact Sl.ext (by assumption) hS.1 | assumption)); (case h1 => (first | exact oneAll rfl | exact oneMap _ _ | (intro u hu; cases hu))); (case h63 => unfold maxLen; omega); (case hb => omega); clear hS; intro ad83 c83 w hS; (first | simp only [mapk1] at hS | simp only [mapk2] at hS | simp only [mapk3] at hS | simp only [mapk4] at hS | simp only [mapkl] at hS | skip); refine put_move ?_; go_step)) | ((with_reducible refine gt9 _ (.load 3 _) ?_); (refine wl9 ?_; apply wp_load1 hS 3 _ rfl _ _ rfl (one_of rfl) _; (case hp => exact pl9); (case hc => rfl); refine put_move ?_; go_step)) | ((fail_if_success with_reducible refine ga9 ?_); go_step))
      all_goals (try (have hF : False := (by omega); cases hF))
      repeat' (first
       | ((with_reducible refine gs9 99 ?_); (refine wplV (.int _ ((u0 % 16))) (V.as (V.and rfl rfl) (by exact HAnd.out)) rfl ?_; go_step)) | ((with_reducible refine gs9 133 ?_); refine wl9 ?_; refine wp_callV (f := 70) rfl rfl Tryd.call70 (none_any _ _) ?_; rintro e w ⟨rfl, hE⟩; replace hS := hS.ext hE; clear hE; refine ⟨_, rfl, ?_⟩; refine put_move ?_; go_step) | go_big_skip | ((first | (with_reducible refine mv9 ?_) | (with_reducible refine as9 ?_)); (first | go_big_want | go_step); go_step) | ((with_reducible refine gt9 _ (.pick _ _ _) ?_); first | (refine wplPickT rfl kr9 ?_; go_step) | (refine wplPickF rfl kr9 ?_; go_step)) | ((with_reducible refine gs9 93 ?_); (refine wplD _ (V.neq rfl rfl) kr9 (fun hB => ?_) (fun hB => ?_) <;> (try (have hF : False := (by omega); cases hF)) <;> go_step)) | ((with_reducible refine gs9 100 ?_); (refine wplD _ (V.neq rfl rfl) kr9 (fun hB => ?_) (fun hB => ?_) <;> (try (have hF : False := (by omega); cases hF)) <;> go_step)) | ((with_reducible refine gs9 105 ?_); (refine wplD _ (V.gtr rfl rfl) kr9 (fun hB => ?_) (fun hB => ?_) <;> (try (have hF : False := (by omega); cases hF)) <;> go_step)) | ((with_reducible refine gs9 110 ?_); (refine wplD _ (V.lss rfl rfl) kr9 (fun hB => ?_) (fun hB => ?_) <;> (try (have hF : False := (by omega); cases hF)) <;> go_step)) | ((with_reducible refine gs9 115 ?_); (refine wplD _ (V.gtr rfl rfl) kr9 (fun hB => ?_) (fun hB => ?_) <;> (try (have hF : False := (by omega); cases hF)) <;> go_step)) | ((with_reducible refine gs9 120 ?_); (refine wplD _ (V.eql rfl rfl) kr9 (fun hB => ?_) (fun hB => ?_) <;> (try (have hF : False := (by omega); cases hF)) <;> go_step)) | ((with_reducible refine gs9 124 ?_); (refine wplD _ (V.neq rfl rfl) kr9 (fun hB => ?_) (fun hB => ?_) <;> (try (have hF : False := (by omega); cases hF)) <;> go_step)) | ((with_reducible refine gs9 95 ?_); (refine wvv9 (V.fieldAddr fo69_1 rfl nq9) ?_; go_step)) | ((with_reducible refine gs9 97 ?_); (refine wvv9 (V.fieldAddr fo69_0 rfl nq9) ?_; go_step)) | ((with_reducible refine gs9 103 ?_); (refine wvv9 (V.fieldAddr fo69_1 rfl nq9) ?_; go_step)) | ((with_reducible refine gs9 108 ?_); (refine wvv9 (V.fieldAddr fo69_0 rfl nq9) ?_; go_step)) | ((with_reducible refine gs9 113 ?_); (refine wvv9 (V.fieldAddr fo69_0 rfl nq9) ?_; go_step)) | ((with_reducible refine gs9 118 ?_); (refine wvv9 (V.fieldAddr fo69_1 rfl nq9) ?_; go_step)) | ((with_reducible refine gs9 122 ?_); (refine wvv9 (V.fieldAddr fo69_0 rfl nq9) ?_; go_step)) | ((with_reducible refine gs9 127 ?_); (refine wvv9 (V.fieldAddr fo69_0 rfl nq9) ?_; go_step)) | ((with_reducible refine gs9 129 ?_); (refine wvv9 (V.neq rfl rfl) ?_; go_step)) | ((with_reducible refine gs9 134 ?_); (refine wvv9 (V.extract rfl rfl) ?_; go_step)) | ((with_reducible refine gs9 135 ?_); (refine wvv9 (V.extract rfl rfl) ?_; go_step)) | ((with_reducible refine gs9 136 ?_); (refine wvv9 (V.extract rfl rfl) ?_; go_step)) | ((with_reducible refine gt9 _ (.load 3 _) ?_); (refine wl9 ?_; apply wp_load1 hS 3 _ rfl _ _ rfl (one_of rfl) _; (case hp => exact pl9); (case hc => rfl); refine put_move ?_; go_step)) | ((with_reducible refine gt9 _ (.store 52 _ _) ?_); (refine wl9 ?_; apply wp_storeA hS 52 _ _ rfl _ rfl 64 (row_of rfl) _ _; (case hp => exact pl9); (case hy => rfl); (case hm => (repeat (first | assumption | exact Len.rep | apply Len.set | ((with_reducible show Len (_ :: _) _); exact rfl)))); (case hd => exact rfl); clear hS; intro w hS)) | ((fail_if_success with_reducible refine ga9 ?_); go_step))
      all_goals (try (have hF : False := (by omega); cases hF))
      all_goals
       refine ret_all (xs := [_, _, _]) rfl (.cons (OneRes.arr hS rfl (row_of (n := 64) rfl) pl9) (.cons (OneRes.tmp rfl) (.cons (OneRes.tmp rfl) (.nil)))) (by simp) rfl ?_
       exact from_no 4 HF2.out hS sb9
     case neg =>
      have hr2 : u0 < 0 ∨ 255 < u0 := by omega
      clear hor2 hr
      repeat' (first
       | ((with_reducible refine gs9 69 ?_); refine wl9 ?_; refine wp_callI rfl (.iface Z.tid Z.ptr) rfl [.bool false] rfl Z.f #[Z.ptr, .bool false] (Z.inv false) (Z.call _ _ _ s false _ _ _ _ _ hS pl9 HN2.out) ?_; clear hS; rintro e w ⟨rfl, hS⟩; refine ⟨_, rfl, ?_⟩; refine put_move ?_; go_step) | ((first | (with_reducible refine mv9 ?_) | (with_reducible refine as9 ?_)); (first | go_big_want | go_step); go_step) | ((with_reducible refine gs9 66 ?_); (refine wvv9 (V.lss rfl rfl) ?_; go_step)) | ((with_reducible refine gs9 70 ?_); (refine wvv9 (V.extract rfl rfl) ?_; go_step)) | ((with_reducible refine gs9 71 ?_); (refine wvv9 (V.extract rfl rfl) ?_; go_step)) | ((with_reducible refine gs9 14 ?_); (refine wl9 ?_; apply wp_alloc (o := ⟨some 14, _, _, _, _, _⟩) hS 69 rfl (.agg #[.int .i64 0, .int .i64 0, .int .i64 0]) [.int .i64 0, .int .i64 0, .int .i64 0] (fun w => Tryd.zeroValue69 w) rfl; clear hS; intro g14 w hS; refine put_move ?_; go_step)) | ((with_reducible refine gt9 _ (.store 69 _ _) ?_); (refine wl9 ?_; apply wp_storeG hS 69 _ _ rfl _ rfl 3 (row_of rfl) _ _; (case hp => exact pl9); (case hy => rfl); (case hn => rfl); (case hn' => rfl); (case hv => rfl); (case hd => exact rfl); clear hS; intro w hS)) | ((fail_if_success with_reducible refine ga9 ?_); go_step))
      all_goals (try (have hF : False := (by omega); cases hF))
      repeat' (first
       | ((with_reducible refine gs9 89 ?_); refine wpl_call (f := 71) Tryd.call71 kr9 ?_; refine ⟨_, (back_yes u1 u2 _ hB2), ?_⟩; rintro e w' ⟨rfl, rfl⟩; rw [HNb.out]; refine ⟨_, rfl, ?_⟩; refine put_move ?_; go_step) | ((first | (with_reducible refine mv9 ?_) | (with_reducible refine as9 ?_)); (first | go_big_want | go_step); go_step) | ((with_reducible refine gs9 73 ?_); (refine wvv9 (V.neq rfl rfl) ?_; go_step)) | ((with_reducible refine gs9 85 ?_); (refine wvv9 (V.fieldAddr fo69_1 rfl nq9) ?_; go_step)) | ((with_reducible refine gs9 87 ?_); (refine wvv9 (V.fieldAddr fo69_2 rfl nq9) ?_; go_step)) | ((with_reducible refine gs9 90 ?_); (refine wvv9 (V.extract rfl rfl) ?_; go_step)) | ((with_reducible refine gs9 91 ?_); (refine wvv9 (V.extract rfl rfl) ?_; go_step)) | ((with_reducible refine gt9 _ (.load 69 _) ?_); (refine wl9 ?_; apply wp_loadG hS 69 _ rfl _ rfl 3 (row_of rfl) _; (case hp => exact pl9); (case hn => rfl); refine put_move ?_; go_step)) | ((with_reducible refine gs9 82 ?_); (refine wl9 ?_; apply wp_buildSlice1 (o := ⟨some 82, _, _, _, _, _⟩) hS 100 1 _ rfl 69 3 24 el100 _ _; (case hvs => (repeat (first | exact Parts.nil | (apply Parts.agg; (rfl); (rfl)) | (apply Parts.one; exact isv9; (rfl); (rfl))))); (case hn => rfl); (case hn0 => decide); (case hns => decide); clear hS; intro g82 w hS; simp only [List.cons_append, List.nil_append] at hS; refine put_move ?_; go_step)) | ((with_reducible refine gs9 83 ?_); (refine wl9 ?_; apply wp_append (o := ⟨some 83, _, _, _, _, _⟩) hS _ _ 100 rfl 69 3 24 el100 _ _ _ _ rfl; (case hp => exact pl9); (case hx => exact rfl); (case hm => (first | exact hS.slBlk pl9 (by rfl) (by decide) | exact hS.sl pl9 | with_reducible assumption | exact Sl.ext (by with_reducible assumption) hS.1 | exact Sl.nil _ _ | exact Sl.ext (by assumption) hS.1 | assumption)); (case h1 => (first | exact oneAll rfl | exact oneMap _ _ | (intro u hu; cases hu))); (case h63 => unfold maxLen; omega); (case hb => omega); clear hS; intro ad83 c83 w hS; (first | simp only [mapk1] at hS | simp only [mapk2] at hS | simp only [mapk3] at hS | simp only [mapk4] at hS | simp only [mapkl] at hS | skip); refine put_move ?_; go_step)) | ((with_reducible refine gt9 _ (.load 3 _) ?_); (refine wl9 ?_; apply wp_load1 hS 3 _ rfl _ _ rfl (one_of rfl) _; (case hp => exact pl9); (case hc => rfl); refine put_move ?_; go_step)) | ((fail_if_success with_reducible refine ga9 ?_); go_step))
      all_goals (try (have hF : False := (by omega); cases hF))
      repeat' (first
       | ((with_reducible refine gs9 133 ?_); refine wl9 ?_; refine wp_callV (f := 70) rfl rfl Tryd.call70 (none_any _ _) ?_; rintro e w ⟨rfl, hE⟩; replace hS := hS.ext hE; clear hE; refine ⟨_, rfl, ?_⟩; refine put_move ?_; go_step) | go_big_skip | ((first | (with_reducible refine mv9 ?_) | (with_reducible refine as9 ?_)); (first | go_big_want | go_step); go_step) | ((with_reducible refine gt9 _ (.pick _ _ _) ?_); first | (refine wplPickT rfl kr9 ?_; go_step) | (refine wplPickF rfl kr9 ?_; go_step)) | ((with_reducible refine gs9 93 ?_); (refine wplD _ (V.neq rfl rfl) kr9 (fun hB => ?_) (fun hB => ?_) <;> (try (have hF : False := (by omega); cases hF)) <;> go_step)) | ((with_reducible refine gs9 100 ?_); (refine wplD _ (V.neq rfl rfl) kr9 (fun hB => ?_) (fun hB => ?_) <;> (try (have hF : False := (by omega); cases hF)) <;> go_step)) | ((with_reducible refine gs9 105 ?_); (refine wplD _ (V.gtr rfl rfl) kr9 (fun hB => ?_) (fun hB => ?_) <;> (try (have hF : False := (by omega); cases hF)) <;> go_step)) | ((with_reducible refine gs9 110 ?_); (refine wplD _ (V.lss rfl rfl) kr9 (fun hB => ?_) (fun hB => ?_) <;> (try (have hF : False := (by omega); cases hF)) <;> go_step)) | ((with_reducible refine gs9 115 ?_); (refine wplD _ (V.gtr rfl rfl) kr9 (fun hB => ?_) (fun hB => ?_) <;> (try (have hF : False := (by omega); cases hF)) <;> go_step)) | ((with_reducible refine gs9 95 ?_); (refine wvv9 (V.fieldAddr fo69_1 rfl nq9) ?_; go_step)) | ((with_reducible refine gs9 97 ?_); (refine wvv9 (V.fieldAddr fo69_0 rfl nq9) ?_; go_step)) | ((with_reducible refine gs9 99 ?_); (refine wvv9 (V.and rfl rfl) ?_; go_step)) | ((with_reducible refine gs9 103 ?_); (refine wvv9 (V.fieldAddr fo69_1 rfl nq9) ?_; go_step)) | ((with_reducible refine gs9 108 ?_); (refine wvv9 (V.fieldAddr fo69_0 rfl nq9) ?_; go_step)) | ((with_reducible refine gs9 113 ?_); (refine wvv9 (V.fieldAddr fo69_0 rfl nq9) ?_; go_step)) | ((with_reducible refine gs9 134 ?_); (refine wvv9 (V.extract rfl rfl) ?_; go_step)) | ((with_reducible refine gs9 135 ?_); (refine wvv9 (V.extract rfl rfl) ?_; go_step)) | ((with_reducible refine gs9 136 ?_); (refine wvv9 (V.extract rfl rfl) ?_; go_step)) | ((with_reducible refine gt9 _ (.load 3 _) ?_); (refine wl9 ?_; apply wp_load1 hS 3 _ rfl _ _ rfl (one_of rfl) _; (case hp => exact pl9); (case hc => rfl); refine put_move ?_; go_step)) | ((with_reducible refine gt9 _ (.store 52 _ _) ?_); (refine wl9 ?_; apply wp_storeA hS 52 _ _ rfl _ rfl 64 (row_of rfl) _ _; (case hp => exact pl9); (case hy => rfl); (case hm => (repeat (first | assumption | exact Len.rep | apply Len.set | ((with_reducible show Len (_ :: _) _); exact rfl)))); (case hd => exact rfl); clear hS; intro w hS)) | ((fail_if_success with_reducible refine ga9 ?_); go_step))
      all_goals (try (have hF : False := (by omega); cases hF))
      all_goals
       refine ret_all (xs := [_, _, _]) rfl (.cons (OneRes.arr hS rfl (row_of (n := 64) rfl) pl9) (.cons (OneRes.tmp rfl) (.cons (OneRes.tmp rfl) (.nil)))) (by simp) rfl ?_
       exact from_no 4 HF2.out hS sb9
    case false =>
     rw [if_neg (by simp)] at hlo
     have hgood : okB u1 u2 = true ∧ u1 ≤ 11 ∧ 0 ≤ u0 ∧ u0 ≤ 255 ∧ u1 = u0 % 16 ∧ (u1 ≠ 0 ∨ u0 = 0 ∨ u0 = 240) := by
      by_cases hB2 : okB u1 u2 = true
      · refine ⟨hB2, ?_⟩
        have hno : ¬ (11 < u1 ∨ u0 < 0 ∨ 255 < u0 ∨ u1 ≠ u0 % 16 ∨ (u1 = 0 ∧ u0 ≠ 0 ∧ u0 ≠ 240)) := fun h => by have := hiff.2 (.inr h); cases this
        omega
      · have := hiff.2 (.inl (by simpa using hB2)); cases this
     obtain ⟨hB2, g1, g2, g3, g4, g5⟩ := hgood
     have HAnd := hid (and15 u0 ⟨g2, g3⟩)
     obtain ⟨nb1, nb2, nb3⟩ := numT_bd u0 u1 u2 hB2
     have nb4 := nb3 g1
     obtain ⟨n2, hn2⟩ : ∃ x, numT (u0, u1, u2) = x := ⟨_, rfl⟩
     rw [hn2] at nb4 hlo
     have HNb : Hid (sback u1.toNat u2.toNat = n2) := hid hn2
     clear hiff hbd hn2 nb1 nb2 nb3
     by_cases hend : u0 = 0
     case pos =>
      rw [if_pos hend] at hlo
      have HLo2 := hid hlo
      have HAl2 : Hid ((all ++ [(u0, u1, u2)]).length = m + 1) := hid (by rw [List.length_append, HAl.out]; rfl)
      clear hlo HAl
      obtain ⟨al2, hal2⟩ : ∃ x, all ++ [(u0, u1, u2)] = x := ⟨_, rfl⟩
      rw [hal2] at HLo2 HAl2 HFl
      clear hal2
      obtain ⟨zf, hzf⟩ : ∃ x, zfrom bl = x := ⟨_, rfl⟩
      have hzl : Len zf 64 := by rw [← hzf]; exact zfrom_len bl
      have HZf : Veil (zfrom bl = zf) := ⟨hzf⟩
      clear hzf
      repeat' (first
       | ((with_reducible refine gs9 69 ?_); refine wl9 ?_; refine wp_callI rfl (.iface Z.tid Z.ptr) rfl [.bool false] rfl Z.f #[Z.ptr, .bool false] (Z.inv false) (Z.call _ _ _ s false _ _ _ _ _ hS pl9 HN2.out) ?_; clear hS; rintro e w ⟨rfl, hS⟩; refine ⟨_, rfl, ?_⟩; refine put_move ?_; go_step) | ((first | (with_reducible refine mv9 ?_) | (with_reducible refine as9 ?_)); (first | go_big_want | go_step); go_step) | ((with_reducible refine gs9 66 ?_); (refine wvv9 (V.lss rfl rfl) ?_; go_step)) | ((with_reducible refine gs9 70 ?_); (refine wvv9 (V.extract rfl rfl) ?_; go_step)) | ((with_reducible refine gs9 71 ?_); (refine wvv9 (V.extract rfl rfl) ?_; go_step)) | ((with_reducible refine gs9 14 ?_); (refine wl9 ?_; apply wp_alloc (o := ⟨some 14, _, _, _, _, _⟩) hS 69 rfl (.agg #[.int .i64 0, .int .i64 0, .int .i64 0]) [.int .i64 0, .int .i64 0, .int .i64 0] (fun w => Tryd.zeroValue69 w) rfl; clear hS; intro g14 w hS; refine put_move ?_; go_step)) | ((with_reducible refine gt9 _ (.store 69 _ _) ?_); (refine wl9 ?_; apply wp_storeG hS 69 _ _ rfl _ rfl 3 (row_of rfl) _ _; (case hp => exact pl9); (case hy => rfl); (case hn => rfl); (case hn' => rfl); (case hv => rfl); (case hd => exact rfl); clear hS; intro w hS)) | ((fail_if_success with_reducible refine ga9 ?_); go_step))
      all_goals (try (have hF : False := (by omega); cases hF))
      repeat' (first
       | ((with_reducible refine gs9 89 ?_); refine wpl_call (f := 71) Tryd.call71 kr9 ?_; refine ⟨_, (back_yes u1 u2 _ hB2), ?_⟩; rintro e w' ⟨rfl, rfl⟩; rw [HNb.out]; refine ⟨_, rfl, ?_⟩; refine put_move ?_; go_step) | ((first | (with_reducible refine mv9 ?_) | (with_reducible refine as9 ?_)); (first | go_big_want | go_step); go_step) | ((with_reducible refine gs9 73 ?_); (refine wvv9 (V.neq rfl rfl) ?_; go_step)) | ((with_reducible refine gs9 85 ?_); (refine wvv9 (V.fieldAddr fo69_1 rfl nq9) ?_; go_step)) | ((with_reducible refine gs9 87 ?_); (refine wvv9 (V.fieldAddr fo69_2 rfl nq9) ?_; go_step)) | ((with_reducible refine gs9 90 ?_); (refine wvv9 (V.extract rfl rfl) ?_; go_step)) | ((with_reducible refine gs9 91 ?_); (refine wvv9 (V.extract rfl rfl) ?_; go_step)) | ((with_reducible refine gt9 _ (.load 69 _) ?_); (refine wl9 ?_; apply wp_loadG hS 69 _ rfl _ rfl 3 (row_of rfl) _; (case hp => exact pl9); (case hn => rfl); refine put_move ?_; go_step)) | ((with_reducible refine gs9 82 ?_); (refine wl9 ?_; apply wp_buildSlice1 (o := ⟨some 82, _, _, _, _, _⟩) hS 100 1 _ rfl 69 3 24 el100 _ _; (case hvs => (repeat (first | exact Parts.nil | (apply Parts.agg; (rfl); (rfl)) | (apply Parts.one; exact isv9; (rfl); (rfl))))); (case hn => rfl); (case hn0 => decide); (case hns => decide); clear hS; intro g82 w hS; simp only [List.cons_append, List.nil_append] at hS; refine put_move ?_; go_step)) | ((with_reducible refine gs9 83 ?_); (refine wl9 ?_; apply wp_append (o := ⟨some 83, _, _, _, _, _⟩) hS _ _ 100 rfl 69 3 24 el100 _ _ _ _ rfl; (case hp => exact pl9); (case hx => exact rfl); (case hm => (first | exact hS.slBlk pl9 (by rfl) (by decide) | exact hS.sl pl9 | with_reducible assumption | exact Sl.ext (by with_reducible assumption) hS.1 | exact Sl.nil _ _ | exact Sl.ext (by assumption) hS.1 | assumption)); (case h1 => (first | exact oneAll rfl | exact oneMap _ _ | (intro u hu; cases hu))); (case h63 => unfold maxLen; omega); (case hb => omega); clear hS; intro ad83 c83 w hS; (first | simp only [mapk1] at hS | simp only [mapk2] at hS | simp only [mapk3] at hS | simp only [mapk4] at hS | simp only [mapkl] at hS | skip); refine put_move ?_; go_step)) | ((with_reducible refine gt9 _ (.load 3 _) ?_); (refine wl9 ?_; apply wp_load1 hS 3 _ rfl _ _ rfl (one_of rfl) _; (case hp => exact pl9); (case hc => rfl); refine put_move ?_; go_step)) | ((fail_if_success with_reducible refine ga9 ?_); go_step))
      all_goals (try (have hF : False := (by omega); cases hF))
      repeat' (first
       | ((with_reducible refine gs9 99 ?_); (refine wplV (.int _ ((u0 % 16))) (V.as (V.and rfl rfl) (by exact HAnd.out)) rfl ?_; go_step)) | go_big_skip | ((with_reducible refine mv9 ?_); (first | go_big_want | go_step); go_step) | ((with_reducible refine gt9 _ (.pick _ _ _) ?_); first | (refine wplPickT rfl kr9 ?_; go_step) | (refine wplPickF rfl kr9 ?_; go_step)) | ((with_reducible refine gs9 93 ?_); (refine wplD _ (V.neq rfl rfl) kr9 (fun hB => ?_) (fun hB => ?_) <;> (try (have hF : False := (by omega); cases hF)) <;> go_step)) | ((with_reducible refine gs9 100 ?_); (refine wplD _ (V.neq rfl rfl) kr9 (fun hB => ?_) (fun hB => ?_) <;> (try (have hF : False := (by omega); cases hF)) <;> go_step)) | ((with_reducible refine gs9 105 ?_); (refine wplD _ (V.gtr rfl rfl) kr9 (fun hB => ?_) (fun hB => ?_) <;> (try (have hF : False := (by omega); cases hF)) <;> go_step)) | ((with_reducible refine gs9 110 ?_); (refine wplD _ (V.lss rfl rfl) kr9 (fun hB => ?_) (fun hB => ?_) <;> (try (have hF : False := (by omega); cases hF)) <;> go_step)) | ((with_reducible refine gs9 115 ?_); (refine wplD _ (V.gtr rfl rfl) kr9 (fun hB => ?_) (fun hB => ?_) <;> (try (have hF : False := (by omega); cases hF)) <;> go_step)) | ((with_reducible refine gs9 120 ?_); (refine wplD _ (V.eql rfl rfl) kr9 (fun hB => ?_) (fun hB => ?_) <;> (try (have hF : False := (by omega); cases hF)) <;> go_step)) | ((with_reducible refine gs9 124 ?_); (refine wplD _ (V.neq rfl rfl) kr9 (fun hB => ?_) (fun hB => ?_) <;> (try (have hF : False := (by omega); cases hF)) <;> go_step)) | ((with_reducible refine gs9 95 ?_); (refine wvv9 (V.fieldAddr fo69_1 rfl nq9) ?_; go_step)) | ((with_reducible refine gs9 97 ?_); (refine wvv9 (V.fieldAddr fo69_0 rfl nq9) ?_; go_step)) | ((with_reducible refine gs9 103 ?_); (refine wvv9 (V.fieldAddr fo69_1 rfl nq9) ?_; go_step)) | ((with_reducible refine gs9 108 ?_); (refine wvv9 (V.fieldAddr fo69_0 rfl nq9) ?_; go_step)) | ((with_reducible refine gs9 113 ?_); (refine wvv9 (V.fieldAddr fo69_0 rfl nq9) ?_; go_step)) | ((with_reducible refine gs9 118 ?_); (refine wvv9 (V.fieldAddr fo69_1 rfl nq9) ?_; go_step)) | ((with_reducible refine gs9 122 ?_); (refine wvv9 (V.fieldAddr fo69_0 rfl nq9) ?_; go_step)) | ((with_reducible refine gt9 _ (.load 3 _) ?_); (refine wl9 ?_; apply wp_load1 hS 3 _ rfl _ _ rfl (one_of rfl) _; (case hp => exact pl9); (case hc => rfl); refine put_move ?_; go_step)) | ((fail_if_success with_reducible refine ga9 ?_); go_step))
      all_goals (try (have hF : False := (by omega); cases hF))
      repeat' (first
       | ((with_reducible refine gs9 137 ?_); (refine wvv9 (V.fieldAddr fo69_0 rfl nq9) ?_; go_step)) | ((with_reducible refine gs9 139 ?_); (refine wvv9 (V.eql rfl rfl) ?_; go_step)) | ((with_reducible refine gt9 _ (.load 3 _) ?_); (refine wl9 ?_; apply wp_load1 hS 3 _ rfl _ _ rfl (one_of rfl) _; (case hp => exact pl9); (case hc => rfl); refine put_move ?_; go_step)) | ((fail_if_success with_reducible refine ga9 ?_); go_step))
      all_goals (try (have hF : False := (by omega); cases hF))
      repeat' (first
       | ((with_reducible refine gt9 _ (.call ⟨.value (.func 73), _, _⟩) ?_); refine wpl_call (f := 73) Tryd.call73 kr9 ?_; refine ⟨_, (zfrom_any _ bl hbl.out), ?_⟩; rintro e w ⟨rfl, hE⟩; rw [HZf.out]; replace hS := hS.ext hE; clear hE; refine ⟨_, rfl, ?_⟩; refine put_move ?_; go_step) | ((with_reducible refine mv9 ?_); (first | go_big_want | go_step); go_step) | ((with_reducible refine gt9 _ (.load 52 _) ?_); (refine wl9 ?_; apply wp_loadA hS 52 _ rfl _ rfl 64 (row_of rfl) _; (case hp => exact pl9); refine put_move ?_; go_step)) | ((with_reducible refine gt9 _ (.store 52 _ _) ?_); (refine wl9 ?_; apply wp_storeA hS 52 _ _ rfl _ rfl 64 (row_of rfl) _ _; (case hp => exact pl9); (case hy => rfl); (case hm => (repeat (first | assumption | exact Len.rep | apply Len.set | ((with_reducible show Len (_ :: _) _); exact rfl)))); (case hd => exact rfl); clear hS; intro w hS)) | ((fail_if_success with_reducible refine ga9 ?_); go_step))
      all_goals (try (have hF : False := (by omega); cases hF))
      rw [← HFl.out] at hS
      have hzb : ∀ i, i < 64 → -2047 ≤ nth zf i ∧ nth zf i ≤ 2047 := fun i hi => by
       rw [← HZf.out]; exact zfrom_bd bl HBl.out i hi
      have HZb := hid hzb
      obtain ⟨T, hT⟩ : ∃ T, toksOf before bl = T := ⟨_, rfl⟩
      have HTz : Veil (toksOf before (zto zf) = T) := ⟨by rw [← HZf.out, zto_zfrom bl hbl.out, hT]⟩
      obtain ⟨NT, hNT⟩ : ∃ N, T.length = N := ⟨_, rfl⟩
      have hNT64 : NT ≤ 64 := by rw [← hNT, ← hT]; exact (toks_len before bl hbl.out).2
      have HTl := hid hNT
      have HRT : Veil (frm Z.next before s0 = if T = al2 then (0, zf, al2, s2) else (4, nought0, [], s2)) := ⟨by
       rw [HF.out, ← HLo2.out]
       dsimp only
       rw [if_neg (by simp), hT, HZf.out]⟩
      clear hzb hT hNT
      by_cases hEq : T = al2
      case pos =>
       have HD := hid (show decide (flt T = flt al2) = true from decide_eq_true (by rw [hEq]))
       have HRF : Veil (frm Z.next before s0 = (0, zf, al2, s2)) := ⟨by rw [HRT.out, if_pos hEq]⟩
       clear hEq
       repeat' (first
        | ((with_reducible refine gs9 168 ?_); refine wpl_call (f := 75) Tryd.call75 kr9 ?_; refine ⟨_, (tokens_any _ before zf hzl hb HZb.out), ?_⟩; rintro e w ⟨a5, c5, rfl, hS2⟩; rw [HTz.out, HTl.out] at hS2; rw [HTz.out, HTl.out]; replace hS := hS.call1 hS2; clear hS2; refine ⟨_, rfl, ?_⟩; refine put_move ?_; go_step) | ((with_reducible refine gs9 170 ?_); refine wpl_call (f := 74) Tryd.call74 kr9 ?_; refine ⟨_, (slEqTok_any _ a5 ad83 NT c5 (m + 1) c83 (flt T) (flt al2) (hS.sl (a := a5) pl9) (hS.sl (a := ad83) pl9) (by omega) (by omega)), ?_⟩; rintro e w ⟨he, hE⟩; rw [HD.out] at he; subst he; replace hS := hS.ext hE; clear hE; refine ⟨_, rfl, ?_⟩; refine put_move ?_; go_step) | ((first | (with_reducible refine mv9 ?_) | (with_reducible refine as9 ?_)); (first | go_big_want | go_step); go_step) | ((with_reducible refine gs9 171 ?_); (refine wvv9 (V.not rfl) ?_; go_step)) | ((with_reducible refine gt9 _ (.load 52 _) ?_); (refine wl9 ?_; apply wp_loadA hS 52 _ rfl _ rfl 64 (row_of rfl) _; (case hp => exact pl9); refine put_move ?_; go_step)) | ((with_reducible refine gt9 _ (.store 52 _ _) ?_); (refine wl9 ?_; apply wp_storeA hS 52 _ _ rfl _ rfl 64 (row_of rfl) _ _; (case hp => exact pl9); (case hy => rfl); (case hm => (repeat (first | assumption | exact Len.rep | apply Len.set | ((with_reducible show Len (_ :: _) _); exact rfl)))); (case hd => exact rfl); clear hS; intro w hS)) | ((fail_if_success with_reducible refine ga9 ?_); go_step))
       all_goals (try (have hF : False := (by omega); cases hF))
       refine ret_all (xs := [_, _, _]) rfl (.cons (OneRes.arr hS rfl (row_of (n := 64) rfl) pl9) (.cons (OneRes.tmp rfl) (.cons (OneRes.tmp rfl) (.nil)))) (by simp) rfl ?_
       refine ⟨ad83, c83, ?_, ?_⟩
       · rw [HRF.out]; dsimp only; rw [HAl2.out]; first | done | rfl
       · rw [HRF.out]; dsimp only; rw [HAl2.out]; exact hS.sub sb9
      case neg =>
       have HD := hid (show decide (flt T = flt al2) = false from decide_eq_false (fun h => hEq (flt_inj h)))
       have HRF : frm Z.next before s0 = (4, nought0, [], s2) := by rw [HRT.out, if_neg hEq]
       have HRF2 : Veil (frm Z.next before s0 = (4, nought0, [], s2)) := ⟨HRF⟩
       clear hEq HRF
       repeat' (first
        | ((with_reducible refine gs9 168 ?_); refine wpl_call (f := 75) Tryd.call75 kr9 ?_; refine ⟨_, (tokens_any _ before zf hzl hb HZb.out), ?_⟩; rintro e w ⟨a5, c5, rfl, hS2⟩; rw [HTz.out, HTl.out] at hS2; rw [HTz.out, HTl.out]; replace hS := hS.call1 hS2; clear hS2; refine ⟨_, rfl, ?_⟩; refine put_move ?_; go_step) | ((with_reducible refine gs9 170 ?_); refine wpl_call (f := 74) Tryd.call74 kr9 ?_; refine ⟨_, (slEqTok_any _ a5 ad83 NT c5 (m + 1) c83 (flt T) (flt al2) (hS.sl (a := a5) pl9) (hS.sl (a := ad83) pl9) (by omega) (by omega)), ?_⟩; rintro e w ⟨he, hE⟩; rw [HD.out] at he; subst he; replace hS := hS.ext hE; clear hE; refine ⟨_, rfl, ?_⟩; refine put_move ?_; go_step) | ((with_reducible refine gs9 173 ?_); refine wl9 ?_; refine wp_callV (f := 70) rfl rfl Tryd.call70 (none_any _ _) ?_; rintro e w ⟨rfl, hE⟩; replace hS := hS.ext hE; clear hE; refine ⟨_, rfl, ?_⟩; refine put_move ?_; go_step) | ((first | (with_reducible refine mv9 ?_) | (with_reducible refine as9 ?_)); (first | go_big_want | go_step); go_step) | ((with_reducible refine gs9 171 ?_); (refine wvv9 (V.not rfl) ?_; go_step)) | ((with_reducible refine gs9 174 ?_); (refine wvv9 (V.extract rfl rfl) ?_; go_step)) | ((with_reducible refine gs9 175 ?_); (refine wvv9 (V.extract rfl rfl) ?_; go_step)) | ((with_reducible refine gs9 176 ?_); (refine wvv9 (V.extract rfl rfl) ?_; go_step)) | ((with_reducible refine gt9 _ (.store 52 _ _) ?_); (refine wl9 ?_; apply wp_storeA hS 52 _ _ rfl _ rfl 64 (row_of rfl) _ _; (case hp => exact pl9); (case hy => rfl); (case hm => (repeat (first | assumption | exact Len.rep | apply Len.set | ((with_reducible show Len (_ :: _) _); exact rfl)))); (case hd => exact rfl); clear hS; intro w hS)) | ((fail_if_success with_reducible refine ga9 ?_); go_step))
       all_goals (try (have hF : False := (by omega); cases hF))
       refine ret_all (xs := [_, _, _]) rfl (.cons (OneRes.arr hS rfl (row_of (n := 64) rfl) pl9) (.cons (OneRes.tmp rfl) (.cons (OneRes.tmp rfl) (.nil)))) (by simp) rfl ?_
       exact from_no 4 HRF2.out hS sb9
     case neg =>
      rw [if_neg hend] at hlo
      by_cases hlong : u0 = 240
      case pos =>
       rw [if_pos hlong] at hlo
       by_cases hov : 64 < at_ + 16
       case pos =>
        rw [if_pos hov] at hlo
        have HF2 : Hid (frm Z.next before s0 = (4, nought0, [], s2)) := hid (by rw [HF.out, ← hlo]; exact if_pos (show (4 : Int) ≠ 0 by decide))
        clear hlo
        repeat' (first
         | ((with_reducible refine gs9 69 ?_); refine wl9 ?_; refine wp_callI rfl (.iface Z.tid Z.ptr) rfl [.bool false] rfl Z.f #[Z.ptr, .bool false] (Z.inv false) (Z.call _ _ _ s false _ _ _ _ _ hS pl9 HN2.out) ?_; clear hS; rintro e w ⟨rfl, hS⟩; refine ⟨_, rfl, ?_⟩; refine put_move ?_; go_step) | ((first | (with_reducible refine mv9 ?_) | (with_reducible refine as9 ?_)); (first | go_big_want | go_step); go_step) | ((with_reducible refine gs9 66 ?_); (refine wvv9 (V.lss rfl rfl) ?_; go_step)) | ((with_reducible refine gs9 70 ?_); (refine wvv9 (V.extract rfl rfl) ?_; go_step)) | ((with_reducible refine gs9 71 ?_); (refine wvv9 (V.extract rfl rfl) ?_; go_step)) | ((with_reducible refine gs9 14 ?_); (refine wl9 ?_; apply wp_alloc (o := ⟨some 14, _, _, _, _, _⟩) hS 69 rfl (.agg #[.int .i64 0, .int .i64 0, .int .i64 0]) [.int .i64 0, .int .i64 0, .int .i64 0] (fun w => Tryd.zeroValue69 w) rfl; clear hS; intro g14 w hS; refine put_move ?_; go_step)) | ((with_reducible refine gt9 _ (.store 69 _ _) ?_); (refine wl9 ?_; apply wp_storeG hS 69 _ _ rfl _ rfl 3 (row_of rfl) _ _; (case hp => exact pl9); (case hy => rfl); (case hn => rfl); (case hn' => rfl); (case hv => rfl); (case hd => exact rfl); clear hS; intro w hS)) | ((fail_if_success with_reducible refine ga9 ?_); go_step))
        all_goals (try (have hF : False := (by omega); cases hF))
        repeat' (first
         | ((with_reducible refine gs9 89 ?_); refine wpl_call (f := 71) Tryd.call71 kr9 ?_; refine ⟨_, (back_yes u1 u2 _ hB2), ?_⟩; rintro e w' ⟨rfl, rfl⟩; rw [HNb.out]; refine ⟨_, rfl, ?_⟩; refine put_move ?_; go_step) | ((first | (with_reducible refine mv9 ?_) | (with_reducible refine as9 ?_)); (first | go_big_want | go_step); go_step) | ((with_reducible refine gs9 73 ?_); (refine wvv9 (V.neq rfl rfl) ?_; go_step)) | ((with_reducible refine gs9 85 ?_); (refine wvv9 (V.fieldAddr fo69_1 rfl nq9) ?_; go_step)) | ((with_reducible refine gs9 87 ?_); (refine wvv9 (V.fieldAddr fo69_2 rfl nq9) ?_; go_step)) | ((with_reducible refine gs9 90 ?_); (refine wvv9 (V.extract rfl rfl) ?_; go_step)) | ((with_reducible refine gs9 91 ?_); (refine wvv9 (V.extract rfl rfl) ?_; go_step)) | ((with_reducible refine gt9 _ (.load 69 _) ?_); (refine wl9 ?_; apply wp_loadG hS 69 _ rfl _ rfl 3 (row_of rfl) _; (case hp => exact pl9); (case hn => rfl); refine put_move ?_; go_step)) | ((with_reducible refine gs9 82 ?_); (refine wl9 ?_; apply wp_buildSlice1 (o := ⟨some 82, _, _, _, _, _⟩) hS 100 1 _ rfl 69 3 24 el100 _ _; (case hvs => (repeat (first | exact Parts.nil | (apply Parts.agg; (rfl); (rfl)) | (apply Parts.one; exact isv9; (rfl); (rfl))))); (case hn => rfl); (case hn0 => decide); (case hns => decide); clear hS; intro g82 w hS; simp only [List.cons_append, List.nil_append] at hS; refine put_move ?_; go_step)) | ((with_reducible refine gs9 83 ?_); (refine wl9 ?_; apply wp_append (o := ⟨some 83, _, _, _, _, _⟩) hS _ _ 100 rfl 69 3 24 el100 _ _ _ _ rfl; (case hp => exact pl9); (case hx => exact rfl); (case hm => (first | exact hS.slBlk pl9 (by rfl) (by decide) | exact hS.sl pl9 | with_reducible assumption | exact Sl.ext (by with_reducible assumption) hS.1 | exact Sl.nil _ _ | exact Sl.ext (by assumption) hS.1 | assumption)); (case h1 => (first | exact oneAll rfl | exact oneMap _ _ | (intro u hu; cases hu))); (case h63 => unfold maxLen; omega); (case hb => omega); clear hS; intro ad83 c83 w hS; (first | simp only [mapk1] at hS | simp only [mapk2] at hS | simp only [mapk3] at hS | simp only [mapk4] at hS | simp only [mapkl] at hS | skip); refine put_move ?_; go_step)) | ((with_reducible refine gt9 _ (.load 3 _) ?_); (refine wl9 ?_; apply wp_load1 hS 3 _ rfl _ _ rfl (one_of rfl) _; (case hp => exact pl9); (case hc => rfl); refine put_move ?_; go_step)) | ((fail_if_success with_reducible refine ga9 ?_); go_step))
        all_goals (try (have hF : False := (by omega); cases hF))
        repeat' (first
         | ((with_reducible refine gs9 99 ?_); (refine wplV (.int _ ((u0 % 16))) (V.as (V.and rfl rfl) (by exact HAnd.out)) rfl ?_; go_step)) | ((with_reducible refine mv9 ?_); (first | go_big_want | go_step); go_step) | ((with_reducible refine gt9 _ (.pick _ _ _) ?_); first | (refine wplPickT rfl kr9 ?_; go_step) | (refine wplPickF rfl kr9 ?_; go_step)) | ((with_reducible refine gs9 93 ?_); (refine wplD _ (V.neq rfl rfl) kr9 (fun hB => ?_) (fun hB => ?_) <;> (try (have hF : False := (by omega); cases hF)) <;> go_step)) | ((with_reducible refine gs9 100 ?_); (refine wplD _ (V.neq rfl rfl) kr9 (fun hB => ?_) (fun hB => ?_) <;> (try (have hF : False := (by omega); cases hF)) <;> go_step)) | ((with_reducible refine gs9 105 ?_); (refine wplD _ (V.gtr rfl rfl) kr9 (fun hB => ?_) (fun hB => ?_) <;> (try (have hF : False := (by omega); cases hF)) <;> go_step)) | ((with_reducible refine gs9 110 ?_); (refine wplD _ (V.lss rfl rfl) kr9 (fun hB => ?_) (fun hB => ?_) <;> (try (have hF : False := (by omega); cases hF)) <;> go_step)) | ((with_reducible refine gs9 115 ?_); (refine wplD _ (V.gtr rfl rfl) kr9 (fun hB => ?_) (fun hB => ?_) <;> (try (have hF : False := (by omega); cases hF)) <;> go_step)) | ((with_reducible refine gs9 120 ?_); (refine wplD _ (V.eql rfl rfl) kr9 (fun hB => ?_) (fun hB => ?_) <;> (try (have hF : False := (by omega); cases hF)) <;> go_step)) | ((with_reducible refine gs9 124 ?_); (refine wplD _ (V.neq rfl rfl) kr9 (fun hB => ?_) (fun hB => ?_) <;> (try (have hF : False := (by omega); cases hF)) <;> go_step)) | ((with_reducible refine gs9 95 ?_); (refine wvv9 (V.fieldAddr fo69_1 rfl nq9) ?_; go_step)) | ((with_reducible refine gs9 97 ?_); (refine wvv9 (V.fieldAddr fo69_0 rfl nq9) ?_; go_step)) | ((with_reducible refine gs9 103 ?_); (refine wvv9 (V.fieldAddr fo69_1 rfl nq9) ?_; go_step)) | ((with_reducible refine gs9 108 ?_); (refine wvv9 (V.fieldAddr fo69_0 rfl nq9) ?_; go_step)) | ((with_reducible refine gs9 113 ?_); (refine wvv9 (V.fieldAddr fo69_0 rfl nq9) ?_; go_step)) | ((with_reducible refine gs9 118 ?_); (refine wvv9 (V.fieldAddr fo69_1 rfl nq9) ?_; go_step)) | ((with_reducible refine gs9 122 ?_); (refine wvv9 (V.fieldAddr fo69_0 rfl nq9) ?_; go_step)) | ((with_reducible refine gs9 127 ?_); (refine wvv9 (V.fieldAddr fo69_0 rfl nq9) ?_; go_step)) | ((with_reducible refine gs9 129 ?_); (refine wvv9 (V.neq rfl rfl) ?_; go_step)) | ((with_reducible refine gt9 _ (.load 3 _) ?_); (refine wl9 ?_; apply wp_load1 hS 3 _ rfl _ _ rfl (one_of rfl) _; (case hp => exact pl9); (case hc => rfl); refine put_move ?_; go_step)) | ((fail_if_success with_reducible refine ga9 ?_); go_step))
        all_goals (try (have hF : False := (by omega); cases hF))
        repeat' (first
         | ((with_reducible refine gs9 160 ?_); refine wl9 ?_; refine wp_callV (f := 70) rfl rfl Tryd.call70 (none_any _ _) ?_; rintro e w ⟨rfl, hE⟩; replace hS := hS.ext hE; clear hE; refine ⟨_, rfl, ?_⟩; refine put_move ?_; go_step) | ((first | (with_reducible refine mv9 ?_) | (with_reducible refine as9 ?_)); (first | go_big_want | go_step); go_step) | ((with_reducible refine gs9 137 ?_); (refine wvv9 (V.fieldAddr fo69_0 rfl nq9) ?_; go_step)) | ((with_reducible refine gs9 139 ?_); (refine wvv9 (V.eql rfl rfl) ?_; go_step)) | ((with_reducible refine gs9 140 ?_); (refine wvv9 (V.fieldAddr fo69_0 rfl nq9) ?_; go_step)) | ((with_reducible refine gs9 142 ?_); (refine wvv9 (V.eql rfl rfl) ?_; go_step)) | ((with_reducible refine gs9 144 ?_); (refine wvv9 (V.addI rfl rfl (by omega)) ?_; go_step)) | ((with_reducible refine gs9 158 ?_); (refine wvv9 (V.gtr rfl rfl) ?_; go_step)) | ((with_reducible refine gs9 161 ?_); (refine wvv9 (V.extract rfl rfl) ?_; go_step)) | ((with_reducible refine gs9 162 ?_); (refine wvv9 (V.extract rfl rfl) ?_; go_step)) | ((with_reducible refine gs9 163 ?_); (refine wvv9 (V.extract rfl rfl) ?_; go_step)) | ((with_reducible refine gt9 _ (.load 3 _) ?_); (refine wl9 ?_; apply wp_load1 hS 3 _ rfl _ _ rfl (one_of rfl) _; (case hp => exact pl9); (case hc => rfl); refine put_move ?_; go_step)) | ((with_reducible refine gt9 _ (.store 52 _ _) ?_); (refine wl9 ?_; apply wp_storeA hS 52 _ _ rfl _ rfl 64 (row_of rfl) _ _; (case hp => exact pl9); (case hy => rfl); (case hm => (repeat (first | assumption | exact Len.rep | apply Len.set | ((with_reducible show Len (_ :: _) _); exact rfl)))); (case hd => exact rfl); clear hS; intro w hS)) | ((fail_if_success with_reducible refine ga9 ?_); go_step))
        all_goals (try (have hF : False := (by omega); cases hF))
        all_goals
         refine ret_all (xs := [_, _, _]) rfl (.cons (OneRes.arr hS rfl (row_of (n := 64) rfl) pl9) (.cons (OneRes.tmp rfl) (.cons (OneRes.tmp rfl) (.nil)))) (by simp) rfl ?_
         exact from_no 4 HF2.out hS sb9
       case neg =>
        rw [if_neg hov] at hlo
        have HLo2 := hid hlo
        clear hlo
        repeat' (first
         | ((with_reducible refine gs9 69 ?_); refine wl9 ?_; refine wp_callI rfl (.iface Z.tid Z.ptr) rfl [.bool false] rfl Z.f #[Z.ptr, .bool false] (Z.inv false) (Z.call _ _ _ s false _ _ _ _ _ hS pl9 HN2.out) ?_; clear hS; rintro e w ⟨rfl, hS⟩; refine ⟨_, rfl, ?_⟩; refine put_move ?_; go_step) | ((first | (with_reducible refine mv9 ?_) | (with_reducible refine as9 ?_)); (first | go_big_want | go_step); go_step) | ((with_reducible refine gs9 66 ?_); (refine wvv9 (V.lss rfl rfl) ?_; go_step)) | ((with_reducible refine gs9 70 ?_); (refine wvv9 (V.extract rfl rfl) ?_; go_step)) | ((with_reducible refine gs9 71 ?_); (refine wvv9 (V.extract rfl rfl) ?_; go_step)) | ((with_reducible refine gs9 14 ?_); (refine wl9 ?_; apply wp_alloc (o := ⟨some 14, _, _, _, _, _⟩) hS 69 rfl (.agg #[.int .i64 0, .int .i64 0, .int .i64 0]) [.int .i64 0, .int .i64 0, .int .i64 0] (fun w => Tryd.zeroValue69 w) rfl; clear hS; intro g14 w hS; refine put_move ?_; go_step)) | ((with_reducible refine gt9 _ (.store 69 _ _) ?_); (refine wl9 ?_; apply wp_storeG hS 69 _ _ rfl _ rfl 3 (row_of rfl) _ _; (case hp => exact pl9); (case hy => rfl); (case hn => rfl); (case hn' => rfl); (case hv => rfl); (case hd => exact rfl); clear hS; intro w hS)) | ((fail_if_success with_reducible refine ga9 ?_); go_step))
        all_goals (try (have hF : False := (by omega); cases hF))
        repeat' (first
         | ((with_reducible refine gs9 89 ?_); refine wpl_call (f := 71) Tryd.call71 kr9 ?_; refine ⟨_, (back_yes u1 u2 _ hB2), ?_⟩; rintro e w' ⟨rfl, rfl⟩; rw [HNb.out]; refine ⟨_, rfl, ?_⟩; refine put_move ?_; go_step) | ((first | (with_reducible refine mv9 ?_) | (with_reducible refine as9 ?_)); (first | go_big_want | go_step); go_step) | ((with_reducible refine gs9 73 ?_); (refine wvv9 (V.neq rfl rfl) ?_; go_step)) | ((with_reducible refine gs9 85 ?_); (refine wvv9 (V.fieldAddr fo69_1 rfl nq9) ?_; go_step)) | ((with_reducible refine gs9 87 ?_); (refine wvv9 (V.fieldAddr fo69_2 rfl nq9) ?_; go_step)) | ((with_reducible refine gs9 90 ?_); (refine wvv9 (V.extract rfl rfl) ?_; go_step)) | ((with_reducible refine gs9 91 ?_); (refine wvv9 (V.extract rfl rfl) ?_; go_step)) | ((with_reducible refine gt9 _ (.load 69 _) ?_); (refine wl9 ?_; apply wp_loadG hS 69 _ rfl _ rfl 3 (row_of rfl) _; (case hp => exact pl9); (case hn => rfl); refine put_move ?_; go_step)) | ((with_reducible refine gs9 82 ?_); (refine wl9 ?_; apply wp_buildSlice1 (o := ⟨some 82, _, _, _, _, _⟩) hS 100 1 _ rfl 69 3 24 el100 _ _; (case hvs => (repeat (first | exact Parts.nil | (apply Parts.agg; (rfl); (rfl)) | (apply Parts.one; exact isv9; (rfl); (rfl))))); (case hn => rfl); (case hn0 => decide); (case hns => decide); clear hS; intro g82 w hS; simp only [List.cons_append, List.nil_append] at hS; refine put_move ?_; go_step)) | ((with_reducible refine gs9 83 ?_); (refine wl9 ?_; apply wp_append (o := ⟨some 83, _, _, _, _, _⟩) hS _ _ 100 rfl 69 3 24 el100 _ _ _ _ rfl; (case hp => exact pl9); (case hx => exact rfl); (case hm => (first | exact hS.slBlk pl9 (by rfl) (by decide) | exact hS.sl pl9 | with_reducible assumption | exact Sl.ext (by with_reducible assumption) hS.1 | exact Sl.nil _ _ | exact Sl.ext (by assumption) hS.1 | assumption)); (case h1 => (first | exact oneAll rfl | exact oneMap _ _ | (intro u hu; cases hu))); (case h63 => unfold maxLen; omega); (case hb => omega); clear hS; intro ad83 c83 w hS; (first | simp only [mapk1] at hS | simp only [mapk2] at hS | simp only [mapk3] at hS | simp only [mapk4] at hS | simp only [mapkl] at hS | skip); refine put_move ?_; go_step)) | ((with_reducible refine gt9 _ (.load 3 _) ?_); (refine wl9 ?_; apply wp_load1 hS 3 _ rfl _ _ rfl (one_of rfl) _; (case hp => exact pl9); (case hc => rfl); refine put_move ?_; go_step)) | ((fail_if_success with_reducible refine ga9 ?_); go_step))
        all_goals (try (have hF : False := (by omega); cases hF))
        repeat' (first
         | ((with_reducible refine gs9 99 ?_); (refine wplV (.int _ ((u0 % 16))) (V.as (V.and rfl rfl) (by exact HAnd.out)) rfl ?_; go_step)) | ((with_reducible refine mv9 ?_); (first | go_big_want | go_step); go_step) | ((with_reducible refine gt9 _ (.pick _ _ _) ?_); first | (refine wplPickT rfl kr9 ?_; go_step) | (refine wplPickF rfl kr9 ?_; go_step)) | ((with_reducible refine gs9 93 ?_); (refine wplD _ (V.neq rfl rfl) kr9 (fun hB => ?_) (fun hB => ?_) <;> (try (have hF : False := (by omega); cases hF)) <;> go_step)) | ((with_reducible refine gs9 100 ?_); (refine wplD _ (V.neq rfl rfl) kr9 (fun hB => ?_) (fun hB => ?_) <;> (try (have hF : False := (by omega); cases hF)) <;> go_step)) | ((with_reducible refine gs9 105 ?_); (refine wplD _ (V.gtr rfl rfl) kr9 (fun hB => ?_) (fun hB => ?_) <;> (try (have hF : False := (by omega); cases hF)) <;> go_step)) | ((with_reducible refine gs9 110 ?_); (refine wplD _ (V.lss rfl rfl) kr9 (fun hB => ?_) (fun hB => ?_) <;> (try (have hF : False := (by omega); cases hF)) <;> go_step)) | ((with_reducible refine gs9 115 ?_); (refine wplD _ (V.gtr rfl rfl) kr9 (fun hB => ?_) (fun hB => ?_) <;> (try (have hF : False := (by omega); cases hF)) <;> go_step)) | ((with_reducible refine gs9 120 ?_); (refine wplD _ (V.eql rfl rfl) kr9 (fun hB => ?_) (fun hB => ?_) <;> (try (have hF : False := (by omega); cases hF)) <;> go_step)) | ((with_reducible refine gs9 124 ?_); (refine wplD _ (V.neq rfl rfl) kr9 (fun hB => ?_) (fun hB => ?_) <;> (try (have hF : False := (by omega); cases hF)) <;> go_step)) | ((with_reducible refine gs9 95 ?_); (refine wvv9 (V.fieldAddr fo69_1 rfl nq9) ?_; go_step)) | ((with_reducible refine gs9 97 ?_); (refine wvv9 (V.fieldAddr fo69_0 rfl nq9) ?_; go_step)) | ((with_reducible refine gs9 103 ?_); (refine wvv9 (V.fieldAddr fo69_1 rfl nq9) ?_; go_step)) | ((with_reducible refine gs9 108 ?_); (refine wvv9 (V.fieldAddr fo69_0 rfl nq9) ?_; go_step)) | ((with_reducible refine gs9 113 ?_); (refine wvv9 (V.fieldAddr fo69_0 rfl nq9) ?_; go_step)) | ((with_reducible refine gs9 118 ?_); (refine wvv9 (V.fieldAddr fo69_1 rfl nq9) ?_; go_step)) | ((with_reducible refine gs9 122 ?_); (refine wvv9 (V.fieldAddr fo69_0 rfl nq9) ?_; go_step)) | ((with_reducible refine gs9 127 ?_); (refine wvv9 (V.fieldAddr fo69_0 rfl nq9) ?_; go_step)) | ((with_reducible refine gs9 129 ?_); (refine wvv9 (V.neq rfl rfl) ?_; go_step)) | ((with_reducible refine gt9 _ (.load 3 _) ?_); (refine wl9 ?_; apply wp_load1 hS 3 _ rfl _ _ rfl (one_of rfl) _; (case hp => exact pl9); (case hc => rfl); refine put_move ?_; go_step)) | ((fail_if_success with_reducible refine ga9 ?_); go_step))
        all_goals (try (have hF : False := (by omega); cases hF))
        repeat' (first
         | ((first | (with_reducible refine mv9 ?_) | (with_reducible refine as9 ?_)); (first | go_big_want | go_step); go_step) | ((with_reducible refine gs9 137 ?_); (refine wvv9 (V.fieldAddr fo69_0 rfl nq9) ?_; go_step)) | ((with_reducible refine gs9 139 ?_); (refine wvv9 (V.eql rfl rfl) ?_; go_step)) | ((with_reducible refine gs9 140 ?_); (refine wvv9 (V.fieldAddr fo69_0 rfl nq9) ?_; go_step)) | ((with_reducible refine gs9 142 ?_); (refine wvv9 (V.eql rfl rfl) ?_; go_step)) | ((with_reducible refine gs9 144 ?_); (refine wvv9 (V.addI rfl rfl (by omega)) ?_; go_step)) | ((with_reducible refine gs9 158 ?_); (refine wvv9 (V.gtr rfl rfl) ?_; go_step)) | ((with_reducible refine gt9 _ (.load 3 _) ?_); (refine wl9 ?_; apply wp_load1 hS 3 _ rfl _ _ rfl (one_of rfl) _; (case hp => exact pl9); (case hc => rfl); refine put_move ?_; go_step)) | ((fail_if_success with_reducible refine ga9 ?_); go_step))
        all_goals (try (have hF : False := (by omega); cases hF))
        go_roundg gk'
        case measure => omega
        case rel => exact ⟨at_ + 16, m + 1, bl, all ++ [(u0, u1, u2)], ad83, c83, s2, by omega, by omega, by omega, by omega, by go_num, rfl, hid (by rw [List.length_append, HAl.out]; rfl), hbl, HBl, HLo2, (by rw [HFl.out]; exact hS.sub sb9)⟩
      case neg =>
       rw [if_neg hlong] at hlo
       obtain ⟨r, hr⟩ : ∃ r : Nat, u0 / 16 = (r : Int) := ⟨(u0 / 16).toNat, by omega⟩
       have hr2 : u0.toNat / 16 = r := by omega
       have hr15 : r ≤ 15 := by omega
       rw [hr2] at hlo
       have HR4 : Hid (u0 / 2 ^ 4 = (r : Int)) := hid (by rw [show (2 : Int) ^ 4 = 16 from rfl]; exact hr)
       clear hr hr2
       by_cases hov : 64 ≤ at_ + r
       case pos =>
        rw [if_pos hov] at hlo
        have HF2 : Hid (frm Z.next before s0 = (4, nought0, [], s2)) := hid (by rw [HF.out, ← hlo]; exact if_pos (show (4 : Int) ≠ 0 by decide))
        clear hlo
        repeat' (first
         | ((with_reducible refine gs9 69 ?_); refine wl9 ?_; refine wp_callI rfl (.iface Z.tid Z.ptr) rfl [.bool false] rfl Z.f #[Z.ptr, .bool false] (Z.inv false) (Z.call _ _ _ s false _ _ _ _ _ hS pl9 HN2.out) ?_; clear hS; rintro e w ⟨rfl, hS⟩; refine ⟨_, rfl, ?_⟩; refine put_move ?_; go_step) | ((first | (with_reducible refine mv9 ?_) | (with_reducible refine as9 ?_)); (first | go_big_want | go_step); go_step) | ((with_reducible refine gs9 66 ?_); (refine wvv9 (V.lss rfl rfl) ?_; go_step)) | ((with_reducible refine gs9 70 ?_); (refine wvv9 (V.extract rfl rfl) ?_; go_step)) | ((with_reducible refine gs9 71 ?_); (refine wvv9 (V.extract rfl rfl) ?_; go_step)) | ((with_reducible refine gs9 14 ?_); (refine wl9 ?_; apply wp_alloc (o := ⟨some 14, _, _, _, _, _⟩) hS 69 rfl (.agg #[.int .i64 0, .int .i64 0, .int .i64 0]) [.int .i64 0, .int .i64 0, .int .i64 0] (fun w => Tryd.zeroValue69 w) rfl; clear hS; intro g14 w hS; refine put_move ?_; go_step)) | ((with_reducible refine gt9 _ (.store 69 _ _) ?_); (refine wl9 ?_; apply wp_storeG hS 69 _ _ rfl _ rfl 3 (row_of rfl) _ _; (case hp => exact pl9); (case hy => rfl); (case hn => rfl); (case hn' => rfl); (case hv => rfl); (case hd => exact rfl); clear hS; intro w hS)) | ((fail_if_success with_reducible refine ga9 ?_); go_step))
        all_goals (try (have hF : False := (by omega); cases hF))
        repeat' (first
         | ((with_reducible refine gs9 89 ?_); refine wpl_call (f := 71) Tryd.call71 kr9 ?_; refine ⟨_, (back_yes u1 u2 _ hB2), ?_⟩; rintro e w' ⟨rfl, rfl⟩; rw [HNb.out]; refine ⟨_, rfl, ?_⟩; refine put_move ?_; go_step) | ((first | (with_reducible refine mv9 ?_) | (with_reducible refine as9 ?_)); (first | go_big_want | go_step); go_step) | ((with_reducible refine gs9 73 ?_); (refine wvv9 (V.neq rfl rfl) ?_; go_step)) | ((with_reducible refine gs9 85 ?_); (refine wvv9 (V.fieldAddr fo69_1 rfl nq9) ?_; go_step)) | ((with_reducible refine gs9 87 ?_); (refine wvv9 (V.fieldAddr fo69_2 rfl nq9) ?_; go_step)) | ((with_reducible refine gs9 90 ?_); (refine wvv9 (V.extract rfl rfl) ?_; go_step)) | ((with_reducible refine gs9 91 ?_); (refine wvv9 (V.extract rfl rfl) ?_; go_step)) | ((with_reducible refine gt9 _ (.load 69 _) ?_); (refine wl9 ?_; apply wp_loadG hS 69 _ rfl _ rfl 3 (row_of rfl) _; (case hp => exact pl9); (case hn => rfl); refine put_move ?_; go_step)) | ((with_reducible refine gs9 82 ?_); (refine wl9 ?_; apply wp_buildSlice1 (o := ⟨some 82, _, _, _, _, _⟩) hS 100 1 _ rfl 69 3 24 el100 _ _; (case hvs => (repeat (first | exact Parts.nil | (apply Parts.agg; (rfl); (rfl)) | (apply Parts.one; exact isv9; (rfl); (rfl))))); (case hn => rfl); (case hn0 => decide); (case hns => decide); clear hS; intro g82 w hS; simp only [List.cons_append, List.nil_append] at hS; refine put_move ?_; go_step)) | ((with_reducible refine gs9 83 ?_); (refine wl9 ?_; apply wp_append (o := ⟨some 83, _, _, _, _, _⟩) hS _ _ 100 rfl 69 3 24 el100 _ _ _ _ rfl; (case hp => exact pl9); (case hx => exact rfl); (case hm => (first | exact hS.slBlk pl9 (by rfl) (by decide) | exact hS.sl pl9 | with_reducible assumption | exact Sl.ext (by with_reducible assumption) hS.1 | exact Sl.nil _ _ | exact Sl.ext (by assumption) hS.1 | assumption)); (case h1 => (first | exact oneAll rfl | exact oneMap _ _ | (intro u hu; cases hu))); (case h63 => unfold maxLen; omega); (case hb => omega); clear hS; intro ad83 c83 w hS; (first | simp only [mapk1] at hS | simp only [mapk2] at hS | simp only [mapk3] at hS | simp only [mapk4] at hS | simp only [mapkl] at hS | skip); refine put_move ?_; go_step)) | ((with_reducible refine gt9 _ (.load 3 _) ?_); (refine wl9 ?_; apply wp_load1 hS 3 _ rfl _ _ rfl (one_of rfl) _; (case hp => exact pl9); (case hc => rfl); refine put_move ?_; go_step)) | ((fail_if_success with_reducible refine ga9 ?_); go_step))
        all_goals (try (have hF : False := (by omega); cases hF))
        repeat' (first
         | ((with_reducible refine gs9 99 ?_); (refine wplV (.int _ ((u0 % 16))) (V.as (V.and rfl rfl) (by exact HAnd.out)) rfl ?_; go_step)) | go_big_skip | ((with_reducible refine mv9 ?_); (first | go_big_want | go_step); go_step) | ((with_reducible refine gt9 _ (.pick _ _ _) ?_); (refine wplPickF rfl kr9 ?_; go_step)) | ((with_reducible refine gs9 93 ?_); (refine wplD _ (V.neq rfl rfl) kr9 (fun hB => ?_) (fun hB => ?_) <;> (try (have hF : False := (by omega); cases hF)) <;> go_step)) | ((with_reducible refine gs9 100 ?_); (refine wplD _ (V.neq rfl rfl) kr9 (fun hB => ?_) (fun hB => ?_) <;> (try (have hF : False := (by omega); cases hF)) <;> go_step)) | ((with_reducible refine gs9 105 ?_); (refine wplD _ (V.gtr rfl rfl) kr9 (fun hB => ?_) (fun hB => ?_) <;> (try (have hF : False := (by omega); cases hF)) <;> go_step)) | ((with_reducible refine gs9 110 ?_); (refine wplD _ (V.lss rfl rfl) kr9 (fun hB => ?_) (fun hB => ?_) <;> (try (have hF : False := (by omega); cases hF)) <;> go_step)) | ((with_reducible refine gs9 115 ?_); (refine wplD _ (V.gtr rfl rfl) kr9 (fun hB => ?_) (fun hB => ?_) <;> (try (have hF : False := (by omega); cases hF)) <;> go_step)) | ((with_reducible refine gs9 120 ?_); (refine wplD _ (V.eql rfl rfl) kr9 (fun hB => ?_) (fun hB => ?_) <;> (try (have hF : False := (by omega); cases hF)) <;> go_step)) | ((with_reducible refine gs9 95 ?_); (refine wvv9 (V.fieldAddr fo69_1 rfl nq9) ?_; go_step)) | ((with_reducible refine gs9 97 ?_); (refine wvv9 (V.fieldAddr fo69_0 rfl nq9) ?_; go_step)) | ((with_reducible refine gs9 103 ?_); (refine wvv9 (V.fieldAddr fo69_1 rfl nq9) ?_; go_step)) | ((with_reducible refine gs9 108 ?_); (refine wvv9 (V.fieldAddr fo69_0 rfl nq9) ?_; go_step)) | ((with_reducible refine gs9 113 ?_); (refine wvv9 (V.fieldAddr fo69_0 rfl nq9) ?_; go_step)) | ((with_reducible refine gs9 118 ?_); (refine wvv9 (V.fieldAddr fo69_1 rfl nq9) ?_; go_step)) | ((with_reducible refine gt9 _ (.load 3 _) ?_); (refine wl9 ?_; apply wp_load1 hS 3 _ rfl _ _ rfl (one_of rfl) _; (case hp => exact pl9); (case hc => rfl); refine put_move ?_; go_step)) | ((fail_if_success with_reducible refine ga9 ?_); go_step))
        all_goals (try (have hF : False := (by omega); cases hF))
        repeat' (first
         | ((with_reducible refine gs9 148 ?_); (refine wplV (.int _ (((r : Nat) : Int))) (V.as (V.shr rfl rfl isn9 (by omega) rfl) (by exact HR4.out)) rfl ?_; go_step)) | ((with_reducible refine gs9 160 ?_); refine wl9 ?_; refine wp_callV (f := 70) rfl rfl Tryd.call70 (none_any _ _) ?_; rintro e w ⟨rfl, hE⟩; replace hS := hS.ext hE; clear hE; refine ⟨_, rfl, ?_⟩; refine put_move ?_; go_step) | ((first | (with_reducible refine mv9 ?_) | (with_reducible refine as9 ?_)); (first | go_big_want | go_step); go_step) | ((with_reducible refine gs9 137 ?_); (refine wvv9 (V.fieldAddr fo69_0 rfl nq9) ?_; go_step)) | ((with_reducible refine gs9 139 ?_); (refine wvv9 (V.eql rfl rfl) ?_; go_step)) | ((with_reducible refine gs9 140 ?_); (refine wvv9 (V.fieldAddr fo69_0 rfl nq9) ?_; go_step)) | ((with_reducible refine gs9 142 ?_); (refine wvv9 (V.eql rfl rfl) ?_; go_step)) | ((with_reducible refine gs9 146 ?_); (refine wvv9 (V.fieldAddr fo69_0 rfl nq9) ?_; go_step)) | ((with_reducible refine gs9 149 ?_); (refine wvv9 (V.addI rfl rfl (by omega)) ?_; go_step)) | ((with_reducible refine gs9 151 ?_); (refine wvv9 (V.lss rfl rfl) ?_; go_step)) | ((with_reducible refine gs9 156 ?_); (refine wvv9 (V.addI rfl rfl (by omega)) ?_; go_step)) | ((with_reducible refine gs9 158 ?_); (refine wvv9 (V.gtr rfl rfl) ?_; go_step)) | ((with_reducible refine gs9 161 ?_); (refine wvv9 (V.extract rfl rfl) ?_; go_step)) | ((with_reducible refine gs9 162 ?_); (refine wvv9 (V.extract rfl rfl) ?_; go_step)) | ((with_reducible refine gs9 163 ?_); (refine wvv9 (V.extract rfl rfl) ?_; go_step)) | ((with_reducible refine gt9 _ (.load 3 _) ?_); (refine wl9 ?_; apply wp_load1 hS 3 _ rfl _ _ rfl (one_of rfl) _; (case hp => exact pl9); (case hc => rfl); refine put_move ?_; go_step)) | ((with_reducible refine gt9 _ (.store 52 _ _) ?_); (refine wl9 ?_; apply wp_storeA hS 52 _ _ rfl _ rfl 64 (row_of rfl) _ _; (case hp => exact pl9); (case hy => rfl); (case hm => (repeat (first | assumption | exact Len.rep | apply Len.set | ((with_reducible show Len (_ :: _) _); exact rfl)))); (case hd => exact rfl); clear hS; intro w hS)) | ((fail_if_success with_reducible refine ga9 ?_); go_step))
        all_goals (try (have hF : False := (by omega); cases hF))
        all_goals
         refine ret_all (xs := [_, _, _]) rfl (.cons (OneRes.arr hS rfl (row_of (n := 64) rfl) pl9) (.cons (OneRes.tmp rfl) (.cons (OneRes.tmp rfl) (.nil)))) (by simp) rfl ?_
         exact from_no 4 HF2.out hS sb9
       case neg =>
        rw [if_neg hov] at hlo
        have HLo2 := hid hlo
        have HBl2 : Hid (∀ i, i < 64 → -2047 ≤ nth (bl.set (at_ + r) n2) i ∧ nth (bl.set (at_ + r) n2) i ≤ 2047) := hid fun i hi => by
         rw [nth_set _ _ _ _ (by rw [hbl.out]; omega)]
         split
         · omega
         · exact HBl.out i hi
        have hbl2 : Len (bl.set (at_ + r) n2) 64 := Len.set hbl
        clear hlo
        repeat' (first
         | ((with_reducible refine gs9 69 ?_); refine wl9 ?_; refine wp_callI rfl (.iface Z.tid Z.ptr) rfl [.bool false] rfl Z.f #[Z.ptr, .bool false] (Z.inv false) (Z.call _ _ _ s false _ _ _ _ _ hS pl9 HN2.out) ?_; clear hS; rintro e w ⟨rfl, hS⟩; refine ⟨_, rfl, ?_⟩; refine put_move ?_; go_step) | ((first | (with_reducible refine mv9 ?_) | (with_reducible refine as9 ?_)); (first | go_big_want | go_step); go_step) | ((with_reducible refine gs9 66 ?_); (refine wvv9 (V.lss rfl rfl) ?_; go_step)) | ((with_reducible refine gs9 70 ?_); (refine wvv9 (V.extract rfl rfl) ?_; go_step)) | ((with_reducible refine gs9 71 ?_); (refine wvv9 (V.extract rfl rfl) ?_; go_step)) | ((with_reducible refine gs9 14 ?_); (refine wl9 ?_; apply wp_alloc (o := ⟨some 14, _, _, _, _, _⟩) hS 69 rfl (.agg #[.int .i64 0, .int .i64 0, .int .i64 0]) [.int .i64 0, .int .i64 0, .int .i64 0] (fun w => Tryd.zeroValue69 w) rfl; clear hS; intro g14 w hS; refine put_move ?_; go_step)) | ((with_reducible refine gt9 _ (.store 69 _ _) ?_); (refine wl9 ?_; apply wp_storeG hS 69 _ _ rfl _ rfl 3 (row_of rfl) _ _; (case hp => exact pl9); (case hy => rfl); (case hn => rfl); (case hn' => rfl); (case hv => rfl); (case hd => exact rfl); clear hS; intro w hS)) | ((fail_if_success with_reducible refine ga9 ?_); go_step))
        all_goals (try (have hF : False := (by omega); cases hF))
        repeat' (first
         | ((with_reducible refine gs9 89 ?_); refine wpl_call (f := 71) Tryd.call71 kr9 ?_; refine ⟨_, (back_yes u1 u2 _ hB2), ?_⟩; rintro e w' ⟨rfl, rfl⟩; rw [HNb.out]; refine ⟨_, rfl, ?_⟩; refine put_move ?_; go_step) | ((first | (with_reducible refine mv9 ?_) | (with_reducible refine as9 ?_)); (first | go_big_want | go_step); go_step) | ((with_reducible refine gs9 73 ?_); (refine wvv9 (V.neq rfl rfl) ?_; go_step)) | ((with_reducible refine gs9 85 ?_); (refine wvv9 (V.fieldAddr fo69_1 rfl nq9) ?_; go_step)) | ((with_reducible refine gs9 87 ?_); (refine wvv9 (V.fieldAddr fo69_2 rfl nq9) ?_; go_step)) | ((with_reducible refine gs9 90 ?_); (refine wvv9 (V.extract rfl rfl) ?_; go_step)) | ((with_reducible refine gs9 91 ?_); (refine wvv9 (V.extract rfl rfl) ?_; go_step)) | ((with_reducible refine gt9 _ (.load 69 _) ?_); (refine wl9 ?_; apply wp_loadG hS 69 _ rfl _ rfl 3 (row_of rfl) _; (case hp => exact pl9); (case hn => rfl); refine put_move ?_; go_step)) | ((with_reducible refine gs9 82 ?_); (refine wl9 ?_; apply wp_buildSlice1 (o := ⟨some 82, _, _, _, _, _⟩) hS 100 1 _ rfl 69 3 24 el100 _ _; (case hvs => (repeat (first | exact Parts.nil | (apply Parts.agg; (rfl); (rfl)) | (apply Parts.one; exact isv9; (rfl); (rfl))))); (case hn => rfl); (case hn0 => decide); (case hns => decide); clear hS; intro g82 w hS; simp only [List.cons_append, List.nil_append] at hS; refine put_move ?_; go_step)) | ((with_reducible refine gs9 83 ?_); (refine wl9 ?_; apply wp_append (o := ⟨some 83, _, _, _, _, _⟩) hS _ _ 100 rfl 69 3 24 el100 _ _ _ _ rfl; (case hp => exact pl9); (case hx => exact rfl); (case hm => (first | exact hS.slBlk pl9 (by rfl) (by decide) | exact hS.sl pl9 | with_reducible assumption | exact Sl.ext (by with_reducible assumption) hS.1 | exact Sl.nil _ _ | exact Sl.ext (by assumption) hS.1 | assumption)); (case h1 => (first | exact oneAll rfl | exact oneMap _ _ | (intro u hu; cases hu))); (case h63 => unfold maxLen; omega); (case hb => omega); clear hS; intro ad83 c83 w hS; (first | simp only [mapk1] at hS | simp only [mapk2] at hS | simp only [mapk3] at hS | simp only [mapk4] at hS | simp only [mapkl] at hS | skip); refine put_move ?_; go_step)) | ((with_reducible refine gt9 _ (.load 3 _) ?_); (refine wl9 ?_; apply wp_load1 hS 3 _ rfl _ _ rfl (one_of rfl) _; (case hp => exact pl9); (case hc => rfl); refine put_move ?_; go_step)) | ((fail_if_success with_reducible refine ga9 ?_); go_step))
        all_goals (try (have hF : False := (by omega); cases hF))
        repeat' (first
         | ((with_reducible refine gs9 99 ?_); (refine wplV (.int _ ((u0 % 16))) (V.as (V.and rfl rfl) (by exact HAnd.out)) rfl ?_; go_step)) | go_big_skip | ((with_reducible refine mv9 ?_); (first | go_big_want | go_step); go_step) | ((with_reducible refine gt9 _ (.pick _ _ _) ?_); (refine wplPickF rfl kr9 ?_; go_step)) | ((with_reducible refine gs9 93 ?_); (refine wplD _ (V.neq rfl rfl) kr9 (fun hB => ?_) (fun hB => ?_) <;> (try (have hF : False := (by omega); cases hF)) <;> go_step)) | ((with_reducible refine gs9 100 ?_); (refine wplD _ (V.neq rfl rfl) kr9 (fun hB => ?_) (fun hB => ?_) <;> (try (have hF : False := (by omega); cases hF)) <;> go_step)) | ((with_reducible refine gs9 105 ?_); (refine wplD _ (V.gtr rfl rfl) kr9 (fun hB => ?_) (fun hB => ?_) <;> (try (have hF : False := (by omega); cases hF)) <;> go_step)) | ((with_reducible refine gs9 110 ?_); (refine wplD _ (V.lss rfl rfl) kr9 (fun hB => ?_) (fun hB => ?_) <;> (try (have hF : False := (by omega); cases hF)) <;> go_step)) | ((with_reducible refine gs9 115 ?_); (refine wplD _ (V.gtr rfl rfl) kr9 (fun hB => ?_) (fun hB => ?_) <;> (try (have hF : False := (by omega); cases hF)) <;> go_step)) | ((with_reducible refine gs9 120 ?_); (refine wplD _ (V.eql rfl rfl) kr9 (fun hB => ?_) (fun hB => ?_) <;> (try (have hF : False := (by omega); cases hF)) <;> go_step)) | ((with_reducible refine gs9 95 ?_); (refine wvv9 (V.fieldAddr fo69_1 rfl nq9) ?_; go_step)) | ((with_reducible refine gs9 97 ?_); (refine wvv9 (V.fieldAddr fo69_0 rfl nq9) ?_; go_step)) | ((with_reducible refine gs9 103 ?_); (refine wvv9 (V.fieldAddr fo69_1 rfl nq9) ?_; go_step)) | ((with_reducible refine gs9 108 ?_); (refine wvv9 (V.fieldAddr fo69_0 rfl nq9) ?_; go_step)) | ((with_reducible refine gs9 113 ?_); (refine wvv9 (V.fieldAddr fo69_0 rfl nq9) ?_; go_step)) | ((with_reducible refine gs9 118 ?_); (refine wvv9 (V.fieldAddr fo69_1 rfl nq9) ?_; go_step)) | ((with_reducible refine gt9 _ (.load 3 _) ?_); (refine wl9 ?_; apply wp_load1 hS 3 _ rfl _ _ rfl (one_of rfl) _; (case hp => exact pl9); (case hc => rfl); refine put_move ?_; go_step)) | ((fail_if_success with_reducible refine ga9 ?_); go_step))
        all_goals (try (have hF : False := (by omega); cases hF))
        repeat' (first
         | ((with_reducible refine gs9 148 ?_); (refine wplV (.int _ (((r : Nat) : Int))) (V.as (V.shr rfl rfl isn9 (by omega) rfl) (by exact HR4.out)) rfl ?_; go_step)) | ((first | (with_reducible refine mv9 ?_) | (with_reducible refine as9 ?_)); (first | go_big_want | go_step); go_step) | ((with_reducible refine gs9 137 ?_); (refine wvv9 (V.fieldAddr fo69_0 rfl nq9) ?_; go_step)) | ((with_reducible refine gs9 139 ?_); (refine wvv9 (V.eql rfl rfl) ?_; go_step)) | ((with_reducible refine gs9 140 ?_); (refine wvv9 (V.fieldAddr fo69_0 rfl nq9) ?_; go_step)) | ((with_reducible refine gs9 142 ?_); (refine wvv9 (V.eql rfl rfl) ?_; go_step)) | ((with_reducible refine gs9 146 ?_); (refine wvv9 (V.fieldAddr fo69_0 rfl nq9) ?_; go_step)) | ((with_reducible refine gs9 149 ?_); (refine wvv9 (V.addI rfl rfl (by omega)) ?_; go_step)) | ((with_reducible refine gs9 151 ?_); (refine wvv9 (V.lss rfl rfl) ?_; go_step)) | ((with_reducible refine gs9 154 ?_); (refine wvv9 (V.indexAr Tryd.underlying52 isz3 rfl rfl isn9 (by omega) (Nat.mul_one _) nq9) ?_; go_step)) | ((with_reducible refine gs9 156 ?_); (refine wvv9 (V.addI rfl rfl (by omega)) ?_; go_step)) | ((with_reducible refine gs9 158 ?_); (refine wvv9 (V.gtr rfl rfl) ?_; go_step)) | ((with_reducible refine gt9 _ (.load 3 _) ?_); (refine wl9 ?_; apply wp_load1 hS 3 _ rfl _ _ rfl (one_of rfl) _; (case hp => exact pl9); (case hc => rfl); refine put_move ?_; go_step)) | ((with_reducible refine gt9 _ (.store 3 _ _) ?_); (refine wl9 ?_; apply wp_store1A hS 3 _ _ rfl _ _ rfl (one_of rfl) _ _; (case hp => exact pl9); (case hy => rfl); (case hi => omega); (case hd => exact rfl); clear hS; intro w hS)) | ((fail_if_success with_reducible refine ga9 ?_); go_step))
        all_goals (try (have hF : False := (by omega); cases hF))
        go_roundg gk'
        case measure => omega
        case rel => exact ⟨at_ + r + 1, m + 1, bl.set (at_ + r) n2, all ++ [(u0, u1, u2)], ad83, c83, s2, by omega, by omega, by omega, by omega, by go_num, rfl, hid (by rw [List.length_append, HAl.out]; rfl), hbl2, HBl2, HLo2, (by rw [HFl.out]; exact hS.sub sb9)⟩
  · have hlo := HLo.out
    have hR0 : R = (0, bl, all, s) := by
     cases gk with
     | zero => rw [← hlo, frLoop]
     | succ g => rw [← hlo, frLoop, if_pos (by omega)]
    have HLo2 : Hid ((0, bl, all, s) = R) := hid hR0.symm
    have HAl2 : Hid (all.length = m) := HAl
    clear hlo hR0 HLo
    obtain ⟨zf, hzf⟩ : ∃ x, zfrom bl = x := ⟨_, rfl⟩
    have hzl : Len zf 64 := by rw [← hzf]; exact zfrom_len bl
    have HZf : Veil (zfrom bl = zf) := ⟨hzf⟩
    clear hzf
    repeat' (first
     | ((with_reducible refine mv9 ?_); (first | go_big_want | go_step); go_step) | ((with_reducible refine gs9 66 ?_); (refine wvv9 (V.lss rfl rfl) ?_; go_step)) | ((fail_if_success with_reducible refine ga9 ?_); go_step))
    all_goals (try (have hF : False := (by omega); cases hF))
    repeat' (first
     | ((with_reducible refine gt9 _ (.call ⟨.value (.func 73), _, _⟩) ?_); refine wpl_call (f := 73) Tryd.call73 kr9 ?_; refine ⟨_, (zfrom_any _ bl hbl.out), ?_⟩; rintro e w ⟨rfl, hE⟩; rw [HZf.out]; replace hS := hS.ext hE; clear hE; refine ⟨_, rfl, ?_⟩; refine put_move ?_; go_step) | ((with_reducible refine mv9 ?_); (first | go_big_want | go_step); go_step) | ((with_reducible refine gt9 _ (.load 52 _) ?_); (refine wl9 ?_; apply wp_loadA hS 52 _ rfl _ rfl 64 (row_of rfl) _; (case hp => exact pl9); refine put_move ?_; go_step)) | ((with_reducible refine gt9 _ (.store 52 _ _) ?_); (refine wl9 ?_; apply wp_storeA hS 52 _ _ rfl _ rfl 64 (row_of rfl) _ _; (case hp => exact pl9); (case hy => rfl); (case hm => (repeat (first | assumption | exact Len.rep | apply Len.set | ((with_reducible show Len (_ :: _) _); exact rfl)))); (case hd => exact rfl); clear hS; intro w hS)) | ((fail_if_success with_reducible refine ga9 ?_); go_step))
    have hzb : ∀ i, i < 64 → -2047 ≤ nth zf i ∧ nth zf i ≤ 2047 := fun i hi => by
     rw [← HZf.out]; exact zfrom_bd bl HBl.out i hi
    have HZb := hid hzb
    obtain ⟨T, hT⟩ : ∃ T, toksOf before bl = T := ⟨_, rfl⟩
    have HTz : Veil (toksOf before (zto zf) = T) := ⟨by rw [← HZf.out, zto_zfrom bl hbl.out, hT]⟩
    obtain ⟨NT, hNT⟩ : ∃ N, T.length = N := ⟨_, rfl⟩
    have hNT64 : NT ≤ 64 := by rw [← hNT, ← hT]; exact (toks_len before bl hbl.out).2
    have HTl := hid hNT
    have HRT : Veil (frm Z.next before s0 = if T = all then (0, zf, all, s) else (4, nought0, [], s)) := ⟨by
     rw [HF.out, ← HLo2.out]
     dsimp only
     rw [if_neg (by simp), hT, HZf.out]⟩
    clear hzb hT hNT
    by_cases hEq : T = all
    case pos =>
     have HD := hid (show decide (flt T = flt all) = true from decide_eq_true (by rw [hEq]))
     have HRF : Veil (frm Z.next before s0 = (0, zf, all, s)) := ⟨by rw [HRT.out, if_pos hEq]⟩
     clear hEq
     repeat' (first
      | ((with_reducible refine gs9 168 ?_); refine wpl_call (f := 75) Tryd.call75 kr9 ?_; refine ⟨_, (tokens_any _ before zf hzl hb HZb.out), ?_⟩; rintro e w ⟨a5, c5, rfl, hS2⟩; rw [HTz.out, HTl.out] at hS2; rw [HTz.out, HTl.out]; replace hS := hS.call1 hS2; clear hS2; refine ⟨_, rfl, ?_⟩; refine put_move ?_; go_step) | ((with_reducible refine gs9 170 ?_); refine wpl_call (f := 74) Tryd.call74 kr9 ?_; refine ⟨_, (slEqTok_any _ a5 a' NT c5 (m) c' (flt T) (flt all) (hS.sl (a := a5) pl9) (hS.sl (a := a') pl9) (by omega) (by omega)), ?_⟩; rintro e w ⟨he, hE⟩; rw [HD.out] at he; subst he; replace hS := hS.ext hE; clear hE; refine ⟨_, rfl, ?_⟩; refine put_move ?_; go_step) | ((first | (with_reducible refine mv9 ?_) | (with_reducible refine as9 ?_)); (first | go_big_want | go_step); go_step) | ((with_reducible refine gs9 171 ?_); (refine wvv9 (V.not rfl) ?_; go_step)) | ((with_reducible refine gt9 _ (.load 52 _) ?_); (refine wl9 ?_; apply wp_loadA hS 52 _ rfl _ rfl 64 (row_of rfl) _; (case hp => exact pl9); refine put_move ?_; go_step)) | ((with_reducible refine gt9 _ (.store 52 _ _) ?_); (refine wl9 ?_; apply wp_storeA hS 52 _ _ rfl _ rfl 64 (row_of rfl) _ _; (case hp => exact pl9); (case hy => rfl); (case hm => (repeat (first | assumption | exact Len.rep | apply Len.set | ((with_reducible show Len (_ :: _) _); exact rfl)))); (case hd => exact rfl); clear hS; intro w hS)) | ((fail_if_success with_reducible refine ga9 ?_); go_step))
     all_goals (try (have hF : False := (by omega); cases hF))
     refine ret_all (xs := [_, _, _]) rfl (.cons (OneRes.arr hS rfl (row_of (n := 64) rfl) pl9) (.cons (OneRes.tmp rfl) (.cons (OneRes.tmp rfl) (.nil)))) (by simp) rfl ?_
     refine ⟨a', c', ?_, ?_⟩
     · rw [HRF.out]; dsimp only; rw [HAl2.out]; first | done | rfl
     · rw [HRF.out]; dsimp only; rw [HAl2.out]; exact hS.sub sb9
    case neg =>
     have HD := hid (show decide (flt T = flt all) = false from decide_eq_false (fun h => hEq (flt_inj h)))
     have HRF : frm Z.next before s0 = (4, nought0, [], s) := by rw [HRT.out, if_neg hEq]
     have HRF2 : Veil (frm Z.next before s0 = (4, nought0, [], s)) := ⟨HRF⟩
     clear hEq HRF
     repeat' (first
      | ((with_reducible refine gs9 168 ?_); refine wpl_call (f := 75) Tryd.call75 kr9 ?_; refine ⟨_, (tokens_any _ before zf hzl hb HZb.out), ?_⟩; rintro e w ⟨a5, c5, rfl, hS2⟩; rw [HTz.out, HTl.out] at hS2; rw [HTz.out, HTl.out]; replace hS := hS.call1 hS2; clear hS2; refine ⟨_, rfl, ?_⟩; refine put_move ?_; go_step) | ((with_reducible refine gs9 170 ?_); refine wpl_call (f := 74) Tryd.call74 kr9 ?_; refine ⟨_, (slEqTok_any _ a5 a' NT c5 (m) c' (flt T) (flt all) (hS.sl (a := a5) pl9) (hS.sl (a := a') pl9) (by omega) (by omega)), ?_⟩; rintro e w ⟨he, hE⟩; rw [HD.out] at he; subst he; replace hS := hS.ext hE; clear hE; refine ⟨_, rfl, ?_⟩; refine put_move ?_; go_step) | ((with_reducible refine gs9 173 ?_); refine wl9 ?_; refine wp_callV (f := 70) rfl rfl Tryd.call70 (none_any _ _) ?_; rintro e w ⟨rfl, hE⟩; replace hS := hS.ext hE; clear hE; refine ⟨_, rfl, ?_⟩; refine put_move ?_; go_step) | ((first | (with_reducible refine mv9 ?_) | (with_reducible refine as9 ?_)); (first | go_big_want | go_step); go_step) | ((with_reducible refine gs9 171 ?_); (refine wvv9 (V.not rfl) ?_; go_step)) | ((with_reducible refine gs9 174 ?_); (refine wvv9 (V.extract rfl rfl) ?_; go_step)) | ((with_reducible refine gs9 175 ?_); (refine wvv9 (V.extract rfl rfl) ?_; go_step)) | ((with_reducible refine gs9 176 ?_); (refine wvv9 (V.extract rfl rfl) ?_; go_step)) | ((with_reducible refine gt9 _ (.store 52 _ _) ?_); (refine wl9 ?_; apply wp_storeA hS 52 _ _ rfl _ rfl 64 (row_of rfl) _ _; (case hp => exact pl9); (case hy => rfl); (case hm => (repeat (first | assumption | exact Len.rep | apply Len.set | ((with_reducible show Len (_ :: _) _); exact rfl)))); (case hd => exact rfl); clear hS; intro w hS)) | ((fail_if_success with_reducible refine ga9 ?_); go_step))
     all_goals (try (have hF : False := (by omega); cases hF))
     refine ret_all (xs := [_, _, _]) rfl (.cons (OneRes.arr hS rfl (row_of (n := 64) rfl) pl9) (.cons (OneRes.tmp rfl) (.cons (OneRes.tmp rfl) (.nil)))) (by simp) rfl ?_
     exact from_no 4 HRF2.out hS sb9

end Go.Proofs.YtehbjhocgnfpmaaDoor