/- The law SegPure: what its proof needs, part 4. -/
import Derived.Test.YtehbjhocgnfpmaaDoorSegPureZ3
import Derived.Laws.Bits64b
import Derived.Laws.CopyRow
import Derived.Laws.IdiomCopy
/- The writer of bits: what it holds, and the walks of its methods. -/
namespace Go.Proofs.YtehbjhocgnfpmaaDoor
set_option maxRecDepth 100000
open Go.RowKit
theorem pow_lt (n m : Nat) (h : n ≤ m) : 2 ^ n ≤ 2 ^ m := Nat.pow_le_pow_right (by omega) h
theorem or_num (A v width : Nat) (hA : A < 128) (hw : width ≤ 24) (hv : v < 2 ^ width) : bits .or .u64 (IntKind.u64.wrap ((A : Int) * 2 ^ width)) (v : Int) = ((A * 2 ^ width + v : Nat) : Int) := by
  have h1 : A * 2 ^ width < 128 * 16777216 := by
    have h2 := pow_lt width 24 hw
    have h3 : A * 2 ^ width ≤ 127 * 2 ^ 24 := Nat.mul_le_mul (by omega) h2
    omega
  have h4 := Nat.lt_of_lt_of_le hv (pow_lt width 24 hw)
  have e1 : IntKind.u64.wrap ((A : Int) * 2 ^ width) = ((A * 2 ^ width : Nat) : Int) := by
    rw [show (A : Int) * 2 ^ width = ((A * 2 ^ width : Nat) : Int) by push_cast; rfl]
    generalize A * 2 ^ width = x at h1
    simp [IntKind.wrap, IntKind.signed, IntKind.bits]
    omega
  rw [e1, bits_or_u64_nat _ _ (by omega) (by omega)]
  congr 1
  rw [← Nat.shiftLeft_eq, Nat.shiftLeft_add_eq_or_of_lt hv]
theorem and_num (N R : Nat) (hN : N < 18446744073709551616) (hR : R < 64) : bits .and .u64 (N : Int) (IntKind.u64.wrap (IntKind.u64.wrap ((2 : Int) ^ R) - 1)) = ((N % 2 ^ R : Nat) : Int) := by
  have h1 : 2 ^ R ≤ 2 ^ 63 := pow_lt R 63 (by omega)
  have h0 : 0 < 2 ^ R := Nat.two_pow_pos R
  have e1 : IntKind.u64.wrap (IntKind.u64.wrap ((2 : Int) ^ R) - 1) = ((2 ^ R - 1 : Nat) : Int) := by
    rw [show (2 : Int) ^ R = ((2 ^ R : Nat) : Int) by push_cast; rfl]
    generalize 2 ^ R = x at h1 h0
    simp [IntKind.wrap, IntKind.signed, IntKind.bits]
    omega
  rw [e1, bits_and_u64_nat _ _ hN (by omega), Nat.and_two_pow_sub_one_eq_mod]
/-- A writer at block g that has taken the bits bs. -/
def wr (g : Nat) (bs : List Bool) : Res := bag fun x : Option Addr × Nat =>
  [blk g [.slice x.1 (bs.length / 8) x.2, .int .u64 (num (bs.drop (8 * (bs.length / 8))) : Nat), .int .i64 (bs.length % 8 : Nat)],
   own 5 1 x.1 (bs.length / 8) x.2 (bv (packs (bs.length / 8) bs))]
set_option maxHeartbeats 2000000 in
theorem put_any (W w : World) (rs rs' : List Res) (g : Nat) (bs : List Bool) (width value : Nat) (hS : St W w rs) (hp : Pull (wr g bs) rs rs') (hw : width ≤ 24) (hv : value < 2 ^ width) (hb : bs.length + width ≤ 1099511627776) :
    Calls Tryd.prog 41 #[.pointer (some ⟨g, 0, none⟩), .int .i64 width, .int .i64 value] w fun e w' => e = .returned (.tuple #[]) ∧ St W w' (wr g (bs ++ bitsOf width value) :: rs') := by
  obtain ⟨⟨ad, c⟩, hS⟩ := (hS.pull hp).open
  have hv24 : value < 16777216 := Nat.lt_of_lt_of_le hv (Nat.pow_le_pow_right (n := 2) (by omega) hw)
  have hrl : (bs.drop (8 * (bs.length / 8))).length = bs.length % 8 := by simp; omega
  have hr8 : num (bs.drop (8 * (bs.length / 8))) < 128 := by
    have h1 := num_lt (bs.drop (8 * (bs.length / 8)))
    rw [hrl] at h1
    exact Nat.lt_of_lt_of_le h1 (Nat.pow_le_pow_right (n := 2) (j := 7) (by omega) (by omega))
  dsimp only [List.cons_append, List.nil_append] at hS
  generalize hA : num (bs.drop (8 * (bs.length / 8))) = A at *
  generalize hM : bs.length % 8 = M at *
  have hm8 : M < 8 := by omega
  have HOR := hid (or_num A value width (by omega) hw hv)
  go_enter Tryd.func41, Tryd.ntmps41
  go_wp2_with (first
    | ((with_reducible apply gt9 _ (.load 76 _)); first | (refine wpl rfl (wp_load1 hS 76 _ rfl _ _ rfl (one_of rfl) _ pl9 _ (by rfl) ?_); refine wpl_put (by (simp only [Act.put, List.setIfInBounds_toArray, List.set_cons_zero, List.set_cons_succ]); exact rfl) ?_) | (refine wpl rfl (wp_load1O hS 76 _ rfl _ _ rfl (one_of rfl) _ _ _ _ _ pl9 _ (by with_reducible assumption) ?_); refine wpl_put (by (simp only [Act.put, List.setIfInBounds_toArray, List.set_cons_zero, List.set_cons_succ]); exact rfl) ?_) | (refine wpl rfl (wp_loadW hS 76 _ rfl _ rfl (one_of rfl) _ (by with_reducible assumption) ?_); refine wpl_put (by (simp only [Act.put, List.setIfInBounds_toArray, List.set_cons_zero, List.set_cons_succ]); exact rfl) ?_)) | ((with_reducible apply gt9 _ (.store 76 _ _)); first | (refine wpl rfl (wp_store1 hS 76 _ _ rfl _ _ rfl (one_of rfl) _ _ pl9 _ isv9 (by rfl) (by (repeat (first | with_reducible exact SetAt.head | apply SetAt.tail))) rfl ?_); clear hS; intro w hS)) | ((with_reducible apply gt9 _ (.load 3 _)); first | (refine wpl rfl (wp_load1A hS 3 _ rfl _ _ rfl (one_of rfl) _ _ pl9 (by omega) ?_); refine wpl_put (by (simp only [Act.put, List.setIfInBounds_toArray, List.set_cons_zero, List.set_cons_succ]); exact rfl) ?_) | (refine wpl rfl (wp_load1 hS 3 _ rfl _ _ rfl (one_of rfl) _ pl9 _ (by rfl) ?_); refine wpl_put (by (simp only [Act.put, List.setIfInBounds_toArray, List.set_cons_zero, List.set_cons_succ]); exact rfl) ?_) | (refine wpl rfl (wp_load1O hS 3 _ rfl _ _ rfl (one_of rfl) _ _ _ _ _ pl9 _ (by with_reducible assumption) ?_); refine wpl_put (by (simp only [Act.put, List.setIfInBounds_toArray, List.set_cons_zero, List.set_cons_succ]); exact rfl) ?_) | (refine wpl rfl (wp_loadW hS 3 _ rfl _ rfl (one_of rfl) _ (by with_reducible assumption) ?_); refine wpl_put (by (simp only [Act.put, List.setIfInBounds_toArray, List.set_cons_zero, List.set_cons_succ]); exact rfl) ?_)) | ((with_reducible apply gt9 _ (.store 3 _ _)); first | (refine wpl rfl (wp_store1A hS 3 _ _ rfl _ _ rfl (one_of rfl) _ _ pl9 _ (by rfl) (by omega) rfl ?_); clear hS; intro w hS) | (refine wpl rfl (wp_store1 hS 3 _ _ rfl _ _ rfl (one_of rfl) _ _ pl9 _ isv9 (by rfl) (by (repeat (first | with_reducible exact SetAt.head | apply SetAt.tail))) rfl ?_); clear hS; intro w hS)) | ((with_reducible apply gt9 _ (.load 34 _)); first | (refine wpl rfl (wp_load1 hS 34 _ rfl _ _ rfl (one_of rfl) _ pl9 _ (by rfl) ?_); refine wpl_put (by (simp only [Act.put, List.setIfInBounds_toArray, List.set_cons_zero, List.set_cons_succ]); exact rfl) ?_) | (refine wpl rfl (wp_load1O hS 34 _ rfl _ _ rfl (one_of rfl) _ _ _ _ _ pl9 _ (by with_reducible assumption) ?_); refine wpl_put (by (simp only [Act.put, List.setIfInBounds_toArray, List.set_cons_zero, List.set_cons_succ]); exact rfl) ?_) | (refine wpl rfl (wp_loadW hS 34 _ rfl _ rfl (one_of rfl) _ (by with_reducible assumption) ?_); refine wpl_put (by (simp only [Act.put, List.setIfInBounds_toArray, List.set_cons_zero, List.set_cons_succ]); exact rfl) ?_)) | ((with_reducible apply gt9 (some 54) (.buildSlice 34 _ _)); first | (refine wpl rfl (wp_buildSlice1 (o := ⟨some 54, _, _, _, _, _⟩) hS 34 1 _ rfl 5 1 1 el34 _ _ (by (repeat (first | exact Parts.nil | (apply Parts.agg; (rfl); (rfl)) | (apply Parts.one; exact isv9; (rfl); (rfl))))) (by rfl) (by decide) (by decide) ?_); clear hS; intro g54 w hS; refine wpl_put (by (simp only [Act.put, List.setIfInBounds_toArray, List.set_cons_zero, List.set_cons_succ]); exact rfl) ?_)) | ((with_reducible apply gt9 _ (.store 34 _ _)); first | (refine wpl rfl (wp_store1 hS 34 _ _ rfl _ _ rfl (one_of rfl) _ _ pl9 _ isv9 (by rfl) (by (repeat (first | with_reducible exact SetAt.head | apply SetAt.tail))) rfl ?_); clear hS; intro w hS))
                                                            | (first | refine stop_load ?_ | refine stop_store ?_ | refine stop_alloc ?_ | refine stop_box ?_))
  rw [HOR.out] at hS
  have HN := hid (show num (bs.drop (8 * (bs.length / 8)) ++ bitsOf width value) = A * 2 ^ width + value by rw [num_append, bitsOf_len, num_bitsOf_lt _ _ hv, hA])
  have HT := hid (show (bs.drop (8 * (bs.length / 8)) ++ bitsOf width value).length = M + width by rw [List.length_append, bitsOf_len, hrl])
  generalize hT : M + width = T at *
  generalize hN : A * 2 ^ width + value = N at *
  generalize hq : bs.length / 8 = q at *
  have hBl : bs.length = 8 * q + M := by omega
  have hX : packs (q + 0) (bs ++ bitsOf width value) = packs q bs := packs_append q bs _ (by omega)
  rw [← hX] at hS
  rw [show ((M : Int) + (width : Int)) = ((T : Nat) : Int) by omega] at hS
  clear hX
  go_loopg [] 4 (fun gk wr => ∃ (j : Nat) (ad' : Option Addr) (c' : Nat), gk + j = 4 ∧ 8 * j ≤ T ∧ St W wr (blk g [.slice ad' (q + j) c', .int .u64 (N : Nat), .int .i64 (T - 8 * j : Nat)] :: own 5 1 ad' (q + j) c' (bv (packs (q + j) (bs ++ bitsOf width value))) :: rs'))
  case atStart => exact ⟨0, ad, c, rfl, by omega, hS⟩
  case round =>
    clear hS
    obtain ⟨j, ad', c', hj, hjT, hS⟩ := hrel
    generalize hR : T - 8 * j = R at *
    by_cases h8 : 8 ≤ R
    · obtain ⟨r, hr⟩ : ∃ r, R = r + 8 := ⟨R - 8, by omega⟩
      have hb1 : IntKind.i64.wrap ((R : Int) - 8) = (r : Int) := by simp [IntKind.wrap, IntKind.signed, IntKind.bits]; omega
      have hb2 : (0 : Int) ≤ (r : Int) := by omega
      have hb3 : (r : Int) < 64 := by omega
      have HR := hid hr
      have HP := hid (show q + j + 1 ≤ maxLen ∧ (q + j + 1) * 1 ≤ 140737488355328 by unfold maxLen; omega)
      clear hr
      have HBy : Hid ((N : Int) / 2 ^ r % 256 = ((num (((bs ++ bitsOf width value).drop (8 * (q + j))).take 8) : Nat) : Int)) := by
        have h1 := num_window (bs.drop (8 * q) ++ bitsOf width value) (8 * j) 8 (by rw [HT.out]; omega)
        rw [HT.out, HN.out, show T - 8 * j - 8 = r by have := HR.out; omega] at h1
        have h2 : (bs ++ bitsOf width value).drop (8 * (q + j)) = (bs.drop (8 * q) ++ bitsOf width value).drop (8 * j) := by
          rw [Nat.mul_add, ← List.drop_drop, List.drop_append_of_le_length (by omega)]
        unfold Hid
        rw [h2, h1]
        have h3 : ((N : Int) / 2 ^ r) = ((N / 2 ^ r : Nat) : Int) := by push_cast; rfl
        rw [h3]
        generalize N / 2 ^ r = y
        simp
      go_wp2_with (first
        | ((with_reducible apply gt9 _ (.load 76 _)); first | (refine wpl rfl (wp_load1 hS 76 _ rfl _ _ rfl (one_of rfl) _ pl9 _ (by rfl) ?_); refine wpl_put (by (simp only [Act.put, List.setIfInBounds_toArray, List.set_cons_zero, List.set_cons_succ]); exact rfl) ?_) | (refine wpl rfl (wp_load1O hS 76 _ rfl _ _ rfl (one_of rfl) _ _ _ _ _ pl9 _ (by with_reducible assumption) ?_); refine wpl_put (by (simp only [Act.put, List.setIfInBounds_toArray, List.set_cons_zero, List.set_cons_succ]); exact rfl) ?_) | (refine wpl rfl (wp_loadW hS 76 _ rfl _ rfl (one_of rfl) _ (by with_reducible assumption) ?_); refine wpl_put (by (simp only [Act.put, List.setIfInBounds_toArray, List.set_cons_zero, List.set_cons_succ]); exact rfl) ?_)) | ((with_reducible apply gt9 _ (.store 76 _ _)); first | (refine wpl rfl (wp_store1 hS 76 _ _ rfl _ _ rfl (one_of rfl) _ _ pl9 _ isv9 (by rfl) (by (repeat (first | with_reducible exact SetAt.head | apply SetAt.tail))) rfl ?_); clear hS; intro w hS)) | ((with_reducible apply gt9 _ (.load 3 _)); first | (refine wpl rfl (wp_load1A hS 3 _ rfl _ _ rfl (one_of rfl) _ _ pl9 (by omega) ?_); refine wpl_put (by (simp only [Act.put, List.setIfInBounds_toArray, List.set_cons_zero, List.set_cons_succ]); exact rfl) ?_) | (refine wpl rfl (wp_load1 hS 3 _ rfl _ _ rfl (one_of rfl) _ pl9 _ (by rfl) ?_); refine wpl_put (by (simp only [Act.put, List.setIfInBounds_toArray, List.set_cons_zero, List.set_cons_succ]); exact rfl) ?_) | (refine wpl rfl (wp_load1O hS 3 _ rfl _ _ rfl (one_of rfl) _ _ _ _ _ pl9 _ (by with_reducible assumption) ?_); refine wpl_put (by (simp only [Act.put, List.setIfInBounds_toArray, List.set_cons_zero, List.set_cons_succ]); exact rfl) ?_) | (refine wpl rfl (wp_loadW hS 3 _ rfl _ rfl (one_of rfl) _ (by with_reducible assumption) ?_); refine wpl_put (by (simp only [Act.put, List.setIfInBounds_toArray, List.set_cons_zero, List.set_cons_succ]); exact rfl) ?_)) | ((with_reducible apply gt9 _ (.store 3 _ _)); first | (refine wpl rfl (wp_store1A hS 3 _ _ rfl _ _ rfl (one_of rfl) _ _ pl9 _ (by rfl) (by omega) rfl ?_); clear hS; intro w hS) | (refine wpl rfl (wp_store1 hS 3 _ _ rfl _ _ rfl (one_of rfl) _ _ pl9 _ isv9 (by rfl) (by (repeat (first | with_reducible exact SetAt.head | apply SetAt.tail))) rfl ?_); clear hS; intro w hS)) | ((with_reducible apply gt9 _ (.load 34 _)); first | (refine wpl rfl (wp_load1 hS 34 _ rfl _ _ rfl (one_of rfl) _ pl9 _ (by rfl) ?_); refine wpl_put (by (simp only [Act.put, List.setIfInBounds_toArray, List.set_cons_zero, List.set_cons_succ]); exact rfl) ?_) | (refine wpl rfl (wp_load1O hS 34 _ rfl _ _ rfl (one_of rfl) _ _ _ _ _ pl9 _ (by with_reducible assumption) ?_); refine wpl_put (by (simp only [Act.put, List.setIfInBounds_toArray, List.set_cons_zero, List.set_cons_succ]); exact rfl) ?_) | (refine wpl rfl (wp_loadW hS 34 _ rfl _ rfl (one_of rfl) _ (by with_reducible assumption) ?_); refine wpl_put (by (simp only [Act.put, List.setIfInBounds_toArray, List.set_cons_zero, List.set_cons_succ]); exact rfl) ?_)) | ((with_reducible apply gt9 (some 54) (.buildSlice 34 _ _)); first | (refine wpl rfl (wp_buildSlice1 (o := ⟨some 54, _, _, _, _, _⟩) hS 34 1 _ rfl 5 1 1 el34 _ _ (by (repeat (first | exact Parts.nil | (apply Parts.agg; (rfl); (rfl)) | (apply Parts.one; exact isv9; (rfl); (rfl))))) (by rfl) (by decide) (by decide) ?_); clear hS; intro g54 w hS; refine wpl_put (by (simp only [Act.put, List.setIfInBounds_toArray, List.set_cons_zero, List.set_cons_succ]); exact rfl) ?_)) | ((with_reducible apply gt9 _ (.store 34 _ _)); first | (refine wpl rfl (wp_store1 hS 34 _ _ rfl _ _ rfl (one_of rfl) _ _ pl9 _ isv9 (by rfl) (by (repeat (first | with_reducible exact SetAt.head | apply SetAt.tail))) rfl ?_); clear hS; intro w hS))
                                                            | (first | refine stop_load ?_ | refine stop_store ?_ | refine stop_alloc ?_ | refine stop_box ?_))
      refine drawn_lit [17, 20] (fun w => St W w [blk g [.slice ad' (q + j) c', .int .u64 (N : Nat), .int .i64 (R : Nat)]]) (by kernel_rfl) ?_
      replace hS := hS.drew
      apply takeP 0 al9 (by kernel_rfl) (by kernel_rfl) (by kernel_rfl) (fun _ _ _ _ h => h)
      case hfr => intro w; go_wp2_with fail; exact ⟨rfl, rfl⟩
      case hd => rfl
      apply takeP 1 al9 (by kernel_rfl) (by kernel_rfl) (by kernel_rfl) (fun _ _ _ _ h => h)
      case hfr => intro w; go_wp2_with fail; exact ⟨rfl, rfl⟩
      case hd => rfl
      apply takeP 2 al9 (by kernel_rfl) (by kernel_rfl) (by kernel_rfl) (fun _ _ _ _ h => h)
      case hfr => intro w; go_wp2_with fail; exact ⟨rfl, rfl⟩
      case hd => rfl
      apply takeP 3 al9 (by kernel_rfl) (by kernel_rfl) (by kernel_rfl) (fun _ _ _ _ h => h)
      case hfr => intro w; go_wp2_with fail; exact ⟨rfl, rfl⟩
      case hd => rfl
      apply takeS 4 al9 (by kernel_rfl) (by kernel_rfl) (by kernel_rfl) (fun _ _ _ _ h => h) [17, 18, 19, 20] (by kernel_rfl) (hS.sub sb9)
      case hfr => intro w hS; go_wp2_with (first | (refine wpl rfl (wp_load1 hS 34 _ rfl _ _ rfl (one_of rfl) _ pl9 _ (by rfl) ?_); refine wpl_put (by (simp only [Act.put, List.setIfInBounds_toArray, List.set_cons_zero, List.set_cons_succ]); exact rfl) ?_) | (refine wpl rfl (wp_load1O hS 34 _ rfl _ _ rfl (one_of rfl) _ _ _ _ _ pl9 _ (by with_reducible assumption) ?_); refine wpl_put (by (simp only [Act.put, List.setIfInBounds_toArray, List.set_cons_zero, List.set_cons_succ]); exact rfl) ?_) | (refine wpl rfl (wp_loadW hS 34 _ rfl _ rfl (one_of rfl) _ (by with_reducible assumption) ?_); refine wpl_put (by (simp only [Act.put, List.setIfInBounds_toArray, List.set_cons_zero, List.set_cons_succ]); exact rfl) ?_)); exact ⟨rfl, rfl⟩
      case hd => rfl
      apply takeP 5 al9 (by kernel_rfl) (by kernel_rfl) (by kernel_rfl) (fun _ _ _ _ h => h)
      case hfr => intro w; go_wp2_with fail; exact ⟨rfl, rfl⟩
      case hd => rfl
      apply takeP 6 al9 (by kernel_rfl) (by kernel_rfl) (by kernel_rfl) (fun _ _ _ _ h => h)
      case hfr => intro w; go_wp2_with fail; exact ⟨rfl, rfl⟩
      case hd => rfl
      apply takeP 7 al9 (by kernel_rfl) (by kernel_rfl) (by kernel_rfl) (fun _ _ _ _ h => h)
      case hfr => intro w; go_wp2_with fail; exact ⟨rfl, rfl⟩
      case hd => rfl
      apply takeS 8 al9 (by kernel_rfl) (by kernel_rfl) (by kernel_rfl) (fun _ _ _ _ h => h) [14, 15, 16, 17, 18, 19, 20] (by kernel_rfl) (hS.sub sb9)
      case hfr => intro w hS; go_wp2_with (first | (refine wpl rfl (wp_load1 hS 76 _ rfl _ _ rfl (one_of rfl) _ pl9 _ (by rfl) ?_); refine wpl_put (by (simp only [Act.put, List.setIfInBounds_toArray, List.set_cons_zero, List.set_cons_succ]); exact rfl) ?_) | (refine wpl rfl (wp_load1O hS 76 _ rfl _ _ rfl (one_of rfl) _ _ _ _ _ pl9 _ (by with_reducible assumption) ?_); refine wpl_put (by (simp only [Act.put, List.setIfInBounds_toArray, List.set_cons_zero, List.set_cons_succ]); exact rfl) ?_) | (refine wpl rfl (wp_loadW hS 76 _ rfl _ rfl (one_of rfl) _ (by with_reducible assumption) ?_); refine wpl_put (by (simp only [Act.put, List.setIfInBounds_toArray, List.set_cons_zero, List.set_cons_succ]); exact rfl) ?_)); exact ⟨rfl, rfl⟩
      case hd => rfl
      apply takeP 9 al9 (by kernel_rfl) (by kernel_rfl) (by kernel_rfl) (fun _ _ _ _ h => h)
      case hfr => intro w; go_wp2_with fail; exact ⟨rfl, rfl⟩
      case hd => rfl
      apply takeP 10 al9 (by kernel_rfl) (by kernel_rfl) (by kernel_rfl) (fun _ _ _ _ h => h)
      case hfr => intro w; go_wp2_with fail; exact ⟨rfl, rfl⟩
      case hd => rfl
      apply takeP 11 al9 (by kernel_rfl) (by kernel_rfl) (by kernel_rfl) (fun _ _ _ _ h => h)
      case hfr => intro w; go_wp2_with fail; exact ⟨rfl, rfl⟩
      case hd => rfl
      apply takeS 12 al9 (by kernel_rfl) (by kernel_rfl) (by kernel_rfl) (fun _ _ _ _ h => h) [13, 14, 15, 16, 17, 18, 19, 20] (by kernel_rfl) (hS.sub sb9)
      case hfr => intro w hS; go_wp2_with (first | (refine wpl rfl (wp_load1A hS 3 _ rfl _ _ rfl (one_of rfl) _ _ pl9 (by omega) ?_); refine wpl_put (by (simp only [Act.put, List.setIfInBounds_toArray, List.set_cons_zero, List.set_cons_succ]); exact rfl) ?_) | (refine wpl rfl (wp_load1 hS 3 _ rfl _ _ rfl (one_of rfl) _ pl9 _ (by rfl) ?_); refine wpl_put (by (simp only [Act.put, List.setIfInBounds_toArray, List.set_cons_zero, List.set_cons_succ]); exact rfl) ?_) | (refine wpl rfl (wp_load1O hS 3 _ rfl _ _ rfl (one_of rfl) _ _ _ _ _ pl9 _ (by with_reducible assumption) ?_); refine wpl_put (by (simp only [Act.put, List.setIfInBounds_toArray, List.set_cons_zero, List.set_cons_succ]); exact rfl) ?_) | (refine wpl rfl (wp_loadW hS 3 _ rfl _ rfl (one_of rfl) _ (by with_reducible assumption) ?_); refine wpl_put (by (simp only [Act.put, List.setIfInBounds_toArray, List.set_cons_zero, List.set_cons_succ]); exact rfl) ?_)); exact ⟨rfl, rfl⟩
      case hd => rfl
      apply takeP 13 al9 (by kernel_rfl) (by kernel_rfl) (by kernel_rfl) (fun _ _ _ _ h => h)
      case hfr => intro w; go_wp2_with fail; exact ⟨rfl, rfl⟩
      case hd => rfl
      apply takeP 14 al9 (by kernel_rfl) (by kernel_rfl) (by kernel_rfl) (fun _ _ _ _ h => h)
      case hfr => intro w; go_wp2_with fail; exact ⟨rfl, rfl⟩
      case hd => rfl
      apply takeP 15 al9 (by kernel_rfl) (by kernel_rfl) (by kernel_rfl) (fun _ _ _ _ h => h)
      case hfr => intro w; go_wp2_with fail; exact ⟨rfl, rfl⟩
      case hd => rfl
      refine branch1 16 al9 rfl (by kernel_rfl) ?_
      (refine wp_buildSlice1 (o := ⟨some 54, _, _, _, _, _⟩) hS 34 1 _ rfl 5 1 1 el34 _ _ (by (repeat (first | exact Parts.nil | (apply Parts.agg; (rfl); (rfl)) | (apply Parts.one; exact isv9; (rfl); (rfl))))) (by rfl) (by decide) (by decide) ?_; clear hS; intro g54 w hS)
      refine ⟨fun _ _ => hS.sub sb9, ?_⟩
      refine drawn_put (by (simp only [Act.put, List.setIfInBounds_toArray, List.set_cons_zero, List.set_cons_succ]); exact rfl) ?_
      refine branch1 17 al9 rfl (by kernel_rfl) ?_
      refine wp_append hS _ _ 34 rfl _ 1 1 el34 _ _ _ _ rfl pl9 _ rfl 1 _ (hS.slBlk (n := 1) pl9 (by rfl) (by decide)) (by intro u hu; rw [List.mem_singleton] at hu; rw [hu]; rfl) HP.out.1 HP.out.2 ?_; clear hS; intro ad2 c2 w hS
      refine ⟨fun h => absurd (by decide) h, ?_⟩
      refine drawn_put (by (simp only [Act.put, List.setIfInBounds_toArray, List.set_cons_zero, List.set_cons_succ]); exact rfl) ?_
      apply takeP 18 al9 (by kernel_rfl) (by kernel_rfl) (by kernel_rfl) (fun _ _ _ _ h => h)
      case hfr => intro w; go_wp2_with fail; exact ⟨rfl, rfl⟩
      case hd => rfl
      apply takeP 19 al9 (by kernel_rfl) (by kernel_rfl) (by kernel_rfl) (fun _ _ _ _ h => h)
      case hfr => intro w; go_wp2_with fail; exact ⟨rfl, rfl⟩
      case hd => rfl
      refine branch1 20 al9 rfl (by kernel_rfl) ?_
      (refine wp_store1 hS 34 _ _ rfl _ _ rfl (one_of rfl) _ _ pl9 _ isv9 (by rfl) (by (repeat (first | with_reducible exact SetAt.head | apply SetAt.tail))) rfl ?_; clear hS; intro w hS)
      refine ⟨fun h => absurd (by decide) h, ?_⟩
      refine drawn_done (by kernel_rfl) ?_ _
      go_wp2_with (first
        | ((with_reducible apply gt9 _ (.load 76 _)); first | (refine wpl rfl (wp_load1 hS 76 _ rfl _ _ rfl (one_of rfl) _ pl9 _ (by rfl) ?_); refine wpl_put (by (simp only [Act.put, List.setIfInBounds_toArray, List.set_cons_zero, List.set_cons_succ]); exact rfl) ?_) | (refine wpl rfl (wp_load1O hS 76 _ rfl _ _ rfl (one_of rfl) _ _ _ _ _ pl9 _ (by with_reducible assumption) ?_); refine wpl_put (by (simp only [Act.put, List.setIfInBounds_toArray, List.set_cons_zero, List.set_cons_succ]); exact rfl) ?_) | (refine wpl rfl (wp_loadW hS 76 _ rfl _ rfl (one_of rfl) _ (by with_reducible assumption) ?_); refine wpl_put (by (simp only [Act.put, List.setIfInBounds_toArray, List.set_cons_zero, List.set_cons_succ]); exact rfl) ?_)) | ((with_reducible apply gt9 _ (.store 76 _ _)); first | (refine wpl rfl (wp_store1 hS 76 _ _ rfl _ _ rfl (one_of rfl) _ _ pl9 _ isv9 (by rfl) (by (repeat (first | with_reducible exact SetAt.head | apply SetAt.tail))) rfl ?_); clear hS; intro w hS)) | ((with_reducible apply gt9 _ (.load 3 _)); first | (refine wpl rfl (wp_load1A hS 3 _ rfl _ _ rfl (one_of rfl) _ _ pl9 (by omega) ?_); refine wpl_put (by (simp only [Act.put, List.setIfInBounds_toArray, List.set_cons_zero, List.set_cons_succ]); exact rfl) ?_) | (refine wpl rfl (wp_load1 hS 3 _ rfl _ _ rfl (one_of rfl) _ pl9 _ (by rfl) ?_); refine wpl_put (by (simp only [Act.put, List.setIfInBounds_toArray, List.set_cons_zero, List.set_cons_succ]); exact rfl) ?_) | (refine wpl rfl (wp_load1O hS 3 _ rfl _ _ rfl (one_of rfl) _ _ _ _ _ pl9 _ (by with_reducible assumption) ?_); refine wpl_put (by (simp only [Act.put, List.setIfInBounds_toArray, List.set_cons_zero, List.set_cons_succ]); exact rfl) ?_) | (refine wpl rfl (wp_loadW hS 3 _ rfl _ rfl (one_of rfl) _ (by with_reducible assumption) ?_); refine wpl_put (by (simp only [Act.put, List.setIfInBounds_toArray, List.set_cons_zero, List.set_cons_succ]); exact rfl) ?_)) | ((with_reducible apply gt9 _ (.store 3 _ _)); first | (refine wpl rfl (wp_store1A hS 3 _ _ rfl _ _ rfl (one_of rfl) _ _ pl9 _ (by rfl) (by omega) rfl ?_); clear hS; intro w hS) | (refine wpl rfl (wp_store1 hS 3 _ _ rfl _ _ rfl (one_of rfl) _ _ pl9 _ isv9 (by rfl) (by (repeat (first | with_reducible exact SetAt.head | apply SetAt.tail))) rfl ?_); clear hS; intro w hS)) | ((with_reducible apply gt9 _ (.load 34 _)); first | (refine wpl rfl (wp_load1 hS 34 _ rfl _ _ rfl (one_of rfl) _ pl9 _ (by rfl) ?_); refine wpl_put (by (simp only [Act.put, List.setIfInBounds_toArray, List.set_cons_zero, List.set_cons_succ]); exact rfl) ?_) | (refine wpl rfl (wp_load1O hS 34 _ rfl _ _ rfl (one_of rfl) _ _ _ _ _ pl9 _ (by with_reducible assumption) ?_); refine wpl_put (by (simp only [Act.put, List.setIfInBounds_toArray, List.set_cons_zero, List.set_cons_succ]); exact rfl) ?_) | (refine wpl rfl (wp_loadW hS 34 _ rfl _ rfl (one_of rfl) _ (by with_reducible assumption) ?_); refine wpl_put (by (simp only [Act.put, List.setIfInBounds_toArray, List.set_cons_zero, List.set_cons_succ]); exact rfl) ?_)) | ((with_reducible apply gt9 (some 54) (.buildSlice 34 _ _)); first | (refine wpl rfl (wp_buildSlice1 (o := ⟨some 54, _, _, _, _, _⟩) hS 34 1 _ rfl 5 1 1 el34 _ _ (by (repeat (first | exact Parts.nil | (apply Parts.agg; (rfl); (rfl)) | (apply Parts.one; exact isv9; (rfl); (rfl))))) (by rfl) (by decide) (by decide) ?_); clear hS; intro g54 w hS; refine wpl_put (by (simp only [Act.put, List.setIfInBounds_toArray, List.set_cons_zero, List.set_cons_succ]); exact rfl) ?_)) | ((with_reducible apply gt9 _ (.store 34 _ _)); first | (refine wpl rfl (wp_store1 hS 34 _ _ rfl _ _ rfl (one_of rfl) _ _ pl9 _ isv9 (by rfl) (by (repeat (first | with_reducible exact SetAt.head | apply SetAt.tail))) rfl ?_); clear hS; intro w hS))
                                                            | (first | refine stop_load ?_ | refine stop_store ?_ | refine stop_alloc ?_ | refine stop_box ?_))
      go_roundg (gk - 1)
      case measure => have := HR.out; omega
      case rel =>
        refine ⟨j + 1, ad2, c2, by omega, by have := HR.out; omega, ?_⟩
        rw [show T - 8 * (j + 1) = r by have := HR.out; omega, ← Nat.add_assoc q j 1, packs_succ, bv_append, show (bv [num (((bs ++ bitsOf width value).drop (8 * (q + j))).take 8)] = [Value.int .u8 ((N : Int) / 2 ^ r % 256)]) by rw [HBy.out]; rfl]
        exact hS.sub sb9
    · have hlen : (bs ++ bitsOf width value).length = 8 * (q + j) + R := by rw [List.length_append, bitsOf_len]; omega
      have hd1 := hid (show (bs ++ bitsOf width value).length / 8 = q + j by omega)
      have hd2 := hid (show (bs ++ bitsOf width value).length % 8 = R by omega)
      have hval : Hid (num ((bs ++ bitsOf width value).drop (8 * (q + j))) = N % 2 ^ R) := by
        have h1 := num_window (bs.drop (8 * q) ++ bitsOf width value) (8 * j) R (by rw [HT.out]; omega)
        rw [HT.out, HN.out, show T - 8 * j - R = 0 by omega, Nat.pow_zero, Nat.div_one, List.take_of_length_le (by rw [List.length_drop, HT.out]; omega)] at h1
        unfold Hid
        rw [Nat.mul_add, ← List.drop_drop, List.drop_append_of_le_length (by omega)]
        exact h1
      have hNl : N < 18446744073709551616 := by
        have h1 := num_lt (bs.drop (8 * q) ++ bitsOf width value)
        rw [HN.out, HT.out] at h1
        exact Nat.lt_of_lt_of_le h1 (pow_lt T 64 (by omega))
      have HAND := hid (and_num N R hNl (by omega))
      clear hlen
      go_wp2_with (first
        | ((with_reducible apply gt9 _ (.load 76 _)); first | (refine wpl rfl (wp_load1 hS 76 _ rfl _ _ rfl (one_of rfl) _ pl9 _ (by rfl) ?_); refine wpl_put (by (simp only [Act.put, List.setIfInBounds_toArray, List.set_cons_zero, List.set_cons_succ]); exact rfl) ?_) | (refine wpl rfl (wp_load1O hS 76 _ rfl _ _ rfl (one_of rfl) _ _ _ _ _ pl9 _ (by with_reducible assumption) ?_); refine wpl_put (by (simp only [Act.put, List.setIfInBounds_toArray, List.set_cons_zero, List.set_cons_succ]); exact rfl) ?_) | (refine wpl rfl (wp_loadW hS 76 _ rfl _ rfl (one_of rfl) _ (by with_reducible assumption) ?_); refine wpl_put (by (simp only [Act.put, List.setIfInBounds_toArray, List.set_cons_zero, List.set_cons_succ]); exact rfl) ?_)) | ((with_reducible apply gt9 _ (.store 76 _ _)); first | (refine wpl rfl (wp_store1 hS 76 _ _ rfl _ _ rfl (one_of rfl) _ _ pl9 _ isv9 (by rfl) (by (repeat (first | with_reducible exact SetAt.head | apply SetAt.tail))) rfl ?_); clear hS; intro w hS)) | ((with_reducible apply gt9 _ (.load 3 _)); first | (refine wpl rfl (wp_load1A hS 3 _ rfl _ _ rfl (one_of rfl) _ _ pl9 (by omega) ?_); refine wpl_put (by (simp only [Act.put, List.setIfInBounds_toArray, List.set_cons_zero, List.set_cons_succ]); exact rfl) ?_) | (refine wpl rfl (wp_load1 hS 3 _ rfl _ _ rfl (one_of rfl) _ pl9 _ (by rfl) ?_); refine wpl_put (by (simp only [Act.put, List.setIfInBounds_toArray, List.set_cons_zero, List.set_cons_succ]); exact rfl) ?_) | (refine wpl rfl (wp_load1O hS 3 _ rfl _ _ rfl (one_of rfl) _ _ _ _ _ pl9 _ (by with_reducible assumption) ?_); refine wpl_put (by (simp only [Act.put, List.setIfInBounds_toArray, List.set_cons_zero, List.set_cons_succ]); exact rfl) ?_) | (refine wpl rfl (wp_loadW hS 3 _ rfl _ rfl (one_of rfl) _ (by with_reducible assumption) ?_); refine wpl_put (by (simp only [Act.put, List.setIfInBounds_toArray, List.set_cons_zero, List.set_cons_succ]); exact rfl) ?_)) | ((with_reducible apply gt9 _ (.store 3 _ _)); first | (refine wpl rfl (wp_store1A hS 3 _ _ rfl _ _ rfl (one_of rfl) _ _ pl9 _ (by rfl) (by omega) rfl ?_); clear hS; intro w hS) | (refine wpl rfl (wp_store1 hS 3 _ _ rfl _ _ rfl (one_of rfl) _ _ pl9 _ isv9 (by rfl) (by (repeat (first | with_reducible exact SetAt.head | apply SetAt.tail))) rfl ?_); clear hS; intro w hS)) | ((with_reducible apply gt9 _ (.load 34 _)); first | (refine wpl rfl (wp_load1 hS 34 _ rfl _ _ rfl (one_of rfl) _ pl9 _ (by rfl) ?_); refine wpl_put (by (simp only [Act.put, List.setIfInBounds_toArray, List.set_cons_zero, List.set_cons_succ]); exact rfl) ?_) | (refine wpl rfl (wp_load1O hS 34 _ rfl _ _ rfl (one_of rfl) _ _ _ _ _ pl9 _ (by with_reducible assumption) ?_); refine wpl_put (by (simp only [Act.put, List.setIfInBounds_toArray, List.set_cons_zero, List.set_cons_succ]); exact rfl) ?_) | (refine wpl rfl (wp_loadW hS 34 _ rfl _ rfl (one_of rfl) _ (by with_reducible assumption) ?_); refine wpl_put (by (simp only [Act.put, List.setIfInBounds_toArray, List.set_cons_zero, List.set_cons_succ]); exact rfl) ?_)) | ((with_reducible apply gt9 (some 54) (.buildSlice 34 _ _)); first | (refine wpl rfl (wp_buildSlice1 (o := ⟨some 54, _, _, _, _, _⟩) hS 34 1 _ rfl 5 1 1 el34 _ _ (by (repeat (first | exact Parts.nil | (apply Parts.agg; (rfl); (rfl)) | (apply Parts.one; exact isv9; (rfl); (rfl))))) (by rfl) (by decide) (by decide) ?_); clear hS; intro g54 w hS; refine wpl_put (by (simp only [Act.put, List.setIfInBounds_toArray, List.set_cons_zero, List.set_cons_succ]); exact rfl) ?_)) | ((with_reducible apply gt9 _ (.store 34 _ _)); first | (refine wpl rfl (wp_store1 hS 34 _ _ rfl _ _ rfl (one_of rfl) _ _ pl9 _ isv9 (by rfl) (by (repeat (first | with_reducible exact SetAt.head | apply SetAt.tail))) rfl ?_); clear hS; intro w hS))
                                                            | (first | refine stop_load ?_ | refine stop_store ?_ | refine stop_alloc ?_ | refine stop_box ?_))
      refine drawn_lit [13] (fun w => St W w [blk g [.slice ad' (q + j) c', .int .u64 (N : Nat), .int .i64 (R : Nat)]]) (by kernel_rfl) ?_
      replace hS := hS.drew
      apply takeP 0 al9 (by kernel_rfl) (by kernel_rfl) (by kernel_rfl) (fun _ _ _ _ h => h)
      case hfr => intro w; go_wp2_with fail; exact ⟨rfl, rfl⟩
      case hd => rfl
      apply takeP 1 al9 (by kernel_rfl) (by kernel_rfl) (by kernel_rfl) (fun _ _ _ _ h => h)
      case hfr => intro w; go_wp2_with fail; exact ⟨rfl, rfl⟩
      case hd => rfl
      apply takeP 2 al9 (by kernel_rfl) (by kernel_rfl) (by kernel_rfl) (fun _ _ _ _ h => h)
      case hfr => intro w; go_wp2_with fail; exact ⟨rfl, rfl⟩
      case hd => rfl
      apply takeS 3 al9 (by kernel_rfl) (by kernel_rfl) (by kernel_rfl) (fun _ _ _ _ h => h) [10, 11, 12, 13] (by kernel_rfl) (hS.sub sb9)
      case hfr => intro w hS; go_wp2_with (first | (refine wpl rfl (wp_load1 hS 76 _ rfl _ _ rfl (one_of rfl) _ pl9 _ (by rfl) ?_); refine wpl_put (by (simp only [Act.put, List.setIfInBounds_toArray, List.set_cons_zero, List.set_cons_succ]); exact rfl) ?_) | (refine wpl rfl (wp_load1O hS 76 _ rfl _ _ rfl (one_of rfl) _ _ _ _ _ pl9 _ (by with_reducible assumption) ?_); refine wpl_put (by (simp only [Act.put, List.setIfInBounds_toArray, List.set_cons_zero, List.set_cons_succ]); exact rfl) ?_) | (refine wpl rfl (wp_loadW hS 76 _ rfl _ rfl (one_of rfl) _ (by with_reducible assumption) ?_); refine wpl_put (by (simp only [Act.put, List.setIfInBounds_toArray, List.set_cons_zero, List.set_cons_succ]); exact rfl) ?_)); exact ⟨rfl, rfl⟩
      case hd => rfl
      apply takeP 4 al9 (by kernel_rfl) (by kernel_rfl) (by kernel_rfl) (fun _ _ _ _ h => h)
      case hfr => intro w; go_wp2_with fail; exact ⟨rfl, rfl⟩
      case hd => rfl
      apply takeP 5 al9 (by kernel_rfl) (by kernel_rfl) (by kernel_rfl) (fun _ _ _ _ h => h)
      case hfr => intro w; go_wp2_with fail; exact ⟨rfl, rfl⟩
      case hd => rfl
      apply takeP 6 al9 (by kernel_rfl) (by kernel_rfl) (by kernel_rfl) (fun _ _ _ _ h => h)
      case hfr => intro w; go_wp2_with fail; exact ⟨rfl, rfl⟩
      case hd => rfl
      apply takeS 7 al9 (by kernel_rfl) (by kernel_rfl) (by kernel_rfl) (fun _ _ _ _ h => h) [8, 9, 10, 11, 12, 13] (by kernel_rfl) (hS.sub sb9)
      case hfr => intro w hS; go_wp2_with (first | (refine wpl rfl (wp_load1A hS 3 _ rfl _ _ rfl (one_of rfl) _ _ pl9 (by omega) ?_); refine wpl_put (by (simp only [Act.put, List.setIfInBounds_toArray, List.set_cons_zero, List.set_cons_succ]); exact rfl) ?_) | (refine wpl rfl (wp_load1 hS 3 _ rfl _ _ rfl (one_of rfl) _ pl9 _ (by rfl) ?_); refine wpl_put (by (simp only [Act.put, List.setIfInBounds_toArray, List.set_cons_zero, List.set_cons_succ]); exact rfl) ?_) | (refine wpl rfl (wp_load1O hS 3 _ rfl _ _ rfl (one_of rfl) _ _ _ _ _ pl9 _ (by with_reducible assumption) ?_); refine wpl_put (by (simp only [Act.put, List.setIfInBounds_toArray, List.set_cons_zero, List.set_cons_succ]); exact rfl) ?_) | (refine wpl rfl (wp_loadW hS 3 _ rfl _ rfl (one_of rfl) _ (by with_reducible assumption) ?_); refine wpl_put (by (simp only [Act.put, List.setIfInBounds_toArray, List.set_cons_zero, List.set_cons_succ]); exact rfl) ?_)); exact ⟨rfl, rfl⟩
      case hd => rfl
      apply takeP 8 al9 (by kernel_rfl) (by kernel_rfl) (by kernel_rfl) (fun _ _ _ _ h => h)
      case hfr => intro w; go_wp2_with fail; exact ⟨rfl, rfl⟩
      case hd => rfl
      apply takeP 9 al9 (by kernel_rfl) (by kernel_rfl) (by kernel_rfl) (fun _ _ _ _ h => h)
      case hfr => intro w; go_wp2_with fail; exact ⟨rfl, rfl⟩
      case hd => rfl
      apply takeP 10 al9 (by kernel_rfl) (by kernel_rfl) (by kernel_rfl) (fun _ _ _ _ h => h)
      case hfr => intro w; go_wp2_with fail; exact ⟨rfl, rfl⟩
      case hd => rfl
      apply takeP 11 al9 (by kernel_rfl) (by kernel_rfl) (by kernel_rfl) (fun _ _ _ _ h => h)
      case hfr => intro w; go_wp2_with fail; exact ⟨rfl, rfl⟩
      case hd => rfl
      apply takeP 12 al9 (by kernel_rfl) (by kernel_rfl) (by kernel_rfl) (fun _ _ _ _ h => h)
      case hfr => intro w; go_wp2_with fail; exact ⟨rfl, rfl⟩
      case hd => rfl
      refine branch1 13 al9 rfl (by kernel_rfl) ?_
      (refine wp_store1 hS 76 _ _ rfl _ _ rfl (one_of rfl) _ _ pl9 _ isv9 (by rfl) (by (repeat (first | with_reducible exact SetAt.head | apply SetAt.tail))) rfl ?_; clear hS; intro w hS)
      refine ⟨fun h => absurd (by decide) h, ?_⟩
      refine drawn_done (by kernel_rfl) ?_ _
      go_end0
      refine ⟨rfl, St.close (ad', c') ?_⟩
      simp only [List.cons_append, List.nil_append]
      rw [HAND.out] at hS
      rw [hd1.out, hd2.out, hval.out]
      exact hS.sub sb9
end Go.Proofs.YtehbjhocgnfpmaaDoor

/- The walks of the reader: NewReader, Left, Get, Read. -/
namespace Go.Proofs.YtehbjhocgnfpmaaDoor
set_option maxRecDepth 100000
open Go.RowKit
set_option linter.unusedVariables false
end Go.Proofs.YtehbjhocgnfpmaaDoor

/- The walks of a table's coder: NewCoder, Put, Get. -/
namespace Go.Proofs.YtehbjhocgnfpmaaDoor
set_option maxRecDepth 100000
open Go.RowKit
set_option linter.unusedVariables false
theorem bl125_0_1 (a0 : Option Nat) (a1 : Option Nat) (w : World) : (Instr.build 125 #[(0, .map a0), (1, .map a1)]).run Tryd.prog w = .ok (.agg #[.map a0, .map a1]) w := by kernel_rfl
theorem bl154_0_1 (m0 : Int) (m1 : Int) (w : World) : (Instr.build 154 #[(0, .int .i64 m0), (1, .int .i64 m1)]).run Tryd.prog w = .ok (.agg #[.int .i64 m0, .int .i64 m1]) w := by kernel_rfl
/-- The coder's maps. -/
def wv (s : Int) (y : Nat × Nat) : Value := .agg #[.int .i64 s, .int .i64 (y.1 : Int), .int .i64 (y.2 : Int)]
def symF (L : List (Int × Nat × Nat)) (s : Int) : Option Value := (symW L s).map (wv s)
def codF (L : List (Int × Nat × Nat)) (p : Int × Int) : Option Value := (codW L p).map (Value.int .i64)
theorem symF_snoc (L : List (Int × Nat × Nat)) (s : Int) (l c : Nat) : (fun j => if j = s then some (Value.agg ([s, (l : Int), (c : Int)].map (Value.int .i64)).toArray) else symF L j) = symF (L ++ [(s, l, c)]) := by
  funext j
  unfold symF
  rw [symW_snoc]
  by_cases h : j = s
  · rw [if_pos h, if_pos h, h]; rfl
  · rw [if_neg h, if_neg h]
theorem codF_snoc (L : List (Int × Nat × Nat)) (s : Int) (l c : Nat) : (fun j => if j = ((l : Int), (c : Int)) then some (Value.int .i64 s) else codF L j) = codF (L ++ [(s, l, c)]) := by
  funext j
  unfold codF
  rw [codW_snoc]
  by_cases h : j = ((l : Int), (c : Int))
  · rw [if_pos h, if_pos h]; rfl
  · rw [if_neg h, if_neg h]
/-- A coder at block g, for these words. -/
def cod (g : Nat) (L : List (Int × Nat × Nat)) : Res := bag fun x : Nat × Nat => [blk g [.map (some x.1), .map (some x.2)], mp ik x.1 (symF L), mp pk x.2 (codF L)]
set_option maxRecDepth 100000 in
set_option maxHeartbeats 4000000 in
theorem newCoder_any (w0 : World) (C S : List Int) (ad : Option Addr) (n c : Nat) (hC : Len C 16) (hv : Sl w0 1 (.slice ad n c) n (S.map (Value.int .i64))) (hn : n ≤ 9223372036854775807) (hok : tabE C S = 0) :
    Calls Tryd.prog 59 #[tv C (.slice ad n c)] w0 fun e w => ∃ g, e = .returned (.pointer (some ⟨g, 0, none⟩)) ∧ St w0 w [cod g (wds C S)] := by
  have hSl : S.length = n := by have := hv.1; simpa using this
  have hn256 : n ≤ 256 := by have := (tabE_ok hok).2.2.1; omega
  obtain ⟨L, hL⟩ : ∃ L, wds C S = L := ⟨_, rfl⟩
  have HL := hid hL
  have HLl : Hid (L.length = n) := hid (by rw [← hL, wds_len _ _ (tabE_ok hok).2.1, hSl])
  have HOk := hid hok
  clear hSl hL hok
  have hS := St.start w0
  go_enter Tryd.func59, Tryd.ntmps59
  repeat' (first
    | ((with_reducible apply gt9 _ (.call ⟨.value (.func 61), _, _⟩)); refine wpl_call (f := 61) Tryd.call61 (by kernel_rfl) ?_; refine ⟨_, (wordsOf_any _ C S ad n c hC (hv.ext hS.1) hn HOk.out), ?_⟩; rintro e w ⟨a2, c2, rfl, hS2⟩; rw [HL.out] at hS2; replace hS := hS.call1 hS2; clear hS2; refine ⟨_, rfl, ?_⟩; refine put_move ?_; go_step) | ((with_reducible apply gt9 _ (.move _)); (first | go_big_want | go_step); go_step) | ((with_reducible apply gt9 _ (.assign _)); (first | go_big_want | go_step); go_step) | ((with_reducible apply gt9 (some 8) (.build 125 _)); (refine wvv9 (V.build (vs := [(0, _), (1, _)]) rfl (bl125_0_1 _ _)) ?_; go_step)) | ((with_reducible apply gt9 _ (.call ⟨.builtin .len, _, _⟩)); (refine wvv9 (V.len Tryd.underlying85 rfl) ?_; go_step)) | ((with_reducible apply gt9 (some 1) (.box 31 _)); (refine wpl (by kernel_rfl) ?_; apply wp_boxP (o := ⟨some 1, _, _, _, _, _⟩) hS 31 _ rfl _ rfl; clear hS; intro g1 w hS; refine put_move ?_; go_step)) | ((with_reducible apply gt9 (some 6) (.makeMap 122 _)); (refine wpl (by kernel_rfl) ?_; apply wp_makeMap (o := ⟨some 6, _, _, _, _, _⟩) ik hS 122 rfl; clear hS; intro g6 w hS; refine put_move ?_; go_step)) | ((with_reducible apply gt9 (some 7) (.makeMap 123 _)); (refine wpl (by kernel_rfl) ?_; apply wp_makeMap (o := ⟨some 7, _, _, _, _, _⟩) pk hS 123 rfl; clear hS; intro g7 w hS; refine put_move ?_; go_step)) | ((with_reducible apply gt9 (some 9) (.box 125 _)); (refine wpl (by kernel_rfl) ?_; apply wp_boxG (o := ⟨some 9, _, _, _, _, _⟩) hS 125 _ rfl _ rfl; clear hS; intro g9 w hS; refine put_move ?_; go_step)) | ((with_reducible apply gt9 _ (.load 31 _)); (refine wpl (by kernel_rfl) ?_; apply wp_loadPP hS 31 _ rfl _ _ rfl 17 (row_of rfl) _; (case hp => exact pl9); (case hi => (repeat (first | (apply AtP.head; (repeat (first | exact Pre.nil | (apply Pre.ints; (case hn => (first | (with_reducible assumption) | exact Len.rep | exact Len.set (by with_reducible assumption) | exact Len.set Len.rep | exact Len.set (Len.set Len.rep))); (case h => omega); (case hm => rfl)) | apply Pre.val))) | (apply AtP.skipI; (case hn => (first | (with_reducible assumption) | exact Len.rep | exact Len.set (by with_reducible assumption) | exact Len.set Len.rep | exact Len.set (Len.set Len.rep))); (case h => omega); (case ho => rfl)) | apply AtP.skipV))); refine put_move ?_; go_step)) | ((fail_if_success with_reducible apply ga9); go_step))
  go_loopg [13] n (fun gk kv w => ∃ (i : Nat), gk + i = n ∧ kv = .int .i64 i ∧ St w0 w [own 91 3 a2 n c2 ((wfl L).map (Value.int .i64)), blk g9 [.map (some g6), .map (some g7)], mp ik g6 (symF (L.take i)), mp pk g7 (codF (L.take i))])
  case atStart => exact ⟨0, rfl, rfl, (by rw [show symF (L.take 0) = fun _ => none from rfl, show codF (L.take 0) = fun _ => none from rfl]; exact hS.sub sb9)⟩
  case round =>
    clear hS
    obtain ⟨i, hi, rfl, hS⟩ := hrel
    by_cases hlt : i < n
    · obtain ⟨b2, rfl⟩ := own_some hS pl9 (by omega)
      obtain ⟨⟨s, l, k⟩, hx⟩ : ∃ x, L[i]? = some x := ⟨_, List.getElem?_eq_getElem (by rw [HLl.out]; exact hlt)⟩
      have hseg := wfl_get L i _ hx
      dsimp only at hseg
      have ht : L.take (i + 1) = L.take i ++ [(s, l, k)] := by rw [List.take_add_one, hx]; rfl
      have H1 := hid (symF_snoc (L.take i) s l k)
      have H2 := hid (codF_snoc (L.take i) s l k)
      rw [← ht] at H1 H2
      clear hx ht
      repeat' (first
        | ((with_reducible apply gt9 _ (.binOp .lss _ _ _ _)); (refine wvv9 (V.lss rfl rfl) ?_; go_step)) | ((with_reducible apply gt9 (some 15) (.indexAddr 85 _ _)); (refine wvv9 (V.indexSl Tryd.underlying85 isz91 rfl rfl isn9 (by omega) rfl nq9) ?_; go_step)) | ((with_reducible apply gt9 _ (.load 91 _)); (refine wpl (by kernel_rfl) ?_; apply wp_loadROE hS 91 _ rfl _ _ rfl 3 (row_of rfl) _ _ _ _ _; (case hp => exact pl9); (case hi => omega); (case hl' => with_reducible assumption); refine put_move ?_; go_step)) | ((with_reducible apply gt9 (some 5) (.alloc 91)); (refine wpl (by kernel_rfl) ?_; apply wp_alloc (o := ⟨some 5, _, _, _, _, _⟩) hS 91 rfl (.agg #[.int .i64 0, .int .i64 0, .int .i64 0]) [.int .i64 0, .int .i64 0, .int .i64 0] (fun w => Tryd.zeroValue91 w) rfl; clear hS; intro g5 w hS; refine put_move ?_; go_step)) | ((with_reducible apply gt9 _ (.store 91 _ _)); (refine wpl (by kernel_rfl) ?_; apply wp_storeG hS 91 _ _ rfl _ rfl 3 (row_of rfl) _ _; (case hp => exact pl9); (case hy => rfl); (case hn => rfl); (case hn' => rfl); (case hv => rfl); (case hd => exact rfl); clear hS; intro w hS)) | ((fail_if_success with_reducible apply ga9); go_step))
      refine drawn_lit [7] (fun w => St w0 w [blk g5 ([s, (l : Int), (k : Int)].map (Value.int .i64)), blk g9 [.map (some g6), .map (some g7)]]) (by kernel_rfl) ?_
      replace hS := hS.drew
      focus
        refine takeM 0 _ al9 (by kernel_rfl) (by kernel_rfl) (by kernel_rfl) (by exact fun _ _ _ _ h => h) rfl ?_
        go_step
        (refine takeV 1 _ al9 (by kernel_rfl) (by kernel_rfl) (by kernel_rfl) (by exact fun _ _ _ _ h => h) (V.nilCheck rfl) rfl ?_)
        go_step
        (refine takeV 2 _ al9 (by kernel_rfl) (by kernel_rfl) (by kernel_rfl) (by exact fun _ _ _ _ h => h) (V.fieldAddr fo125_0 rfl nq9) rfl ?_)
        go_step
        apply takeS 3 al9 (by kernel_rfl) (by kernel_rfl) (by kernel_rfl) (by exact fun _ _ _ _ h => h) [7] (by kernel_rfl) (hS.sub sb9)
        case hfr => intro w hS; ((refine wpl (by kernel_rfl) ?_; apply wp_load1 hS 122 _ rfl _ _ rfl (one_of rfl) _; (case hp => exact pl9); (case hc => rfl); refine put_move ?_; go_step)); refine wpList_nil ?_; exact ⟨rfl, rfl⟩
        case hd => rfl
        (refine takeV 4 _ al9 (by kernel_rfl) (by kernel_rfl) (by kernel_rfl) (by exact fun _ _ _ _ h => h) (V.fieldAddr fo91_0 rfl nq9) rfl ?_)
        go_step
        apply takeS 5 al9 (by kernel_rfl) (by kernel_rfl) (by kernel_rfl) (by exact fun _ _ _ _ h => h) [7] (by kernel_rfl) (hS.sub sb9)
        case hfr => intro w hS; ((refine wpl (by kernel_rfl) ?_; apply wp_load1 hS 3 _ rfl _ _ rfl (one_of rfl) _; (case hp => exact pl9); (case hc => rfl); refine put_move ?_; go_step)); refine wpList_nil ?_; exact ⟨rfl, rfl⟩
        case hd => rfl
        apply takeS 6 al9 (by kernel_rfl) (by kernel_rfl) (by kernel_rfl) (by exact fun _ _ _ _ h => h) [7] (by kernel_rfl) (hS.sub sb9)
        case hfr => intro w hS; ((refine wpl (by kernel_rfl) ?_; apply wp_loadG hS 91 _ rfl _ rfl 3 (row_of rfl) _; (case hp => exact pl9); (case hn => rfl); refine put_move ?_; go_step)); refine wpList_nil ?_; exact ⟨rfl, rfl⟩
        case hd => rfl
        refine branch1 7 al9 rfl (by kernel_rfl) ?_
        (refine wp_mapUpdate (enc := ik) hS 122 _ _ _ rfl _ rfl _ rfl Tryd.underlying122 (keyLaw_int Tryd.underlying3) _ pl9 _ (by (first | exact IsV.int rfl | exact IsV.bool rfl | exact IsV.slice rfl | exact IsV.pointer rfl | exact IsV.string rfl | exact IsV.map rfl | exact IsV.func rfl | exact IsV.agg rfl)) rfl ?_; clear hS; intro w hS)
        refine ⟨fun h => absurd (by decide) h, ?_⟩
        refine drawn_done (by kernel_rfl) ?_ _
      all_goals
        repeat' (first
          | ((fail_if_success with_reducible apply ga9); go_step))
        refine drawn_lit [11] (fun w => St w0 w [blk g5 ([s, (l : Int), (k : Int)].map (Value.int .i64)), blk g9 [.map (some g6), .map (some g7)]]) (by kernel_rfl) ?_
        replace hS := hS.drew
        focus
          refine takeM 0 _ al9 (by kernel_rfl) (by kernel_rfl) (by kernel_rfl) (by exact fun _ _ _ _ h => h) rfl ?_
          go_step
          (refine takeV 1 _ al9 (by kernel_rfl) (by kernel_rfl) (by kernel_rfl) (by exact fun _ _ _ _ h => h) (V.nilCheck rfl) rfl ?_)
          go_step
          (refine takeV 2 _ al9 (by kernel_rfl) (by kernel_rfl) (by kernel_rfl) (by exact fun _ _ _ _ h => h) (V.fieldAddr fo125_1 rfl nq9) rfl ?_)
          go_step
          apply takeS 3 al9 (by kernel_rfl) (by kernel_rfl) (by kernel_rfl) (by exact fun _ _ _ _ h => h) [11] (by kernel_rfl) (hS.sub sb9)
          case hfr => intro w hS; ((refine wpl (by kernel_rfl) ?_; apply wp_load1 hS 123 _ rfl _ _ rfl (one_of rfl) _; (case hp => exact pl9); (case hc => rfl); refine put_move ?_; go_step)); refine wpList_nil ?_; exact ⟨rfl, rfl⟩
          case hd => rfl
          (refine takeV 4 _ al9 (by kernel_rfl) (by kernel_rfl) (by kernel_rfl) (by exact fun _ _ _ _ h => h) (V.fieldAddr fo91_1 rfl nq9) rfl ?_)
          go_step
          apply takeS 5 al9 (by kernel_rfl) (by kernel_rfl) (by kernel_rfl) (by exact fun _ _ _ _ h => h) [8, 11] (by kernel_rfl) (hS.sub sb9)
          case hfr => intro w hS; ((refine wpl (by kernel_rfl) ?_; apply wp_load1 hS 3 _ rfl _ _ rfl (one_of rfl) _; (case hp => exact pl9); (case hc => rfl); refine put_move ?_; go_step)); refine wpList_nil ?_; exact ⟨rfl, rfl⟩
          case hd => rfl
          (refine takeV 6 _ al9 (by kernel_rfl) (by kernel_rfl) (by kernel_rfl) (by exact fun _ _ _ _ h => h) (V.fieldAddr fo91_2 rfl nq9) rfl ?_)
          go_step
          apply takeS 7 al9 (by kernel_rfl) (by kernel_rfl) (by kernel_rfl) (by exact fun _ _ _ _ h => h) [8, 11] (by kernel_rfl) (hS.sub sb9)
          case hfr => intro w hS; ((refine wpl (by kernel_rfl) ?_; apply wp_load1 hS 3 _ rfl _ _ rfl (one_of rfl) _; (case hp => exact pl9); (case hc => rfl); refine put_move ?_; go_step)); refine wpList_nil ?_; exact ⟨rfl, rfl⟩
          case hd => rfl
          (refine takeV 8 _ al9 (by kernel_rfl) (by kernel_rfl) (by kernel_rfl) (by exact fun _ _ _ _ h => h) (V.build (vs := [(0, _), (1, _)]) rfl (bl154_0_1 _ _)) rfl ?_)
          go_step
          (refine takeV 9 _ al9 (by kernel_rfl) (by kernel_rfl) (by kernel_rfl) (by exact fun _ _ _ _ h => h) (V.fieldAddr fo91_0 rfl nq9) rfl ?_)
          go_step
          apply takeS 10 al9 (by kernel_rfl) (by kernel_rfl) (by kernel_rfl) (by exact fun _ _ _ _ h => h) [11] (by kernel_rfl) (hS.sub sb9)
          case hfr => intro w hS; ((refine wpl (by kernel_rfl) ?_; apply wp_load1 hS 3 _ rfl _ _ rfl (one_of rfl) _; (case hp => exact pl9); (case hc => rfl); refine put_move ?_; go_step)); refine wpList_nil ?_; exact ⟨rfl, rfl⟩
          case hd => rfl
          refine branch1 11 al9 rfl (by kernel_rfl) ?_
          (refine wp_mapUpdate (enc := pk) hS 123 _ _ _ rfl _ rfl (_, _) rfl Tryd.underlying123 (keyLaw_pair Tryd.underlying154 Tryd.underlying3 isz3) _ pl9 _ (by (first | exact IsV.int rfl | exact IsV.bool rfl | exact IsV.slice rfl | exact IsV.pointer rfl | exact IsV.string rfl | exact IsV.map rfl | exact IsV.func rfl | exact IsV.agg rfl)) rfl ?_; clear hS; intro w hS)
          refine ⟨fun h => absurd (by decide) h, ?_⟩
          refine drawn_done (by kernel_rfl) ?_ _
        all_goals
          repeat' (first
            | ((with_reducible apply gt9 _ (.move _)); (first | go_big_want | go_step); go_step) | ((with_reducible apply gt9 _ (.binOp .add _ _ _ _)); (refine wvv9 (V.addI rfl rfl (by omega)) ?_; go_step)) | ((fail_if_success with_reducible apply ga9); go_step))
          go_roundg (gk - 1)
          case measure => omega
          case rel =>
            refine ⟨i + 1, by omega, by go_num, ?_⟩
            rw [← H1.out, ← H2.out]
            exact hS.sub sb9
    · obtain rfl : i = n := by omega
      rw [show L.take i = L by rw [← HLl.out]; exact List.take_length] at hS
      repeat' (first
        | ((with_reducible apply gt9 _ (.move _)); (first | go_big_want | go_step); go_step) | ((with_reducible apply gt9 _ (.assign _)); (first | go_big_want | go_step); go_step) | ((with_reducible apply gt9 _ (.binOp .lss _ _ _ _)); (refine wvv9 (V.lss rfl rfl) ?_; go_step)) | ((fail_if_success with_reducible apply ga9); go_step))
      go_ret
      refine ⟨g9, rfl, St.close (g6, g7) ?_⟩
      rw [HL.out]
      exact hS.sub sb9
/-- The bits of a symbol's word. -/
def wb (L : List (Int × Nat × Nat)) (s : Int) : List Bool := match symW L s with
  | some y => bitsOf y.1 y.2
  | none => []
set_option maxRecDepth 100000 in
set_option maxHeartbeats 4000000 in
theorem codPut_any (W w0 : World) (rs rs' rs2 : List Res) (g g2 : Nat) (L : List (Int × Nat × Nat)) (bs : List Bool) (s : Int) (hL : Good L) (hS : St W w0 rs) (hp : Pull (cod g L) rs rs') (hp2 : Pull (wr g2 bs) rs' rs2) (hb : bs.length ≤ 1000000000000) :
    Calls Tryd.prog 40 #[.pointer (some ⟨g, 0, none⟩), .pointer (some ⟨g2, 0, none⟩), .int .i64 s] w0 fun e w => e = .returned (.bool (symW L s).isSome) ∧ St W w (cod g L :: wr g2 (bs ++ wb L s) :: rs2) := by
  obtain ⟨⟨m1, m2⟩, hS⟩ := (hS.pull hp).open
  dsimp only [List.cons_append, List.nil_append] at hS
  have HG := hid hL
  clear hL
  have hp3 : Pull (wr g2 bs) (blk g [.map (some m1), .map (some m2)] :: mp ik m1 (symF L) :: mp pk m2 (codF L) :: rs') (blk g [.map (some m1), .map (some m2)] :: mp ik m1 (symF L) :: mp pk m2 (codF L) :: rs2) := .tail (.tail (.tail hp2))
  cases hs : symW L s with
  | none =>
    have hf : symF L s = none := by unfold symF; rw [hs]; rfl
    have HB := hid (show wb L s = [] by unfold wb; rw [hs])
    clear hs
    go_enter Tryd.func40, Tryd.ntmps40
    repeat' (first
      | ((with_reducible apply gt9 _ (.move _)); (first | go_big_want | go_step); go_step) | ((with_reducible apply gt9 _ (.assign _)); (first | go_big_want | go_step); go_step) | ((with_reducible apply gt9 _ (.nilCheck _)); (refine wvv9 (V.nilCheck rfl) ?_; go_step)) | ((with_reducible apply gt9 _ (.fieldAddr 125 _ 0)); (refine wvv9 (V.fieldAddr fo125_0 rfl nq9) ?_; go_step)) | ((with_reducible apply gt9 _ (.extract _ _)); (refine wvv9 (V.extract rfl rfl) ?_; go_step)) | ((with_reducible apply gt9 _ (.load 122 _)); (refine wpl (by kernel_rfl) ?_; apply wp_load1 hS 122 _ rfl _ _ rfl (one_of rfl) _; (case hp => exact pl9); (case hc => rfl); refine put_move ?_; go_step)) | ((with_reducible apply gt9 (some 15) (.lookup 122 _ _ _)); (refine wpl (by kernel_rfl) ?_; apply wp_lookupN2 (enc := ik) hS 122 _ _ rfl _ rfl _ rfl Tryd.underlying122 (keyLaw_int Tryd.underlying3) (.agg #[.int .i64 0, .int .i64 0, .int .i64 0]) (fun w => Tryd.zeroValue91 w) _; (case hp => exact pl9); (case hf => with_reducible assumption); refine put_move ?_; go_step)) | ((with_reducible apply gt9 (some 7) (.alloc 91)); (refine wpl (by kernel_rfl) ?_; apply wp_alloc (o := ⟨some 7, _, _, _, _, _⟩) hS 91 rfl (.agg #[.int .i64 0, .int .i64 0, .int .i64 0]) [.int .i64 0, .int .i64 0, .int .i64 0] (fun w => Tryd.zeroValue91 w) rfl; clear hS; intro g7 w hS; refine put_move ?_; go_step)) | ((with_reducible apply gt9 _ (.store 91 _ _)); (refine wpl (by kernel_rfl) ?_; apply wp_storeG hS 91 _ _ rfl _ rfl 3 (row_of rfl) _ _; (case hp => exact pl9); (case hy => rfl); (case hn => rfl); (case hn' => rfl); (case hv => rfl); (case hd => exact rfl); clear hS; intro w hS)) | ((fail_if_success with_reducible apply ga9); go_step))
    go_ret
    refine ⟨rfl, St.close (m1, m2) ?_⟩
    rw [HB.out, List.append_nil]
    exact (hS.pull (.tail hp3)).sub sb9
  | some y =>
    obtain ⟨l, k⟩ := y
    have hm := symW_mem hs
    obtain ⟨g1, g2', g3⟩ := HG.out.long _ hm
    dsimp only at g1 g2' g3
    have hf : symF L s = some (.agg #[.int .i64 s, .int .i64 (l : Int), .int .i64 (k : Int)]) := by unfold symF; rw [hs]; rfl
    have HB := hid (show wb L s = bitsOf l k by unfold wb; rw [hs])
    have HK := hid (show k < 2 ^ l by omega)
    clear hs hm g3
    go_enter Tryd.func40, Tryd.ntmps40
    repeat' (first
      | ((with_reducible apply gt9 _ (.call ⟨.value (.func 41), _, _⟩)); refine wpl_call (f := 41) Tryd.call41 (by kernel_rfl) ?_; refine ⟨_, (put_any W _ _ _ g2 bs l k hS (.tail hp3) (by omega) HK.out (by omega)), ?_⟩; clear hS; rintro e w ⟨rfl, hS⟩; refine ⟨_, rfl, ?_⟩; refine put_move ?_; go_step) | ((with_reducible apply gt9 _ (.move _)); (first | go_big_want | go_step); go_step) | ((with_reducible apply gt9 _ (.assign _)); (first | go_big_want | go_step); go_step) | ((with_reducible apply gt9 _ (.nilCheck _)); (refine wvv9 (V.nilCheck rfl) ?_; go_step)) | ((with_reducible apply gt9 _ (.fieldAddr 125 _ 0)); (refine wvv9 (V.fieldAddr fo125_0 rfl nq9) ?_; go_step)) | ((with_reducible apply gt9 _ (.extract _ _)); (refine wvv9 (V.extract rfl rfl) ?_; go_step)) | ((with_reducible apply gt9 _ (.fieldAddr 91 _ 1)); (refine wvv9 (V.fieldAddr fo91_1 rfl nq9) ?_; go_step)) | ((with_reducible apply gt9 _ (.fieldAddr 91 _ 2)); (refine wvv9 (V.fieldAddr fo91_2 rfl nq9) ?_; go_step)) | ((with_reducible apply gt9 _ (.load 122 _)); (refine wpl (by kernel_rfl) ?_; apply wp_load1 hS 122 _ rfl _ _ rfl (one_of rfl) _; (case hp => exact pl9); (case hc => rfl); refine put_move ?_; go_step)) | ((with_reducible apply gt9 (some 15) (.lookup 122 _ _ _)); (refine wpl (by kernel_rfl) ?_; apply wp_lookupS2 (enc := ik) hS 122 _ _ rfl _ rfl _ rfl Tryd.underlying122 (keyLaw_int Tryd.underlying3) (.agg #[.int .i64 0, .int .i64 0, .int .i64 0]) (fun w => Tryd.zeroValue91 w) _; (case hp => exact pl9); (case hf => with_reducible assumption); refine put_move ?_; go_step)) | ((with_reducible apply gt9 (some 7) (.alloc 91)); (refine wpl (by kernel_rfl) ?_; apply wp_alloc (o := ⟨some 7, _, _, _, _, _⟩) hS 91 rfl (.agg #[.int .i64 0, .int .i64 0, .int .i64 0]) [.int .i64 0, .int .i64 0, .int .i64 0] (fun w => Tryd.zeroValue91 w) rfl; clear hS; intro g7 w hS; refine put_move ?_; go_step)) | ((with_reducible apply gt9 _ (.store 91 _ _)); (refine wpl (by kernel_rfl) ?_; apply wp_storeG hS 91 _ _ rfl _ rfl 3 (row_of rfl) _ _; (case hp => exact pl9); (case hy => rfl); (case hn => rfl); (case hn' => rfl); (case hv => rfl); (case hd => exact rfl); clear hS; intro w hS)) | ((with_reducible apply gt9 _ (.load 3 _)); (refine wpl (by kernel_rfl) ?_; apply wp_load1 hS 3 _ rfl _ _ rfl (one_of rfl) _; (case hp => exact pl9); (case hc => rfl); refine put_move ?_; go_step)) | ((fail_if_success with_reducible apply ga9); go_step))
    go_ret
    refine ⟨rfl, St.close (m1, m2) ?_⟩
    rw [HB.out]
    exact hS.sub sb9
end Go.Proofs.YtehbjhocgnfpmaaDoor

/- The coders of seg: made and of. -/
namespace Go.Proofs.YtehbjhocgnfpmaaDoor
open Go.RowKit
set_option maxRecDepth 100000
set_option linter.unusedVariables false
section
variable {P : Program} {Q : Exit → Act → World → Prop} {a : Act} {W w : World} {c : Code}
theorem wp_join3 {F : Nat → Nat → Nat → Act} (rs : Nat → Nat → Nat → List Res) (h : c.wp P (fun e a w => e = .normal ∧ ∃ g g' g2, a = F g g' g2 ∧ St W w (rs g g' g2)) a w) (k : ∀ g g' g2 w, St W w (rs g g' g2) → Q .normal (F g g' g2) w) : c.wp P Q a w :=
  Code.wp_mono (fun e a w ⟨he, g, g', g2, ha, hS⟩ => by subst he; subst ha; exact k g g' g2 w hS) h
end
theorem bl120_0_1 (a0 : Option Addr) (a1 : Option Addr) (w : World) : (Instr.build 120 #[(0, .pointer a0), (1, .pointer a1)]).run Tryd.prog w = .ok (.agg #[.pointer a0, .pointer a1]) w := by kernel_rfl
theorem bl78_  (w : World) : (Instr.build 78 #[]).run Tryd.prog w = .ok (.agg #[.slice none 0 0, .int .u64 0, .int .i64 0]) w := by kernel_rfl
/-- Both coders. -/
def cdr (g : Nat) (L1 L2 : List (Int × Nat × Nat)) : Res := bag fun x : Nat × Nat => [blk g [.pointer (some ⟨x.1, 0, none⟩), .pointer (some ⟨x.2, 0, none⟩)], cod x.1 L1, cod x.2 L2]
theorem tabLen2 (C : List Int) (v : Value) (h : Len C 16) : (pcells [.ints C, .val v]).length = 17 := by
  have := h.out
  simp [pcells, Part.cells, this]
theorem tabs3 (C1 C2 : List Int) (v1 v2 : Value) : pcells [.ints C1, .val v1] ++ (pcells [.ints C2, .val v2] ++ []) = pcells [.ints C1, .val v1, .ints C2, .val v2] := by
  simp [pcells, Part.cells]
theorem st_tabs3 {W w : World} {rs : List Res} {g : Nat} {C1 C2 : List Int} {v1 v2 : Value} (hS : St W w (blk g (pcells [.ints C1, .val v1] ++ (pcells [.ints C2, .val v2] ++ [])) :: rs)) : St W w (prt g [.ints C1, .val v1, .ints C2, .val v2] :: rs) := by
  rw [tabs3] at hS; exact hS
/-- What is wrong with two tables. -/
def tbE (C1 S1 C2 S2 : List Int) : Int := if tabE C1 S1 = 0 then tabE C2 S2 else tabE C1 S1
set_option maxHeartbeats 8000000 in
theorem made_bad (w0 : World) (C1 C2 S1 S2 : List Int) (a1 a2 : Option Addr) (n1 n2 k1 k2 : Nat) (hC1 : Len C1 16) (hC2 : Len C2 16) (hs1 : Sl w0 1 (.slice a1 n1 k1) n1 (S1.map (Value.int .i64))) (hs2 : Sl w0 1 (.slice a2 n2 k2) n2 (S2.map (Value.int .i64))) (hn1 : n1 ≤ 9223372036854775807) (hn2 : n2 ≤ 9223372036854775807) (E : Int) (hE : tbE C1 S1 C2 S2 = E) (h0 : E ≠ 0) :
    Calls Tryd.prog 37 #[.agg (pcells [.ints C1, .val (.slice a1 n1 k1), .ints C2, .val (.slice a2 n2 k2)]).toArray] w0 fun e w => e = .returned (.tuple #[.pointer none, .int .i64 E]) ∧ Ext w0 w := by
  have hS := St.start w0
  have hL1 := hid (tabLen2 C1 (.slice a1 n1 k1) hC1)
  have hL2 := hid (tabLen2 C2 (.slice a2 n2 k2) hC2)
  obtain ⟨E1, hE1⟩ : ∃ x, tabE C1 S1 = x := ⟨_, rfl⟩
  obtain ⟨E2, hE2⟩ : ∃ x, tabE C2 S2 = x := ⟨_, rfl⟩
  have HE1 := hid hE1
  have HE2 := hid hE2
  have he : (if E1 = 0 then E2 else E1) = E := by rw [← hE1, ← hE2]; exact hE
  have HE := hid he
  clear hE1 hE2 hE he
  go_enter Tryd.func37, Tryd.ntmps37
  repeat' (first
    | ((with_reducible apply gt9 (some 11) _); refine wpl (by kernel_rfl) ?_; refine wp_buildSlice1 (o := ⟨some 11, _, _, _, _, _⟩) hS 106 2 _ rfl 31 17 152 el106 _ _ (Parts.agg rfl hL1.out (Parts.agg rfl hL2.out Parts.nil)) rfl (by decide) (by decide) ?_; clear hS; intro g11 w hS; replace hS := st_tabs3 hS; refine put_move ?_; go_step) | ((with_reducible apply gt9 _ (.move _)); (first | go_big_want | go_step); go_step) | ((with_reducible apply gt9 _ (.assign _)); (first | go_big_want | go_step); go_step) | ((with_reducible apply gt9 _ (.fieldAddr 33 _ 0)); (refine wvv9 (V.fieldAddr fo33_0 rfl nq9) ?_; go_step)) | ((with_reducible apply gt9 _ (.fieldAddr 33 _ 1)); (refine wvv9 (V.fieldAddr fo33_1 rfl nq9) ?_; go_step)) | ((with_reducible apply gt9 _ (.call ⟨.builtin .len, _, _⟩)); (refine wvv9 (V.len Tryd.underlying106 rfl) ?_; go_step)) | ((with_reducible apply gt9 (some 1) (.box 33 _)); (refine wpl (by kernel_rfl) ?_; apply wp_boxP (o := ⟨some 1, _, _, _, _, _⟩) hS 33 _ rfl _ rfl; clear hS; intro g1 w hS; refine put_move ?_; go_step)) | ((with_reducible apply gt9 _ (.load 31 _)); (refine wpl (by kernel_rfl) ?_; apply wp_loadPP hS 31 _ rfl _ _ rfl 17 (row_of rfl) _; (case hp => exact pl9); (case hi => (repeat (first | (apply AtP.head; (repeat (first | exact Pre.nil | (apply Pre.ints; (case hn => (first | (with_reducible assumption) | exact Len.rep | exact Len.set (by with_reducible assumption) | exact Len.set Len.rep | exact Len.set (Len.set Len.rep))); (case h => omega); (case hm => rfl)) | apply Pre.val))) | (apply AtP.skipI; (case hn => (first | (with_reducible assumption) | exact Len.rep | exact Len.set (by with_reducible assumption) | exact Len.set Len.rep | exact Len.set (Len.set Len.rep))); (case h => omega); (case ho => rfl)) | apply AtP.skipV))); refine put_move ?_; go_step)) | ((fail_if_success with_reducible apply ga9); go_step))
  clear hL1 hL2
  go_loopg [13] 2 (fun gk kv w => ∃ k : Nat, gk + k = 2 ∧ kv = .int .i64 k ∧ (1 ≤ k → E1 = 0) ∧ (2 ≤ k → E2 = 0) ∧ St w0 w [prt g1 [.ints C1, .val (.slice a1 n1 k1), .ints C2, .val (.slice a2 n2 k2)], prt g11 [.ints C1, .val (.slice a1 n1 k1), .ints C2, .val (.slice a2 n2 k2)]])
  case atStart => exact ⟨0, rfl, rfl, fun h => absurd h (by omega), fun h => absurd h (by omega), hS.sub sb9⟩
  case round =>
    clear hS
    obtain ⟨k, hk, rfl, HA, HB, hS⟩ := hrel
    by_cases hlt : k < 2
    · obtain rfl | rfl : k = 0 ∨ k = 1 := by omega
      · skip
        repeat' (first
          | ((with_reducible apply gt9 _ (.call ⟨.value (.func 52), _, _⟩)); refine wpl_call (f := 52) Tryd.call52 (by kernel_rfl) ?_; refine ⟨_, (check_any _ C1 S1 a1 n1 k1 hC1 (hs1.ext hS.1) hn1), ?_⟩; rintro e w ⟨rfl, hE2⟩; rw [HE1.out]; replace hS := hS.ext hE2; clear hE2; refine ⟨_, rfl, ?_⟩; refine put_move ?_; go_step) | ((with_reducible apply gt9 _ (.move _)); (first | go_big_want | go_step); go_step) | ((with_reducible apply gt9 _ (.assign _)); (first | go_big_want | go_step); go_step) | ((with_reducible apply gt9 _ (.binOp .lss _ _ _ _)); (refine wvv9 (V.lss rfl rfl) ?_; go_step)) | ((with_reducible apply gt9 (some 15) (.indexAddr 106 _ _)); (refine wvv9 (V.indexSl Tryd.underlying106 isz31 rfl rfl isn9 (by omega) rfl nq9) ?_; go_step)) | ((with_reducible apply gt9 _ (.binOp .neq 25 _ _ _)); (refine wvv9 (V.neq rfl rfl) ?_; go_step)) | ((with_reducible apply gt9 _ (.binOp .add _ _ _ _)); (refine wvv9 (V.addI rfl rfl (by omega)) ?_; go_step)) | ((with_reducible apply gt9 _ (.load 31 _)); (refine wpl (by kernel_rfl) ?_; apply wp_loadPP hS 31 _ rfl _ _ rfl 17 (row_of rfl) _; (case hp => exact pl9); (case hi => (repeat (first | (apply AtP.head; (repeat (first | exact Pre.nil | (apply Pre.ints; (case hn => (first | (with_reducible assumption) | exact Len.rep | exact Len.set (by with_reducible assumption) | exact Len.set Len.rep | exact Len.set (Len.set Len.rep))); (case h => omega); (case hm => rfl)) | apply Pre.val))) | (apply AtP.skipI; (case hn => (first | (with_reducible assumption) | exact Len.rep | exact Len.set (by with_reducible assumption) | exact Len.set Len.rep | exact Len.set (Len.set Len.rep))); (case h => omega); (case ho => rfl)) | apply AtP.skipV))); refine put_move ?_; go_step)) | ((with_reducible apply gt9 (some 5) (.alloc 31)); (refine wpl (by kernel_rfl) ?_; apply wp_allocP (o := ⟨some 5, _, _, _, _, _⟩) hS 31 rfl _ zp31; clear hS; intro g5 w hS; refine put_move ?_; go_step)) | ((with_reducible apply gt9 _ (.store 31 _ _)); (refine wpl (by kernel_rfl) ?_; apply wp_storePP hS 31 _ _ rfl _ rfl 17 (row_of rfl) _ _; (case hp => exact pl9); (case hy => rfl); (case hn => (repeat (first | exact Pre.nil | (apply Pre.ints; (case hn => (first | (with_reducible assumption) | exact Len.rep | exact Len.set (by with_reducible assumption) | exact Len.set Len.rep | exact Len.set (Len.set Len.rep))); (case h => omega); (case hm => rfl)) | apply Pre.val))); (case hn' => (repeat (first | exact Pre.nil | (apply Pre.ints; (case hn => (first | (with_reducible assumption) | exact Len.rep | exact Len.set (by with_reducible assumption) | exact Len.set Len.rep | exact Len.set (Len.set Len.rep))); (case h => omega); (case hm => rfl)) | apply Pre.val))); (case hv => rfl); (case hd => exact rfl); clear hS; intro w hS)) | ((fail_if_success with_reducible apply ga9); go_step))
        · skip
          refine ret_all (xs := [_, _]) rfl (.cons (OneRes.tmp rfl) (.cons (OneRes.tmp rfl) (.nil))) (by simp) rfl ?_
          exact ⟨by have h := HE.out; rw [if_neg (by omega)] at h; rw [h]; rfl, hS.1⟩
        · go_roundg (gk - 1)
          case measure => omega
          case rel => exact ⟨1, by omega, rfl, fun _ => by omega, fun h => absurd h (by omega), hS.sub sb9⟩
      · have h1 := HA (by omega)
        subst h1
        repeat' (first
          | ((with_reducible apply gt9 _ (.call ⟨.value (.func 52), _, _⟩)); refine wpl_call (f := 52) Tryd.call52 (by kernel_rfl) ?_; refine ⟨_, (check_any _ C2 S2 a2 n2 k2 hC2 (hs2.ext hS.1) hn2), ?_⟩; rintro e w ⟨rfl, hE2⟩; rw [HE2.out]; replace hS := hS.ext hE2; clear hE2; refine ⟨_, rfl, ?_⟩; refine put_move ?_; go_step) | ((with_reducible apply gt9 _ (.move _)); (first | go_big_want | go_step); go_step) | ((with_reducible apply gt9 _ (.assign _)); (first | go_big_want | go_step); go_step) | ((with_reducible apply gt9 _ (.binOp .lss _ _ _ _)); (refine wvv9 (V.lss rfl rfl) ?_; go_step)) | ((with_reducible apply gt9 (some 15) (.indexAddr 106 _ _)); (refine wvv9 (V.indexSl Tryd.underlying106 isz31 rfl rfl isn9 (by omega) rfl nq9) ?_; go_step)) | ((with_reducible apply gt9 _ (.binOp .neq 25 _ _ _)); (refine wvv9 (V.neq rfl rfl) ?_; go_step)) | ((with_reducible apply gt9 _ (.binOp .add _ _ _ _)); (refine wvv9 (V.addI rfl rfl (by omega)) ?_; go_step)) | ((with_reducible apply gt9 _ (.load 31 _)); (refine wpl (by kernel_rfl) ?_; apply wp_loadPP hS 31 _ rfl _ _ rfl 17 (row_of rfl) _; (case hp => exact pl9); (case hi => (repeat (first | (apply AtP.head; (repeat (first | exact Pre.nil | (apply Pre.ints; (case hn => (first | (with_reducible assumption) | exact Len.rep | exact Len.set (by with_reducible assumption) | exact Len.set Len.rep | exact Len.set (Len.set Len.rep))); (case h => omega); (case hm => rfl)) | apply Pre.val))) | (apply AtP.skipI; (case hn => (first | (with_reducible assumption) | exact Len.rep | exact Len.set (by with_reducible assumption) | exact Len.set Len.rep | exact Len.set (Len.set Len.rep))); (case h => omega); (case ho => rfl)) | apply AtP.skipV))); refine put_move ?_; go_step)) | ((with_reducible apply gt9 (some 5) (.alloc 31)); (refine wpl (by kernel_rfl) ?_; apply wp_allocP (o := ⟨some 5, _, _, _, _, _⟩) hS 31 rfl _ zp31; clear hS; intro g5 w hS; refine put_move ?_; go_step)) | ((with_reducible apply gt9 _ (.store 31 _ _)); (refine wpl (by kernel_rfl) ?_; apply wp_storePP hS 31 _ _ rfl _ rfl 17 (row_of rfl) _ _; (case hp => exact pl9); (case hy => rfl); (case hn => (repeat (first | exact Pre.nil | (apply Pre.ints; (case hn => (first | (with_reducible assumption) | exact Len.rep | exact Len.set (by with_reducible assumption) | exact Len.set Len.rep | exact Len.set (Len.set Len.rep))); (case h => omega); (case hm => rfl)) | apply Pre.val))); (case hn' => (repeat (first | exact Pre.nil | (apply Pre.ints; (case hn => (first | (with_reducible assumption) | exact Len.rep | exact Len.set (by with_reducible assumption) | exact Len.set Len.rep | exact Len.set (Len.set Len.rep))); (case h => omega); (case hm => rfl)) | apply Pre.val))); (case hv => rfl); (case hd => exact rfl); clear hS; intro w hS)) | ((fail_if_success with_reducible apply ga9); go_step))
        · skip
          refine ret_all (xs := [_, _]) rfl (.cons (OneRes.tmp rfl) (.cons (OneRes.tmp rfl) (.nil))) (by simp) rfl ?_
          exact ⟨by have h := HE.out; rw [if_pos rfl] at h; rw [h]; rfl, hS.1⟩
        · go_roundg (gk - 1)
          case measure => omega
          case rel => exact ⟨2, by omega, rfl, fun _ => rfl, fun _ => by omega, hS.sub sb9⟩
    · have h1 := HA (by omega)
      have h2 := HB (by omega)
      exact absurd (by have h := HE.out; rw [if_pos h1, h2] at h; exact h.symm) h0
set_option maxHeartbeats 8000000 in
theorem made_ok (w0 : World) (C1 C2 S1 S2 : List Int) (a1 a2 : Option Addr) (n1 n2 k1 k2 : Nat) (hC1 : Len C1 16) (hC2 : Len C2 16) (hs1 : Sl w0 1 (.slice a1 n1 k1) n1 (S1.map (Value.int .i64))) (hs2 : Sl w0 1 (.slice a2 n2 k2) n2 (S2.map (Value.int .i64))) (hn1 : n1 ≤ 9223372036854775807) (hn2 : n2 ≤ 9223372036854775807) (hE1 : tabE C1 S1 = 0) (hE2 : tabE C2 S2 = 0) :
    Calls Tryd.prog 37 #[.agg (pcells [.ints C1, .val (.slice a1 n1 k1), .ints C2, .val (.slice a2 n2 k2)]).toArray] w0 fun e w => ∃ g, e = .returned (.tuple #[.pointer (some ⟨g, 0, none⟩), .int .i64 0]) ∧ St w0 w [cdr g (wds C1 S1) (wds C2 S2)] := by
  have hS := St.start w0
  have hL1 := hid (tabLen2 C1 (.slice a1 n1 k1) hC1)
  have hL2 := hid (tabLen2 C2 (.slice a2 n2 k2) hC2)
  have HE1 := hid hE1
  have HE2 := hid hE2
  clear hE1 hE2
  go_enter Tryd.func37, Tryd.ntmps37
  repeat' (first
    | ((with_reducible apply gt9 (some 11) _); refine wpl (by kernel_rfl) ?_; refine wp_buildSlice1 (o := ⟨some 11, _, _, _, _, _⟩) hS 106 2 _ rfl 31 17 152 el106 _ _ (Parts.agg rfl hL1.out (Parts.agg rfl hL2.out Parts.nil)) rfl (by decide) (by decide) ?_; clear hS; intro g11 w hS; replace hS := st_tabs3 hS; refine put_move ?_; go_step) | ((with_reducible apply gt9 _ (.move _)); (first | go_big_want | go_step); go_step) | ((with_reducible apply gt9 _ (.assign _)); (first | go_big_want | go_step); go_step) | ((with_reducible apply gt9 _ (.fieldAddr 33 _ 0)); (refine wvv9 (V.fieldAddr fo33_0 rfl nq9) ?_; go_step)) | ((with_reducible apply gt9 _ (.fieldAddr 33 _ 1)); (refine wvv9 (V.fieldAddr fo33_1 rfl nq9) ?_; go_step)) | ((with_reducible apply gt9 _ (.call ⟨.builtin .len, _, _⟩)); (refine wvv9 (V.len Tryd.underlying106 rfl) ?_; go_step)) | ((with_reducible apply gt9 (some 1) (.box 33 _)); (refine wpl (by kernel_rfl) ?_; apply wp_boxP (o := ⟨some 1, _, _, _, _, _⟩) hS 33 _ rfl _ rfl; clear hS; intro g1 w hS; refine put_move ?_; go_step)) | ((with_reducible apply gt9 _ (.load 31 _)); (refine wpl (by kernel_rfl) ?_; apply wp_loadPP hS 31 _ rfl _ _ rfl 17 (row_of rfl) _; (case hp => exact pl9); (case hi => (repeat (first | (apply AtP.head; (repeat (first | exact Pre.nil | (apply Pre.ints; (case hn => (first | (with_reducible assumption) | exact Len.rep | exact Len.set (by with_reducible assumption) | exact Len.set Len.rep | exact Len.set (Len.set Len.rep))); (case h => omega); (case hm => rfl)) | apply Pre.val))) | (apply AtP.skipI; (case hn => (first | (with_reducible assumption) | exact Len.rep | exact Len.set (by with_reducible assumption) | exact Len.set Len.rep | exact Len.set (Len.set Len.rep))); (case h => omega); (case ho => rfl)) | apply AtP.skipV))); refine put_move ?_; go_step)) | ((fail_if_success with_reducible apply ga9); go_step))
  clear hL1 hL2
  go_loopg [13] 2 (fun gk kv w => ∃ k : Nat, gk + k = 2 ∧ kv = .int .i64 k ∧ St w0 w [prt g1 [.ints C1, .val (.slice a1 n1 k1), .ints C2, .val (.slice a2 n2 k2)], prt g11 [.ints C1, .val (.slice a1 n1 k1), .ints C2, .val (.slice a2 n2 k2)]])
  case atStart => exact ⟨0, rfl, rfl, hS.sub sb9⟩
  case round =>
    clear hS
    obtain ⟨k, hk, rfl, hS⟩ := hrel
    by_cases hlt : k < 2
    · obtain rfl | rfl : k = 0 ∨ k = 1 := by omega
      · skip
        repeat' (first
          | ((with_reducible apply gt9 _ (.call ⟨.value (.func 52), _, _⟩)); refine wpl_call (f := 52) Tryd.call52 (by kernel_rfl) ?_; refine ⟨_, (check_any _ C1 S1 a1 n1 k1 hC1 (hs1.ext hS.1) hn1), ?_⟩; rintro e w ⟨rfl, hE2⟩; rw [HE1.out]; replace hS := hS.ext hE2; clear hE2; refine ⟨_, rfl, ?_⟩; refine put_move ?_; go_step) | ((with_reducible apply gt9 _ (.move _)); (first | go_big_want | go_step); go_step) | ((with_reducible apply gt9 _ (.assign _)); (first | go_big_want | go_step); go_step) | ((with_reducible apply gt9 _ (.binOp .lss _ _ _ _)); (refine wvv9 (V.lss rfl rfl) ?_; go_step)) | ((with_reducible apply gt9 (some 15) (.indexAddr 106 _ _)); (refine wvv9 (V.indexSl Tryd.underlying106 isz31 rfl rfl isn9 (by omega) rfl nq9) ?_; go_step)) | ((with_reducible apply gt9 _ (.binOp .neq 25 _ _ _)); (refine wvv9 (V.neq rfl rfl) ?_; go_step)) | ((with_reducible apply gt9 _ (.load 31 _)); (refine wpl (by kernel_rfl) ?_; apply wp_loadPP hS 31 _ rfl _ _ rfl 17 (row_of rfl) _; (case hp => exact pl9); (case hi => (repeat (first | (apply AtP.head; (repeat (first | exact Pre.nil | (apply Pre.ints; (case hn => (first | (with_reducible assumption) | exact Len.rep | exact Len.set (by with_reducible assumption) | exact Len.set Len.rep | exact Len.set (Len.set Len.rep))); (case h => omega); (case hm => rfl)) | apply Pre.val))) | (apply AtP.skipI; (case hn => (first | (with_reducible assumption) | exact Len.rep | exact Len.set (by with_reducible assumption) | exact Len.set Len.rep | exact Len.set (Len.set Len.rep))); (case h => omega); (case ho => rfl)) | apply AtP.skipV))); refine put_move ?_; go_step)) | ((with_reducible apply gt9 (some 5) (.alloc 31)); (refine wpl (by kernel_rfl) ?_; apply wp_allocP (o := ⟨some 5, _, _, _, _, _⟩) hS 31 rfl _ zp31; clear hS; intro g5 w hS; refine put_move ?_; go_step)) | ((with_reducible apply gt9 _ (.store 31 _ _)); (refine wpl (by kernel_rfl) ?_; apply wp_storePP hS 31 _ _ rfl _ rfl 17 (row_of rfl) _ _; (case hp => exact pl9); (case hy => rfl); (case hn => (repeat (first | exact Pre.nil | (apply Pre.ints; (case hn => (first | (with_reducible assumption) | exact Len.rep | exact Len.set (by with_reducible assumption) | exact Len.set Len.rep | exact Len.set (Len.set Len.rep))); (case h => omega); (case hm => rfl)) | apply Pre.val))); (case hn' => (repeat (first | exact Pre.nil | (apply Pre.ints; (case hn => (first | (with_reducible assumption) | exact Len.rep | exact Len.set (by with_reducible assumption) | exact Len.set Len.rep | exact Len.set (Len.set Len.rep))); (case h => omega); (case hm => rfl)) | apply Pre.val))); (case hv => rfl); (case hd => exact rfl); clear hS; intro w hS)) | ((fail_if_success with_reducible apply ga9); go_step))
        repeat' (first
          | ((with_reducible apply gt9 _ (.move _)); (first | go_big_want | go_step); go_step) | ((with_reducible apply gt9 _ (.binOp .add _ _ _ _)); (refine wvv9 (V.addI rfl rfl (by omega)) ?_; go_step)) | ((fail_if_success with_reducible apply ga9); go_step))
        all_goals (try (have hF : False := (by omega); cases hF))
        go_roundg (gk - 1)
        case measure => omega
        case rel => exact ⟨1, by omega, rfl, hS.sub sb9⟩
      · skip
        repeat' (first
          | ((with_reducible apply gt9 _ (.call ⟨.value (.func 52), _, _⟩)); refine wpl_call (f := 52) Tryd.call52 (by kernel_rfl) ?_; refine ⟨_, (check_any _ C2 S2 a2 n2 k2 hC2 (hs2.ext hS.1) hn2), ?_⟩; rintro e w ⟨rfl, hE2⟩; rw [HE2.out]; replace hS := hS.ext hE2; clear hE2; refine ⟨_, rfl, ?_⟩; refine put_move ?_; go_step) | ((with_reducible apply gt9 _ (.move _)); (first | go_big_want | go_step); go_step) | ((with_reducible apply gt9 _ (.assign _)); (first | go_big_want | go_step); go_step) | ((with_reducible apply gt9 _ (.binOp .lss _ _ _ _)); (refine wvv9 (V.lss rfl rfl) ?_; go_step)) | ((with_reducible apply gt9 (some 15) (.indexAddr 106 _ _)); (refine wvv9 (V.indexSl Tryd.underlying106 isz31 rfl rfl isn9 (by omega) rfl nq9) ?_; go_step)) | ((with_reducible apply gt9 _ (.binOp .neq 25 _ _ _)); (refine wvv9 (V.neq rfl rfl) ?_; go_step)) | ((with_reducible apply gt9 _ (.load 31 _)); (refine wpl (by kernel_rfl) ?_; apply wp_loadPP hS 31 _ rfl _ _ rfl 17 (row_of rfl) _; (case hp => exact pl9); (case hi => (repeat (first | (apply AtP.head; (repeat (first | exact Pre.nil | (apply Pre.ints; (case hn => (first | (with_reducible assumption) | exact Len.rep | exact Len.set (by with_reducible assumption) | exact Len.set Len.rep | exact Len.set (Len.set Len.rep))); (case h => omega); (case hm => rfl)) | apply Pre.val))) | (apply AtP.skipI; (case hn => (first | (with_reducible assumption) | exact Len.rep | exact Len.set (by with_reducible assumption) | exact Len.set Len.rep | exact Len.set (Len.set Len.rep))); (case h => omega); (case ho => rfl)) | apply AtP.skipV))); refine put_move ?_; go_step)) | ((with_reducible apply gt9 (some 5) (.alloc 31)); (refine wpl (by kernel_rfl) ?_; apply wp_allocP (o := ⟨some 5, _, _, _, _, _⟩) hS 31 rfl _ zp31; clear hS; intro g5 w hS; refine put_move ?_; go_step)) | ((with_reducible apply gt9 _ (.store 31 _ _)); (refine wpl (by kernel_rfl) ?_; apply wp_storePP hS 31 _ _ rfl _ rfl 17 (row_of rfl) _ _; (case hp => exact pl9); (case hy => rfl); (case hn => (repeat (first | exact Pre.nil | (apply Pre.ints; (case hn => (first | (with_reducible assumption) | exact Len.rep | exact Len.set (by with_reducible assumption) | exact Len.set Len.rep | exact Len.set (Len.set Len.rep))); (case h => omega); (case hm => rfl)) | apply Pre.val))); (case hn' => (repeat (first | exact Pre.nil | (apply Pre.ints; (case hn => (first | (with_reducible assumption) | exact Len.rep | exact Len.set (by with_reducible assumption) | exact Len.set Len.rep | exact Len.set (Len.set Len.rep))); (case h => omega); (case hm => rfl)) | apply Pre.val))); (case hv => rfl); (case hd => exact rfl); clear hS; intro w hS)) | ((fail_if_success with_reducible apply ga9); go_step))
        repeat' (first
          | ((with_reducible apply gt9 _ (.move _)); (first | go_big_want | go_step); go_step) | ((with_reducible apply gt9 _ (.binOp .add _ _ _ _)); (refine wvv9 (V.addI rfl rfl (by omega)) ?_; go_step)) | ((fail_if_success with_reducible apply ga9); go_step))
        all_goals (try (have hF : False := (by omega); cases hF))
        go_roundg (gk - 1)
        case measure => omega
        case rel => exact ⟨2, by omega, rfl, hS.sub sb9⟩
    · obtain rfl : k = 2 := by omega
      repeat' (first
        | ((with_reducible apply gt9 _ (.binOp .lss _ _ _ _)); (refine wvv9 (V.lss rfl rfl) ?_; go_step)) | ((fail_if_success with_reducible apply ga9); go_step))
      apply wp_join3 (rs := fun g25 g28 g30 => [cdr g30 (wds C1 S1) (wds C2 S2)])
      · skip
        refine drawn_lit [5, 7] (fun w => St w0 w [prt g1 [.ints C1, .val (.slice a1 n1 k1), .ints C2, .val (.slice a2 n2 k2)]]) (by kernel_rfl) ?_
        replace hS := hS.drew
        focus
          (refine takeV 0 _ al9 (by kernel_rfl) (by kernel_rfl) (by kernel_rfl) (fun _ _ _ _ h => nomatch h.1) (V.fieldAddr fo33_0 rfl nq9) rfl ?_)
          go_step
          apply takeS 1 al9 (by kernel_rfl) (by kernel_rfl) (by kernel_rfl) (fun _ _ _ _ h => nomatch h.1) [2, 5, 6, 7, 8, 9] (by kernel_rfl) (hS.sub sb9)
          case hfr => intro w hS; ((refine wpl (by kernel_rfl) ?_; apply wp_loadPP hS 31 _ rfl _ _ rfl 17 (row_of rfl) _; (case hp => exact pl9); (case hi => (repeat (first | (apply AtP.head; (repeat (first | exact Pre.nil | (apply Pre.ints; (case hn => (first | (with_reducible assumption) | exact Len.rep | exact Len.set (by with_reducible assumption) | exact Len.set Len.rep | exact Len.set (Len.set Len.rep))); (case h => omega); (case hm => rfl)) | apply Pre.val))) | (apply AtP.skipI; (case hn => (first | (with_reducible assumption) | exact Len.rep | exact Len.set (by with_reducible assumption) | exact Len.set Len.rep | exact Len.set (Len.set Len.rep))); (case h => omega); (case ho => rfl)) | apply AtP.skipV))); refine put_move ?_; go_step)); refine wpList_nil ?_; exact ⟨rfl, rfl⟩
          case hd => rfl
          (refine takeV 3 _ al9 (by kernel_rfl) (by kernel_rfl) (by kernel_rfl) (fun _ _ _ _ h => nomatch h.1) (V.fieldAddr fo33_1 rfl nq9) rfl ?_)
          go_step
          apply takeS 4 al9 (by kernel_rfl) (by kernel_rfl) (by kernel_rfl) (fun _ _ _ _ h => nomatch h.1) [5, 6, 7, 8, 9] (by kernel_rfl) (hS.sub sb9)
          case hfr => intro w hS; ((refine wpl (by kernel_rfl) ?_; apply wp_loadPP hS 31 _ rfl _ _ rfl 17 (row_of rfl) _; (case hp => exact pl9); (case hi => (repeat (first | (apply AtP.head; (repeat (first | exact Pre.nil | (apply Pre.ints; (case hn => (first | (with_reducible assumption) | exact Len.rep | exact Len.set (by with_reducible assumption) | exact Len.set Len.rep | exact Len.set (Len.set Len.rep))); (case h => omega); (case hm => rfl)) | apply Pre.val))) | (apply AtP.skipI; (case hn => (first | (with_reducible assumption) | exact Len.rep | exact Len.set (by with_reducible assumption) | exact Len.set Len.rep | exact Len.set (Len.set Len.rep))); (case h => omega); (case ho => rfl)) | apply AtP.skipV))); refine put_move ?_; go_step)); refine wpList_nil ?_; exact ⟨rfl, rfl⟩
          case hd => rfl
          refine branch1 2 al9 rfl (by kernel_rfl) ?_
          refine wp_callF (f := 59) rfl Tryd.call59 (newCoder_any _ C1 S1 a1 n1 k1 hC1 (hs1.ext hS.1) hn1 HE1.out) ?_; rintro e w ⟨g25, rfl, hS2⟩; replace hS := hS.call1 hS2; clear hS2; refine ⟨_, rfl, ?_⟩
          refine ⟨fun _ _ => hS.sub sb9, ?_⟩
          refine drawn_move ?_
          go_step
          refine branch1 5 al9 rfl (by kernel_rfl) ?_
          refine wp_callF (f := 59) rfl Tryd.call59 (newCoder_any _ C2 S2 a2 n2 k2 hC2 (hs2.ext hS.1) hn2 HE2.out) ?_; rintro e w ⟨g28, rfl, hS2⟩; replace hS := hS.call1 hS2; clear hS2; refine ⟨_, rfl, ?_⟩
          refine ⟨fun h => absurd (by decide) h, ?_⟩
          refine drawn_move ?_
          go_step
          (refine takeV 6 _ al9 (by kernel_rfl) (by kernel_rfl) (by kernel_rfl) (fun _ _ _ _ h => nomatch h.1) (V.build (vs := [(0, _), (1, _)]) rfl (bl120_0_1 _ _)) rfl ?_)
          go_step
          refine branch1 7 al9 rfl (by kernel_rfl) ?_
          (refine wp_boxG (o := ⟨some 30, _, _, _, _, _⟩) hS 120 _ rfl _ rfl ?_; clear hS; intro g30 w hS)
          refine ⟨fun h => absurd (by decide) h, ?_⟩
          refine drawn_move ?_
          go_step
          refine takeA 8 _ al9 (by kernel_rfl) (by kernel_rfl) (by kernel_rfl) (fun _ _ _ _ h => nomatch h.1) rfl ?_
          go_step
          refine takeA 9 _ al9 (by kernel_rfl) (by kernel_rfl) (by kernel_rfl) (fun _ _ _ _ h => nomatch h.1) rfl ?_
          go_step
          refine drawn_done (by kernel_rfl) ?_ _
          exact ⟨rfl, g25, g28, g30, rfl, St.close (g25, g28) (by dsimp only [List.cons_append, List.nil_append]; exact hS.sub sb9)⟩
      clear hS
      intro g25 g28 g30 w hS
      repeat' ((fail_if_success with_reducible apply ga9); go_step)
      refine ret_all (xs := [_, _]) rfl (.cons (OneRes.tmp rfl) (.cons (OneRes.tmp rfl) (.nil))) (by simp) rfl ?_
      exact ⟨g30, rfl, hS⟩
end Go.Proofs.YtehbjhocgnfpmaaDoor

/- Reading blocks from tokens: the plain law. -/
namespace Go.Proofs.YtehbjhocgnfpmaaDoor
set_option linter.unusedVariables false
section
variable {σ : Type} (next : σ → Bool → Tok × Int × σ)
end
theorem sback_sv (n : Int) : sback (sz n) (sv n).toNat = n ∧ 0 ≤ sv n ∧ sv n < 2 ^ sz n := by
  obtain ⟨h1, h2⟩ := blen_spec n.natAbs
  have hz : blen n.natAbs = sz n := rfl
  rw [hz] at h1 h2
  have e : ((2 : Int) ^ sz n) = ((2 ^ sz n : Nat) : Int) := by push_cast; rfl
  rw [e]
  by_cases hn : n < 0
  · obtain ⟨h3, h4⟩ := h2 (by omega)
    have hsv : sv n = n + ((2 ^ sz n - 1 : Nat) : Int) := by unfold sv; rw [if_pos hn]
    have hp : 2 ^ sz n = 2 * 2 ^ (sz n - 1) := by rw [← Nat.pow_succ']; congr 1; omega
    obtain ⟨p, hpe⟩ : ∃ p, 2 ^ (sz n - 1) = p := ⟨_, rfl⟩
    rw [hpe] at h4 hp
    rw [hp] at h1 hsv
    refine ⟨?_, by rw [hsv]; omega, by rw [hp, hsv]; omega⟩
    unfold sback
    rw [if_pos ⟨by omega, by rw [hpe, hsv]; omega⟩, hp, hsv]; omega
  · have hsv : sv n = n := by unfold sv; rw [if_neg hn]
    by_cases h0 : n = 0
    · subst h0
      rw [sv_zero, sz_zero]
      exact ⟨rfl, by omega, by decide⟩
    · obtain ⟨h3, h4⟩ := h2 (by omega)
      refine ⟨?_, by rw [hsv]; omega, by rw [hsv]; omega⟩
      unfold sback
      rw [if_neg (by rw [hsv]; omega), hsv]; omega
section
variable {σ : Type} {next : σ → Bool → Tok × Int × σ}
end
end Go.Proofs.YtehbjhocgnfpmaaDoor

/- Segments, in plain Lean: the tokens of blocks with their places, and what a call for each of them comes to. -/
namespace Go.Proofs.YtehbjhocgnfpmaaDoor
open Go.RowKit
set_option linter.unusedVariables false
/-- A block's tokens, the first one marked. -/
def mark : List Tok → List (Tok × Bool)
  | [] => []
  | t :: r => (t, true) :: r.map fun x => (x, false)
/-- The tokens of f blocks from k on. -/
def tfl (l : List Int) : Nat → Nat → List (Tok × Bool)
  | _, 0 => []
  | k, f + 1 => mark (tkb l k) ++ tfl l (k + 1) f
/-- A call for each: what goes wrong first, and the state then. -/
def ech {σ : Type} (step : σ → Tok → Bool → Int × σ) : List (Tok × Bool) → σ → Int × σ
  | [], s => (0, s)
  | x :: r, s => if (step s x.1 x.2).1 = 0 then ech step r (step s x.1 x.2).2 else step s x.1 x.2
/-- A token that may be. -/
def okT (t : Tok) : Prop := (0 ≤ t.1 ∧ t.1 < 256) ∧ (0 ≤ t.2.1 ∧ t.2.1 ≤ 12) ∧ 0 ≤ t.2.2 ∧ t.2.2 < 2 ^ t.2.1.toNat
theorem tok_okT (r : Nat) (n : Int) (hr : r ≤ 15) (hb : -4096 < n ∧ n < 4096) : okT (tok r n) := by
  have h1 := sz_le n hb
  have h2 := sback_sv n
  unfold okT tok
  dsimp only
  rw [Int.toNat_natCast]
  exact ⟨by omega, by omega, h2.2.1, by exact_mod_cast h2.2.2⟩
theorem tks_okT : ∀ (l : List Int) (r : Nat), (∀ x ∈ l, -2047 ≤ x ∧ x ≤ 2047) → ∀ t ∈ tks r l, okT t
  | [], r, _, t, ht => by
    unfold tks at ht
    split at ht
    · simp at ht; subst ht; unfold okT; decide
    · simp at ht
  | n :: l, r, h, t, ht => by
    unfold tks at ht
    split at ht
    · exact tks_okT l (r + 1) (fun x hx => h x (by simp [hx])) t ht
    · rcases List.mem_append.1 ht with ht | ht
      · rw [List.eq_of_mem_replicate ht]; unfold okT; decide
      · rcases List.mem_cons.1 ht with rfl | ht
        · exact tok_okT (r % 16) n (by omega) (by have := h n (by simp); omega)
        · exact tks_okT l 0 (fun x hx => h x (by simp [hx])) t ht
theorem tokL_okT {p : Int} {x : List Int} (hx : x.length = 64) : ∀ t ∈ tokL p x, okT t := by
  intro t ht
  unfold tokL at ht
  split at ht
  · rename_i h
    obtain ⟨h1, h2⟩ := tokE_ok hx h
    have hz : ∀ i, i < 64 → -2047 ≤ nth (zto x) i ∧ nth (zto x) i ≤ 2047 := fun i hi => by rw [zto_get _ i hi]; exact h2 _ (zn_lt i hi)
    unfold toksOf at ht
    rcases List.mem_cons.1 ht with rfl | ht
    · have := hz 0 (by omega)
      exact tok_okT 0 _ (by omega) (by omega)
    · refine tks_okT _ 0 (fun y hy => ?_) t ht
      obtain ⟨i, hi, rfl⟩ := List.mem_iff_getElem.1 (List.mem_of_mem_drop hy)
      have := hz i (by rw [← zto_len x]; exact hi)
      simpa [nth, List.getD, hi] using this
  · simp at ht
theorem mark_len (T : List Tok) : (mark T).length = T.length := by cases T <;> simp [mark]
theorem mark_get {T : List Tok} {i : Nat} {x : Tok} (h : T[i]? = some x) : (mark T).drop i = (x, decide (i = 0)) :: (mark T).drop (i + 1) := by
  cases T with
  | nil => simp at h
  | cons t r =>
    cases i with
    | zero => simp at h; subst h; simp [mark]
    | succ i =>
      rw [List.getElem?_cons_succ] at h
      have hi : i < r.length := by
        rcases Nat.lt_or_ge i r.length with h1 | h1
        · exact h1
        · rw [List.getElem?_eq_none h1] at h; cases h
      have hx : r[i] = x := by rw [List.getElem?_eq_getElem hi] at h; exact Option.some.inj h
      simp only [mark, List.drop_succ_cons]
      rw [← List.map_drop, ← List.map_drop, List.drop_eq_getElem_cons hi, hx]
      simp
/-- What a block comes to where all may be. -/
theorem bef_in {l : List Int} {n k : Nat} (hl : l.length = n * 64) (h : allBlk l n = true) (hk : k < n) : -2047 ≤ bef l k ∧ bef l k ≤ 2047 := by
  unfold bef
  by_cases h0 : k = 0
  · rw [if_pos h0]; omega
  · rw [if_neg h0]
    have h1 := allBlk_at h (show k - 1 < n by omega)
    have h2 := (allIn_iff _ _ _).1 h1 0 (by rw [seg_len l 64 (k - 1) n hl (by omega)]; omega)
    exact h2
theorem tkb_ok {l : List Int} {n k : Nat} (hl : l.length = n * 64) (h : allBlk l n = true) (hk : k < n) : tokE (bef l k) (seg l 64 k) = 0 ∧ tkb l k = toksOf (bef l k) (zto (seg l 64 k)) := by
  have h1 : tokE (bef l k) (seg l 64 k) = 0 := by
    unfold tokE
    rw [if_pos ⟨(isC_iff _).2 (bef_in hl h hk), allBlk_at h hk⟩]
  exact ⟨h1, by unfold tkb tokL; rw [if_pos h1]⟩
theorem tokE_zero (x : List Int) : tokE 0 x = if blkIn x then 0 else 1 := by
  unfold tokE
  have h0 : isC 0 = true := rfl
  by_cases h : blkIn x = true
  · rw [if_pos ⟨h0, h⟩, if_pos h]
  · rw [if_neg (fun e => h e.2), if_neg h]
end Go.Proofs.YtehbjhocgnfpmaaDoor

/- The walks of seg.each and seg.Counts. -/
namespace Go.Proofs.YtehbjhocgnfpmaaDoor
open Go.RowKit
set_option maxRecDepth 100000
set_option linter.unusedVariables false
theorem V.makeFunc {P : Program} {ty : TypeId} {a : Act} {fn : Fn} {cs : List Operand} {vs : List Value} (h : cs.map a.eval = vs) : Val P (.makeFunc fn #[] cs.toArray) ty a (.func fn #[] vs.toArray) := fun d pos af g w => by
  subst h
  simp only [execOp, List.map_toArray]
  rfl
/-- A closure that is called for each token. -/
structure Clo (W : World) (σ : Type) where
  step : σ → Tok → Bool → Int × σ
  res : σ → Res
  ok : σ → Nat → Prop
  K : FuncId
  caps : Array Value
  inv : ∀ (args : Array Value) (w : World), (callFunc K args).run Tryd.prog w = .ok (.enter K args) w
  okS : ∀ s m t b, ok s (m + 1) → okT t → (step s t b).1 = 0 → ok (step s t b).2 m
  okM : ∀ s m k, ok s m → k ≤ m → ok s k
  call : ∀ (w : World) (rs rs' : List Res) (s : σ) (m : Nat) (t0 t1 t2 : Int) (b : Bool) (er : Int) (s' : σ), St W w rs → Pull (res s) rs rs' → ok s (m + 1) → okT (t0, t1, t2) → step s (t0, t1, t2) b = (er, s') →
    Calls Tryd.prog K (#[.agg #[.int .i64 t0, .int .i64 t1, .int .i64 t2], .bool b] ++ caps) w fun e w' => e = .returned (.int .i64 er) ∧ St W w' (res s' :: rs')
theorem bef_succ (l : List Int) (q : Nat) : bef l (q + 1) = nth (seg l 64 q) 0 := by unfold bef; rw [if_neg (by omega)]; rfl
/-- A fact that nothing looks into. -/
structure Veil4 (p : Prop) : Prop where
  out : p
theorem tokens_e (w0 : World) (l : List Int) (p E : Int) (T : List Tok) (hE : tokE p l = E) (hT : tokL p l = T) (hl : Len l 64) :
    Calls Tryd.prog 57 #[.int .i64 p, .agg (iv l)] w0 fun e w => ∃ ad m c, T.length = m ∧ e = .returned (.tuple #[.slice ad m c, .int .i64 E]) ∧ St w0 w [own 69 3 ad m c ((flt T).map (Value.int .i64))] := by
  subst hE; subst hT
  refine (tokensOf_any w0 p l hl).mono ?_
  rintro e w ⟨ad, c, rfl, hS⟩
  exact ⟨ad, _, c, rfl, rfl, hS⟩
def EachGives {W : World} {σ : Type} (Z : Clo W σ) (l : List Int) (n : Nat) (s0 : σ) (rs' : List Res) (e : Ending) (w : World) : Prop :=
  ∃ s', (blkE l n = 0 → s' = (ech Z.step (tfl l 0 n) s0).2) ∧ e = .returned (.int .i64 (if blkE l n = 0 then (ech Z.step (tfl l 0 n) s0).1 else blkE l n)) ∧ St W w (Z.res s' :: rs')
theorem each_no {W w : World} {σ : Type} {Z : Clo W σ} {l : List Int} {n : Nat} {s0 : σ} {rs' : List Res} (E : Int) (h1 : blkE l n = E) (h2 : E ≠ 0) (hS : St W w (Z.res s0 :: rs')) : EachGives Z l n s0 rs' (.returned (.int .i64 E)) w :=
  ⟨s0, fun h => absurd (h1.symm.trans h) h2, by rw [h1, if_neg h2], hS⟩
theorem each_yes {W w : World} {σ : Type} {Z : Clo W σ} {l : List Int} {n : Nat} {s0 s' : σ} {rs' : List Res} (er : Int) (h1 : blkE l n = 0) (h2 : ech Z.step (tfl l 0 n) s0 = (er, s')) (hS : St W w (Z.res s' :: rs')) : EachGives Z l n s0 rs' (.returned (.int .i64 er)) w :=
  ⟨s', fun _ => by rw [h2], by rw [if_pos h1, h2], hS⟩
set_option maxHeartbeats 8000000 in
theorem each_any {W : World} {σ : Type} (Z : Clo W σ) (w0 : World) (rs rs' : List Res) (s0 : σ) (ad : Option Addr) (n c : Nat) (l : List Int) (hn : n ≤ 9223372036854775807) (hv : Sl W 64 (.slice ad n c) n (l.map (Value.int .i64)))
    (hS : St W w0 rs) (hp : Pull (Z.res s0) rs rs') (hok : Z.ok s0 25600) :
    Calls Tryd.prog 34 #[.slice ad n c, .func (.func Z.K) #[] Z.caps] w0 (EachGives Z l n s0 rs') := by
  have hl : l.length = n * 64 := by have := hv.1; simpa using this
  have HL := hid hl
  clear hl
  replace hS := hS.pull hp
  clear hp
  by_cases h4 : 400 < n
  · have HE := hid (show blkE l n = 2 by unfold blkE; rw [if_pos h4])
    go_enter Tryd.func34, Tryd.ntmps34
    repeat' (first
      | ((with_reducible apply gt9 _ (.move _)); (first | go_big_want | go_step); go_step) | ((with_reducible apply gt9 _ (.assign _)); (first | go_big_want | go_step); go_step) | ((with_reducible apply gt9 _ (.call ⟨.builtin .len, _, _⟩)); (refine wvv9 (V.len Tryd.underlying22 rfl) ?_; go_step)) | ((with_reducible apply gt9 _ (.binOp .gtr _ _ _ _)); (refine wvv9 (V.gtr rfl rfl) ?_; go_step)) | ((fail_if_success with_reducible apply ga9); go_step))
    go_ret
    exact each_no 2 HE.out (by decide) hS
  have HE := hid (show blkE l n = if allBlk l n then 0 else 1 by unfold blkE; rw [if_neg h4])
  go_enter Tryd.func34, Tryd.ntmps34
  repeat' (first
    | ((with_reducible apply gt9 _ (.move _)); (first | go_big_want | go_step); go_step) | ((with_reducible apply gt9 _ (.assign _)); (first | go_big_want | go_step); go_step) | ((with_reducible apply gt9 _ (.call ⟨.builtin .len, _, _⟩)); (refine wvv9 (V.len Tryd.underlying22 rfl) ?_; go_step)) | ((with_reducible apply gt9 _ (.binOp .gtr _ _ _ _)); (refine wvv9 (V.gtr rfl rfl) ?_; go_step)) | ((fail_if_success with_reducible apply ga9); go_step))
  repeat' (first
    | ((fail_if_success with_reducible apply ga9); go_step))
  go_loopg [22] n (fun gk kv w => ∃ k : Nat, gk + k = n ∧ kv = .int .i64 k ∧ Hid (allBlk l k = true) ∧ St W w (Z.res s0 :: rs'))
  case atStart => exact ⟨0, rfl, rfl, hid rfl, hS⟩
  case round =>
    clear hS
    obtain ⟨k, hk, rfl, HA, hS⟩ := hrel
    by_cases hlt : k < n
    · have ls : Len (seg l 64 k) 64 := seg_len l 64 k n HL.out hlt
      obtain ⟨B, hB⟩ : ∃ B, blkIn (seg l 64 k) = B := ⟨_, rfl⟩
      have HB2 := hid hB
      have HT := hid (tokE_zero (seg l 64 k))
      cases B
      · have HF := hid (allBlk_not hlt HB2.out)
        have HT1 := hid (show tokE 0 (seg l 64 k) = 1 by rw [HT.out, hB]; rfl)
        clear hB HT
        repeat' (first
          | ((with_reducible apply gt9 _ (.call ⟨.value (.func 57), _, _⟩)); refine wpl_call (f := 57) Tryd.call57 (by kernel_rfl) ?_; refine ⟨_, (tokens_e _ _ 0 1 _ HT1.out rfl ls), ?_⟩; rintro e w ⟨a5, m5, c5, hm5, rfl, hS2⟩; replace hS := hS.call1 hS2; clear hS2 hm5; refine ⟨_, rfl, ?_⟩; refine put_move ?_; go_step) | ((with_reducible apply gt9 _ (.move _)); (first | go_big_want | go_step); go_step) | ((with_reducible apply gt9 _ (.assign _)); (first | go_big_want | go_step); go_step) | ((with_reducible apply gt9 _ (.binOp .lss _ _ _ _)); (refine wvv9 (V.lss rfl rfl) ?_; go_step)) | ((with_reducible apply gt9 (some 24) (.indexAddr 22 _ _)); (refine wpl_indexS (by with_reducible assumption) Tryd.underlying22 isz52 rfl rfl isn9 (by omega) rfl ?_; intro b24 o24 hl24 hc24; go_step)) | ((with_reducible apply gt9 _ (.extract _ _)); (refine wvv9 (V.extract rfl rfl) ?_; go_step)) | ((with_reducible apply gt9 _ (.binOp .neq 25 _ _ _)); (refine wvv9 (V.neq rfl rfl) ?_; go_step)) | ((with_reducible apply gt9 _ (.load 52 _)); first | (refine wpl (by kernel_rfl) ?_; apply wp_loadRI hS 52 _ rfl _ _ rfl 64 (row_of rfl) _; (case hl => with_reducible assumption); (case hr => with_reducible assumption); refine put_move ?_; go_step) | (refine wpl (by kernel_rfl) ?_; apply wp_loadA hS 52 _ rfl _ rfl 64 (row_of rfl) _; (case hp => exact pl9); refine put_move ?_; go_step)) | ((with_reducible apply gt9 (some 6) (.alloc 52)); (refine wpl (by kernel_rfl) ?_; apply wp_allocA (o := ⟨some 6, _, _, _, _, _⟩) hS 52 rfl (List.replicate 64 0) 64 List.length_replicate za52; clear hS; intro g6 w hS; refine put_move ?_; go_step)) | ((with_reducible apply gt9 _ (.store 52 _ _)); (refine wpl (by kernel_rfl) ?_; apply wp_storeA hS 52 _ _ rfl _ rfl 64 (row_of rfl) _ _; (case hp => exact pl9); (case hy => rfl); (case hm => (repeat (first | assumption | exact Len.rep | apply Len.set | ((with_reducible show Len (_ :: _) _); exact rfl)))); (case hd => exact rfl); clear hS; intro w hS)) | ((fail_if_success with_reducible apply ga9); go_step))
        all_goals (try (have hF : False := (by omega); cases hF))
        go_ret
        exact each_no 1 (by rw [HE.out, HF.out]; rfl) (by decide) (hS.sub sb9)
      · have HT1 := hid (show tokE 0 (seg l 64 k) = 0 by rw [HT.out, hB]; rfl)
        clear hB HT
        repeat' (first
          | ((with_reducible apply gt9 _ (.call ⟨.value (.func 57), _, _⟩)); refine wpl_call (f := 57) Tryd.call57 (by kernel_rfl) ?_; refine ⟨_, (tokens_e _ _ 0 0 _ HT1.out rfl ls), ?_⟩; rintro e w ⟨a5, m5, c5, hm5, rfl, hS2⟩; replace hS := hS.call1 hS2; clear hS2 hm5; refine ⟨_, rfl, ?_⟩; refine put_move ?_; go_step) | ((with_reducible apply gt9 _ (.move _)); (first | go_big_want | go_step); go_step) | ((with_reducible apply gt9 _ (.assign _)); (first | go_big_want | go_step); go_step) | ((with_reducible apply gt9 _ (.binOp .lss _ _ _ _)); (refine wvv9 (V.lss rfl rfl) ?_; go_step)) | ((with_reducible apply gt9 (some 24) (.indexAddr 22 _ _)); (refine wpl_indexS (by with_reducible assumption) Tryd.underlying22 isz52 rfl rfl isn9 (by omega) rfl ?_; intro b24 o24 hl24 hc24; go_step)) | ((with_reducible apply gt9 _ (.extract _ _)); (refine wvv9 (V.extract rfl rfl) ?_; go_step)) | ((with_reducible apply gt9 _ (.binOp .neq 25 _ _ _)); (refine wvv9 (V.neq rfl rfl) ?_; go_step)) | ((with_reducible apply gt9 _ (.load 52 _)); first | (refine wpl (by kernel_rfl) ?_; apply wp_loadRI hS 52 _ rfl _ _ rfl 64 (row_of rfl) _; (case hl => with_reducible assumption); (case hr => with_reducible assumption); refine put_move ?_; go_step) | (refine wpl (by kernel_rfl) ?_; apply wp_loadA hS 52 _ rfl _ rfl 64 (row_of rfl) _; (case hp => exact pl9); refine put_move ?_; go_step)) | ((with_reducible apply gt9 (some 6) (.alloc 52)); (refine wpl (by kernel_rfl) ?_; apply wp_allocA (o := ⟨some 6, _, _, _, _, _⟩) hS 52 rfl (List.replicate 64 0) 64 List.length_replicate za52; clear hS; intro g6 w hS; refine put_move ?_; go_step)) | ((with_reducible apply gt9 _ (.store 52 _ _)); (refine wpl (by kernel_rfl) ?_; apply wp_storeA hS 52 _ _ rfl _ rfl 64 (row_of rfl) _ _; (case hp => exact pl9); (case hy => rfl); (case hm => (repeat (first | assumption | exact Len.rep | apply Len.set | ((with_reducible show Len (_ :: _) _); exact rfl)))); (case hd => exact rfl); clear hS; intro w hS)) | ((fail_if_success with_reducible apply ga9); go_step))
        repeat' (first
          | ((with_reducible apply gt9 _ (.move _)); (first | go_big_want | go_step); go_step) | ((with_reducible apply gt9 _ (.binOp .add _ _ _ _)); (refine wvv9 (V.addI rfl rfl (by omega)) ?_; go_step)) | ((fail_if_success with_reducible apply ga9); go_step))
        all_goals (try (have hF : False := (by omega); cases hF))
        go_roundg (gk - 1)
        case measure => omega
        case rel => exact ⟨k + 1, by omega, by go_num, hid (by rw [allBlk_succ, HA.out, HB2.out]; rfl), hS.sub sb9⟩
    · obtain rfl : k = n := by omega
      have HE0 := hid (show blkE l k = 0 by rw [HE.out, HA.out]; rfl)
      repeat' (first
        | ((with_reducible apply gt9 _ (.move _)); (first | go_big_want | go_step); go_step) | ((with_reducible apply gt9 _ (.assign _)); (first | go_big_want | go_step); go_step) | ((with_reducible apply gt9 _ (.binOp .lss _ _ _ _)); (refine wvv9 (V.lss rfl rfl) ?_; go_step)) | ((fail_if_success with_reducible apply ga9); go_step))
      repeat' (first
        | ((with_reducible apply gt9 _ (.move _)); (first | go_big_want | go_step); go_step) | ((with_reducible apply gt9 _ (.call ⟨.builtin .len, _, _⟩)); (refine wvv9 (V.len Tryd.underlying22 rfl) ?_; go_step)) | ((fail_if_success with_reducible apply ga9); go_step))
      clear hk
      go_loopg [9, 37] k (fun gk bv kv w => ∃ (q : Nat) (s : σ), gk + q = k ∧ kv = .int .i64 q ∧ bv = .int .i64 (bef l q) ∧ Hid (Z.ok s (25600 - 64 * q)) ∧ Veil4 (ech Z.step (tfl l 0 k) s0 = ech Z.step (tfl l q (k - q)) s) ∧ St W w (Z.res s :: rs'))
      case atStart => exact ⟨0, s0, rfl, rfl, rfl, hid hok, ⟨rfl⟩, hS⟩
      case round =>
        clear hS hok
        obtain ⟨q, s, hq, rfl, rfl, HO, HV, hS⟩ := hrel
        by_cases hlt : q < k
        · have ls : Len (seg l 64 q) 64 := seg_len l 64 q k HL.out hlt
          obtain ⟨ht1, ht2⟩ := tkb_ok HL.out HA.out hlt
          have HT1 := hid ht1
          obtain ⟨p, hpb⟩ : ∃ p, bef l q = p := ⟨_, rfl⟩
          obtain ⟨T, hT⟩ : ∃ T, tkb l q = T := ⟨_, rfl⟩
          have HT2 := hid (show tokL p (seg l 64 q) = T by rw [← hT, ← hpb]; rfl)
          have HSY := hid (show ∀ t ∈ T, okT t by rw [← HT2.out]; exact tokL_okT ls)
          have hTl : T.length ≤ 64 := by rw [← HT2.out]; exact tokL_le ls
          have HV2 : Veil4 (ech Z.step (tfl l 0 k) s0 = ech Z.step ((mark T).drop 0 ++ tfl l (q + 1) (k - (q + 1))) s) := ⟨by rw [HV.out, show k - q = (k - (q + 1)) + 1 by omega, tfl, hT]; rfl⟩
          rw [hpb] at HT1
          have HPB := hid hpb
          rw [hpb]
          clear ht1 ht2 hT HV hpb
          repeat' (first
            | ((with_reducible apply gt9 _ (.call ⟨.value (.func 57), _, _⟩)); refine wpl_call (f := 57) Tryd.call57 (by kernel_rfl) ?_; refine ⟨_, (tokens_e _ _ p 0 T HT1.out HT2.out ls), ?_⟩; rintro e w ⟨a5, m5, c5, hm5, rfl, hS2⟩; replace hS := hS.call1 hS2; clear hS2; refine ⟨_, rfl, ?_⟩; refine put_move ?_; go_step) | ((with_reducible apply gt9 _ (.move _)); (first | go_big_want | go_step); go_step) | ((with_reducible apply gt9 _ (.assign _)); (first | go_big_want | go_step); go_step) | ((with_reducible apply gt9 _ (.binOp .lss _ _ _ _)); (refine wvv9 (V.lss rfl rfl) ?_; go_step)) | ((with_reducible apply gt9 (some 39) (.indexAddr 22 _ _)); (refine wpl_indexS (by with_reducible assumption) Tryd.underlying22 isz52 rfl rfl isn9 (by omega) rfl ?_; intro b39 o39 hl39 hc39; go_step)) | ((with_reducible apply gt9 _ (.extract _ _)); (refine wvv9 (V.extract rfl rfl) ?_; go_step)) | ((with_reducible apply gt9 _ (.call ⟨.builtin .len, _, _⟩)); (refine wvv9 (V.len Tryd.underlying100 rfl) ?_; go_step)) | ((with_reducible apply gt9 _ (.load 52 _)); first | (refine wpl (by kernel_rfl) ?_; apply wp_loadRI hS 52 _ rfl _ _ rfl 64 (row_of rfl) _; (case hl => with_reducible assumption); (case hr => with_reducible assumption); refine put_move ?_; go_step) | (refine wpl (by kernel_rfl) ?_; apply wp_loadA hS 52 _ rfl _ rfl 64 (row_of rfl) _; (case hp => exact pl9); refine put_move ?_; go_step)) | ((with_reducible apply gt9 (some 11) (.alloc 52)); (refine wpl (by kernel_rfl) ?_; apply wp_allocA (o := ⟨some 11, _, _, _, _, _⟩) hS 52 rfl (List.replicate 64 0) 64 List.length_replicate za52; clear hS; intro g11 w hS; refine put_move ?_; go_step)) | ((with_reducible apply gt9 _ (.store 52 _ _)); (refine wpl (by kernel_rfl) ?_; apply wp_storeA hS 52 _ _ rfl _ rfl 64 (row_of rfl) _ _; (case hp => exact pl9); (case hy => rfl); (case hm => (repeat (first | assumption | exact Len.rep | apply Len.set | ((with_reducible show Len (_ :: _) _); exact rfl)))); (case hd => exact rfl); clear hS; intro w hS)) | ((fail_if_success with_reducible apply ga9); go_step))
          obtain ⟨gk1, hgk1⟩ : ∃ x, x = gk := ⟨_, rfl⟩
          subst hgk1
          go_loopg [49] m5 (fun gk kv w => ∃ (i : Nat) (s : σ), gk + i = m5 ∧ kv = .int .i64 i ∧ Hid (Z.ok s (25600 - 64 * q - i)) ∧ Veil4 (ech Z.step (tfl l 0 k) s0 = ech Z.step ((mark T).drop i ++ tfl l (q + 1) (k - (q + 1))) s) ∧ St W w (Z.res s :: own 69 3 a5 m5 c5 ((flt T).map (Value.int .i64)) :: arr g11 64 (seg l 64 q) :: rs'))
          case atStart => exact ⟨0, s, rfl, rfl, HO, HV2, hS.sub sb9⟩
          case round =>
            clear hS HV2 HO
            obtain ⟨i, s, hi, rfl, HO, HV, hS⟩ := hrel
            by_cases hlt2 : i < m5
            · obtain ⟨b5, rfl⟩ := own_some (a := a5) hS pl9 (by omega)
              obtain ⟨⟨t0, t1, t2⟩, hx⟩ : ∃ x, T[i]? = some x := ⟨_, List.getElem?_eq_getElem (by omega)⟩
              have hseg := flt_get T i _ hx
              have HSX := hid (HSY.out _ (List.mem_of_getElem? hx))
              have hmk := mark_get hx
              dsimp only at hseg
              obtain ⟨⟨er, s'⟩, hst⟩ : ∃ y, Z.step s (t0, t1, t2) (decide (((i : Nat) : Int) = 0)) = y := ⟨_, rfl⟩
              obtain ⟨m, hm⟩ : ∃ m, 25600 - 64 * q - i = m + 1 := ⟨25600 - 64 * q - i - 1, by omega⟩
              have ho := HO.out
              rw [hm] at ho
              have HO1 := hid ho
              have HST := hid hst
              have hv2 := HV.out
              rw [hmk, List.cons_append, ech, show decide (i = 0) = decide (((i : Nat) : Int) = 0) from decide_eq_decide.2 (by omega)] at hv2
              dsimp only at hv2
              rw [hst] at hv2
              have HO2 : Hid (er = 0 → Z.ok s' m) := hid fun h => by
                have := Z.okS s m _ _ ho HSX.out (by rw [hst]; exact h)
                rw [hst] at this; exact this
              have HV2 : Veil4 (ech Z.step (tfl l 0 k) s0 = if er = 0 then ech Z.step ((mark T).drop (i + 1) ++ tfl l (q + 1) (k - (q + 1))) s' else (er, s')) := ⟨hv2⟩
              clear hx hmk hst ho hv2 HV HO
              by_cases her : er = 0
              · have HO3 := hid (HO2.out her)
                have HV3 : Veil4 (ech Z.step (tfl l 0 k) s0 = ech Z.step ((mark T).drop (i + 1) ++ tfl l (q + 1) (k - (q + 1))) s') := ⟨by rw [HV2.out, if_pos her]⟩
                clear HV2 HO2
                subst her
                repeat' (first
                  | ((with_reducible apply gt9 (some 58) _); refine wpl (by kernel_rfl) ?_; refine wp_callV (f := Z.K) rfl rfl Z.inv (Z.call _ _ _ s m t0 t1 t2 (decide (((i : Nat) : Int) = 0)) 0 s' hS pl9 HO1.out HSX.out HST.out) ?_; clear hS; rintro e w ⟨rfl, hS⟩; refine ⟨_, rfl, ?_⟩; refine put_move ?_; go_step) | ((with_reducible apply gt9 _ (.move _)); (first | go_big_want | go_step); go_step) | ((with_reducible apply gt9 _ (.assign _)); (first | go_big_want | go_step); go_step) | ((with_reducible apply gt9 _ (.binOp .lss _ _ _ _)); (refine wvv9 (V.lss rfl rfl) ?_; go_step)) | ((with_reducible apply gt9 (some 52) (.indexAddr 100 _ _)); (refine wvv9 (V.indexSl Tryd.underlying100 isz69 rfl rfl isn9 (by omega) rfl nq9) ?_; go_step)) | ((with_reducible apply gt9 _ (.binOp .eql 3 _ _ _)); (refine wvv9 (V.eql rfl rfl) ?_; go_step)) | ((with_reducible apply gt9 _ (.binOp .neq 25 _ _ _)); (refine wvv9 (V.neq rfl rfl) ?_; go_step)) | ((with_reducible apply gt9 _ (.load 69 _)); first | (refine wpl (by kernel_rfl) ?_; apply wp_loadROE hS 69 _ rfl _ _ rfl 3 (row_of rfl) _ _ _ _ _; (case hp => exact pl9); (case hi => omega); (case hl' => with_reducible assumption); refine put_move ?_; go_step) | (refine wpl (by kernel_rfl) ?_; apply wp_loadG hS 69 _ rfl _ rfl 3 (row_of rfl) _; (case hp => exact pl9); (case hn => rfl); refine put_move ?_; go_step)) | ((with_reducible apply gt9 (some 15) (.alloc 69)); (refine wpl (by kernel_rfl) ?_; apply wp_alloc (o := ⟨some 15, _, _, _, _, _⟩) hS 69 rfl (.agg #[.int .i64 0, .int .i64 0, .int .i64 0]) [.int .i64 0, .int .i64 0, .int .i64 0] (fun w => Tryd.zeroValue69 w) rfl; clear hS; intro g15 w hS; refine put_move ?_; go_step)) | ((with_reducible apply gt9 _ (.store 69 _ _)); (refine wpl (by kernel_rfl) ?_; apply wp_storeG hS 69 _ _ rfl _ rfl 3 (row_of rfl) _ _; (case hp => exact pl9); (case hy => rfl); (case hn => rfl); (case hn' => rfl); (case hv => rfl); (case hd => exact rfl); clear hS; intro w hS)) | ((fail_if_success with_reducible apply ga9); go_step))
                all_goals (try (have hF : False := (by omega); cases hF))
                repeat' (first
                  | ((with_reducible apply gt9 _ (.move _)); (first | go_big_want | go_step); go_step) | ((with_reducible apply gt9 _ (.binOp .add _ _ _ _)); (refine wvv9 (V.addI rfl rfl (by omega)) ?_; go_step)) | ((fail_if_success with_reducible apply ga9); go_step))
                go_roundg (gk - 1)
                case measure => omega
                case rel => exact ⟨i + 1, s', by omega, by go_num, hid (by rw [show 25600 - 64 * q - (i + 1) = m by omega]; exact HO3.out), HV3, hS.sub sb9⟩
              · have HV3 : Veil4 (ech Z.step (tfl l 0 k) s0 = (er, s')) := ⟨by rw [HV2.out, if_neg her]⟩
                clear HV2 HO2
                repeat' (first
                  | ((with_reducible apply gt9 (some 58) _); refine wpl (by kernel_rfl) ?_; refine wp_callV (f := Z.K) rfl rfl Z.inv (Z.call _ _ _ s m t0 t1 t2 (decide (((i : Nat) : Int) = 0)) er s' hS pl9 HO1.out HSX.out HST.out) ?_; clear hS; rintro e w ⟨rfl, hS⟩; refine ⟨_, rfl, ?_⟩; refine put_move ?_; go_step) | ((with_reducible apply gt9 _ (.move _)); (first | go_big_want | go_step); go_step) | ((with_reducible apply gt9 _ (.assign _)); (first | go_big_want | go_step); go_step) | ((with_reducible apply gt9 _ (.binOp .lss _ _ _ _)); (refine wvv9 (V.lss rfl rfl) ?_; go_step)) | ((with_reducible apply gt9 (some 52) (.indexAddr 100 _ _)); (refine wvv9 (V.indexSl Tryd.underlying100 isz69 rfl rfl isn9 (by omega) rfl nq9) ?_; go_step)) | ((with_reducible apply gt9 _ (.binOp .eql 3 _ _ _)); (refine wvv9 (V.eql rfl rfl) ?_; go_step)) | ((with_reducible apply gt9 _ (.binOp .neq 25 _ _ _)); (refine wvv9 (V.neq rfl rfl) ?_; go_step)) | ((with_reducible apply gt9 _ (.load 69 _)); first | (refine wpl (by kernel_rfl) ?_; apply wp_loadROE hS 69 _ rfl _ _ rfl 3 (row_of rfl) _ _ _ _ _; (case hp => exact pl9); (case hi => omega); (case hl' => with_reducible assumption); refine put_move ?_; go_step) | (refine wpl (by kernel_rfl) ?_; apply wp_loadG hS 69 _ rfl _ rfl 3 (row_of rfl) _; (case hp => exact pl9); (case hn => rfl); refine put_move ?_; go_step)) | ((with_reducible apply gt9 (some 15) (.alloc 69)); (refine wpl (by kernel_rfl) ?_; apply wp_alloc (o := ⟨some 15, _, _, _, _, _⟩) hS 69 rfl (.agg #[.int .i64 0, .int .i64 0, .int .i64 0]) [.int .i64 0, .int .i64 0, .int .i64 0] (fun w => Tryd.zeroValue69 w) rfl; clear hS; intro g15 w hS; refine put_move ?_; go_step)) | ((with_reducible apply gt9 _ (.store 69 _ _)); (refine wpl (by kernel_rfl) ?_; apply wp_storeG hS 69 _ _ rfl _ rfl 3 (row_of rfl) _ _; (case hp => exact pl9); (case hy => rfl); (case hn => rfl); (case hn' => rfl); (case hv => rfl); (case hd => exact rfl); clear hS; intro w hS)) | ((fail_if_success with_reducible apply ga9); go_step))
                all_goals (try (have hF : False := (by omega); cases hF))
                go_ret
                exact each_yes er HE0.out HV3.out (hS.sub sb9)
            · obtain rfl : i = m5 := by omega
              have HB := hid (bef_succ l q)
              have HV3 : Veil4 (ech Z.step (tfl l 0 k) s0 = ech Z.step (tfl l (q + 1) (k - (q + 1))) s) := ⟨by rw [HV.out, List.drop_of_length_le (by rw [mark_len]; omega)]; rfl⟩
              have HO3 := hid (Z.okM _ _ (25600 - 64 * (q + 1)) HO.out (by omega))
              clear HV HO
              repeat' (first
                | ((with_reducible apply gt9 _ (.binOp .lss _ _ _ _)); (refine wvv9 (V.lss rfl rfl) ?_; go_step)) | ((fail_if_success with_reducible apply ga9); go_step))
              repeat' (first
                | ((with_reducible apply gt9 _ (.move _)); (first | go_big_want | go_step); go_step) | ((with_reducible apply gt9 _ (.assign _)); (first | go_big_want | go_step); go_step) | ((with_reducible apply gt9 (some 63) (.indexAddr 52 _ _)); (refine wvv9 (V.indexAr Tryd.underlying52 isz3 rfl rfl (show IsN 0 0 from rfl) (by omega) (show 0 * 1 = 0 from rfl) nq9) ?_; go_step)) | ((with_reducible apply gt9 _ (.binOp .add _ _ _ _)); (refine wvv9 (V.addI rfl rfl (by omega)) ?_; go_step)) | ((with_reducible apply gt9 _ (.load 3 _)); (refine wpl (by kernel_rfl) ?_; apply wp_load1A hS 3 _ rfl _ _ rfl (one_of rfl) _ _; (case hp => exact pl9); (case hi => omega); refine put_move ?_; go_step)) | ((fail_if_success with_reducible apply ga9); go_step))
              go_roundg (gk1 - 1)
              case measure => omega
              case rel => exact ⟨q + 1, s, by omega, by go_num, by rw [HB.out], HO3, HV3, hS.sub sb9⟩
        · obtain rfl : q = k := by omega
          have HV3 : Veil4 (ech Z.step (tfl l 0 q) s0 = (0, s)) := ⟨by rw [HV.out, Nat.sub_self]; rfl⟩
          clear HV
          repeat' (first
            | ((with_reducible apply gt9 _ (.assign _)); (first | go_big_want | go_step); go_step) | ((with_reducible apply gt9 _ (.binOp .lss _ _ _ _)); (refine wvv9 (V.lss rfl rfl) ?_; go_step)) | ((fail_if_success with_reducible apply ga9); go_step))
          repeat' (first
            | ((fail_if_success with_reducible apply ga9); go_step))
          go_ret
          exact each_yes 0 HE0.out HV3.out hS
end Go.Proofs.YtehbjhocgnfpmaaDoor

/- The walks of the writer's Bytes and of bits.Write. -/
namespace Go.Proofs.YtehbjhocgnfpmaaDoor
set_option maxRecDepth 100000
open Go.RowKit
/-- The call hands out a slice of its own. -/
def GivesSl (T : TypeId) (s : Nat) (W : World) (rs : List Res) (n : Nat) (xs : List Value) (e : Ending) (w' : World) : Prop := ∃ ad c, e = .returned (.slice ad n c) ∧ St W w' (own T s ad n c xs :: rs)
theorem ones_pad (bs : List Bool) (h : 0 < bs.length % 8) : bitsOf (8 - bs.length % 8) (2 ^ (8 - bs.length % 8) - 1) = padding bs := by
  unfold padding
  rw [Nat.mod_eq_of_lt (show 8 - bs.length % 8 < 8 by omega)]
  generalize 8 - bs.length % 8 = k
  apply List.ext_getElem?
  intro i
  by_cases hi : i < k
  · rw [bitsOf_get _ _ _ hi, List.getElem?_replicate, if_pos hi]
    congr 1
    have h1 : 2 ^ k = 2 ^ (k - 1 - i) * 2 ^ (i + 1) := by rw [← Nat.pow_add]; congr 1; omega
    have h2 : (2 ^ k - 1) / 2 ^ (k - 1 - i) = 2 ^ (i + 1) - 1 := by
      rw [h1]
      have hp : 0 < 2 ^ (k - 1 - i) := Nat.two_pow_pos _
      have hq : 0 < 2 ^ (i + 1) := Nat.two_pow_pos _
      generalize 2 ^ (k - 1 - i) = p at hp
      generalize 2 ^ (i + 1) = q at hq
      obtain ⟨q', rfl⟩ : ∃ q', q = q' + 1 := ⟨q - 1, by omega⟩
      rw [Nat.mul_succ, Nat.add_sub_assoc (by omega), Nat.mul_add_div hp, Nat.div_eq_of_lt (by omega)]
      omega
    rw [h2, Nat.pow_succ]
    have : 0 < 2 ^ i := Nat.two_pow_pos _
    have h3 : (2 ^ i * 2 - 1) % 2 = 1 := by omega
    rw [h3]; rfl
  · rw [List.getElem?_eq_none (by rw [bitsOf_len]; omega), List.getElem?_eq_none (by simp; omega)]
set_option maxHeartbeats 1000000 in
theorem bytes_any (W w : World) (rs rs' : List Res) (g : Nat) (bs : List Bool) (hS : St W w rs) (hp : Pull (wr g bs) rs rs') (hb : bs.length ≤ 1000000000000) :
    Calls Tryd.prog 42 #[.pointer (some ⟨g, 0, none⟩)] w (GivesSl 5 1 W rs' ((bs.length + 7) / 8) (bv (bytesOf bs))) := by
  obtain ⟨⟨ad, c⟩, hS⟩ := (hS.pull hp).open
  dsimp only [List.cons_append, List.nil_append] at hS
  generalize hM : bs.length % 8 = M at *
  by_cases h0 : M = 0
  · subst h0
    go_enter Tryd.func42, Tryd.ntmps42
    go_wp2_with (first
      | ((with_reducible apply gt9 _ (.load 3 _)); first | (refine wpl rfl (wp_load1A hS 3 _ rfl _ _ rfl (one_of rfl) _ _ pl9 (by omega) ?_); refine wpl_put (by (simp only [Act.put, List.setIfInBounds_toArray, List.set_cons_zero, List.set_cons_succ]); exact rfl) ?_) | (refine wpl rfl (wp_load1 hS 3 _ rfl _ _ rfl (one_of rfl) _ pl9 _ (by rfl) ?_); refine wpl_put (by (simp only [Act.put, List.setIfInBounds_toArray, List.set_cons_zero, List.set_cons_succ]); exact rfl) ?_) | (refine wpl rfl (wp_load1O hS 3 _ rfl _ _ rfl (one_of rfl) _ _ _ _ _ pl9 _ (by with_reducible assumption) ?_); refine wpl_put (by (simp only [Act.put, List.setIfInBounds_toArray, List.set_cons_zero, List.set_cons_succ]); exact rfl) ?_) | (refine wpl rfl (wp_loadW hS 3 _ rfl _ rfl (one_of rfl) _ (by with_reducible assumption) ?_); refine wpl_put (by (simp only [Act.put, List.setIfInBounds_toArray, List.set_cons_zero, List.set_cons_succ]); exact rfl) ?_)) | ((with_reducible apply gt9 _ (.load 34 _)); first | (refine wpl rfl (wp_load1 hS 34 _ rfl _ _ rfl (one_of rfl) _ pl9 _ (by rfl) ?_); refine wpl_put (by (simp only [Act.put, List.setIfInBounds_toArray, List.set_cons_zero, List.set_cons_succ]); exact rfl) ?_) | (refine wpl rfl (wp_load1O hS 34 _ rfl _ _ rfl (one_of rfl) _ _ _ _ _ pl9 _ (by with_reducible assumption) ?_); refine wpl_put (by (simp only [Act.put, List.setIfInBounds_toArray, List.set_cons_zero, List.set_cons_succ]); exact rfl) ?_) | (refine wpl rfl (wp_loadW hS 34 _ rfl _ rfl (one_of rfl) _ (by with_reducible assumption) ?_); refine wpl_put (by (simp only [Act.put, List.setIfInBounds_toArray, List.set_cons_zero, List.set_cons_succ]); exact rfl) ?_))
                                                            | (first | refine stop_load ?_ | refine stop_store ?_ | refine stop_alloc ?_ | refine stop_box ?_))
    go_ret
    have h1 : (bs.length + 7) / 8 = bs.length / 8 := by omega
    have h2 : bytesOf bs = packs (bs.length / 8) bs := by
      unfold bytesOf padding
      rw [hM, h1]; simp
    rw [h1, h2]
    exact ⟨ad, c, rfl, hS.sub sb9⟩
  · have hM8 : M < 8 := by omega
    have hpos : (0 : Int) < (M : Int) := by omega
    have HM := hid hM
    clear hM h0
    obtain ⟨k, hk⟩ : ∃ k, k = 8 - M := ⟨_, rfl⟩
    have hk8 : k ≤ 7 := by omega
    have e1 : IntKind.i64.wrap (8 - (M : Int)) = (k : Int) := by simp [IntKind.wrap, IntKind.signed, IntKind.bits]; omega
    have e2 : (0 : Int) ≤ (k : Int) := by omega
    have hk64 : (k : Int) < 64 := by omega
    have HK := hid hk
    clear hk
    have HC := hid (fun (w : World) (hS : St W w (blk g [.slice ad (bs.length / 8) c, .int .u64 (num (bs.drop (8 * (bs.length / 8))) : Nat), .int .i64 (M : Nat)] :: own 5 1 ad (bs.length / 8) c (bv (packs (bs.length / 8) bs)) :: rs')) =>
      (St.close (ad, c) (by simp only [List.cons_append, List.nil_append]; rw [HM.out]; exact hS) : St W w (wr g bs :: rs')))
    have HV := hid (show 2 ^ k - 1 < 2 ^ k by have := Nat.two_pow_pos k; omega)
    have HP := hid (show bitsOf k (2 ^ k - 1) = padding bs by
      have := ones_pad bs (by rw [HM.out]; omega)
      rwa [HM.out, ← HK.out] at this)
    have HW := hid (show wrap64 (wrap64 ((2 : Int) ^ k) - 1) = ((2 ^ k - 1 : Nat) : Int) by
      have h1 : 2 ^ k ≤ 2 ^ 7 := Nat.pow_le_pow_right (by omega) hk8
      have h0 := Nat.two_pow_pos k
      rw [show (2 : Int) ^ k = ((2 ^ k : Nat) : Int) by push_cast; rfl]
      generalize 2 ^ k = x at h1 h0
      unfold wrap64
      omega)
    go_enter Tryd.func42, Tryd.ntmps42
    go_wp2_with (first
      | ((with_reducible apply gt9 _ (.load 3 _)); first | (refine wpl rfl (wp_load1A hS 3 _ rfl _ _ rfl (one_of rfl) _ _ pl9 (by omega) ?_); refine wpl_put (by (simp only [Act.put, List.setIfInBounds_toArray, List.set_cons_zero, List.set_cons_succ]); exact rfl) ?_) | (refine wpl rfl (wp_load1 hS 3 _ rfl _ _ rfl (one_of rfl) _ pl9 _ (by rfl) ?_); refine wpl_put (by (simp only [Act.put, List.setIfInBounds_toArray, List.set_cons_zero, List.set_cons_succ]); exact rfl) ?_) | (refine wpl rfl (wp_load1O hS 3 _ rfl _ _ rfl (one_of rfl) _ _ _ _ _ pl9 _ (by with_reducible assumption) ?_); refine wpl_put (by (simp only [Act.put, List.setIfInBounds_toArray, List.set_cons_zero, List.set_cons_succ]); exact rfl) ?_) | (refine wpl rfl (wp_loadW hS 3 _ rfl _ rfl (one_of rfl) _ (by with_reducible assumption) ?_); refine wpl_put (by (simp only [Act.put, List.setIfInBounds_toArray, List.set_cons_zero, List.set_cons_succ]); exact rfl) ?_)) | ((with_reducible apply gt9 _ (.load 34 _)); first | (refine wpl rfl (wp_load1 hS 34 _ rfl _ _ rfl (one_of rfl) _ pl9 _ (by rfl) ?_); refine wpl_put (by (simp only [Act.put, List.setIfInBounds_toArray, List.set_cons_zero, List.set_cons_succ]); exact rfl) ?_) | (refine wpl rfl (wp_load1O hS 34 _ rfl _ _ rfl (one_of rfl) _ _ _ _ _ pl9 _ (by with_reducible assumption) ?_); refine wpl_put (by (simp only [Act.put, List.setIfInBounds_toArray, List.set_cons_zero, List.set_cons_succ]); exact rfl) ?_) | (refine wpl rfl (wp_loadW hS 34 _ rfl _ rfl (one_of rfl) _ (by with_reducible assumption) ?_); refine wpl_put (by (simp only [Act.put, List.setIfInBounds_toArray, List.set_cons_zero, List.set_cons_succ]); exact rfl) ?_))
                                                            | (first | refine stop_load ?_ | refine stop_store ?_ | refine stop_alloc ?_ | refine stop_box ?_))
    refine drawn_lit [13] (fun w => St W w [blk g [.slice ad (bs.length / 8) c, .int .u64 (num (bs.drop (8 * (bs.length / 8))) : Nat), .int .i64 (M : Nat)]]) (by kernel_rfl) ?_
    replace hS := hS.drew
    apply takeP 0 al9 (by kernel_rfl) (by kernel_rfl) (by kernel_rfl) (fun _ _ _ _ h => h)
    case hfr => intro w; go_wp2_with fail; exact ⟨rfl, rfl⟩
    case hd => rfl
    apply takeP 1 al9 (by kernel_rfl) (by kernel_rfl) (by kernel_rfl) (fun _ _ _ _ h => h)
    case hfr => intro w; go_wp2_with fail; exact ⟨rfl, rfl⟩
    case hd => rfl
    apply takeP 2 al9 (by kernel_rfl) (by kernel_rfl) (by kernel_rfl) (fun _ _ _ _ h => h)
    case hfr => intro w; go_wp2_with fail; exact ⟨rfl, rfl⟩
    case hd => rfl
    apply takeP 3 al9 (by kernel_rfl) (by kernel_rfl) (by kernel_rfl) (fun _ _ _ _ h => h)
    case hfr => intro w; go_wp2_with fail; exact ⟨rfl, rfl⟩
    case hd => rfl
    apply takeS 4 al9 (by kernel_rfl) (by kernel_rfl) (by kernel_rfl) (fun _ _ _ _ h => h) [5, 13] (by kernel_rfl) (hS.sub sb9)
    case hfr => intro w hS; go_wp2_with (first | (refine wpl rfl (wp_load1A hS 3 _ rfl _ _ rfl (one_of rfl) _ _ pl9 (by omega) ?_); refine wpl_put (by (simp only [Act.put, List.setIfInBounds_toArray, List.set_cons_zero, List.set_cons_succ]); exact rfl) ?_) | (refine wpl rfl (wp_load1 hS 3 _ rfl _ _ rfl (one_of rfl) _ pl9 _ (by rfl) ?_); refine wpl_put (by (simp only [Act.put, List.setIfInBounds_toArray, List.set_cons_zero, List.set_cons_succ]); exact rfl) ?_) | (refine wpl rfl (wp_load1O hS 3 _ rfl _ _ rfl (one_of rfl) _ _ _ _ _ pl9 _ (by with_reducible assumption) ?_); refine wpl_put (by (simp only [Act.put, List.setIfInBounds_toArray, List.set_cons_zero, List.set_cons_succ]); exact rfl) ?_) | (refine wpl rfl (wp_loadW hS 3 _ rfl _ rfl (one_of rfl) _ (by with_reducible assumption) ?_); refine wpl_put (by (simp only [Act.put, List.setIfInBounds_toArray, List.set_cons_zero, List.set_cons_succ]); exact rfl) ?_)); exact ⟨rfl, rfl⟩
    case hd => rfl
    apply takeP 5 al9 (by kernel_rfl) (by kernel_rfl) (by kernel_rfl) (fun _ _ _ _ h => h)
    case hfr => intro w; go_wp2_with fail; exact ⟨rfl, rfl⟩
    case hd => rfl
    apply takeP 6 al9 (by kernel_rfl) (by kernel_rfl) (by kernel_rfl) (fun _ _ _ _ h => h)
    case hfr => intro w; go_wp2_with fail; exact ⟨rfl, rfl⟩
    case hd => rfl
    apply takeP 7 al9 (by kernel_rfl) (by kernel_rfl) (by kernel_rfl) (fun _ _ _ _ h => h)
    case hfr => intro w; go_wp2_with fail; exact ⟨rfl, rfl⟩
    case hd => rfl
    apply takeP 8 al9 (by kernel_rfl) (by kernel_rfl) (by kernel_rfl) (fun _ _ _ _ h => h)
    case hfr => intro w; go_wp2_with fail; exact ⟨rfl, rfl⟩
    case hd => rfl
    apply takeS 9 al9 (by kernel_rfl) (by kernel_rfl) (by kernel_rfl) (fun _ _ _ _ h => h) [10, 11, 12, 13] (by kernel_rfl) (hS.sub sb9)
    case hfr => intro w hS; go_wp2_with (first | (refine wpl rfl (wp_load1A hS 3 _ rfl _ _ rfl (one_of rfl) _ _ pl9 (by omega) ?_); refine wpl_put (by (simp only [Act.put, List.setIfInBounds_toArray, List.set_cons_zero, List.set_cons_succ]); exact rfl) ?_) | (refine wpl rfl (wp_load1 hS 3 _ rfl _ _ rfl (one_of rfl) _ pl9 _ (by rfl) ?_); refine wpl_put (by (simp only [Act.put, List.setIfInBounds_toArray, List.set_cons_zero, List.set_cons_succ]); exact rfl) ?_) | (refine wpl rfl (wp_load1O hS 3 _ rfl _ _ rfl (one_of rfl) _ _ _ _ _ pl9 _ (by with_reducible assumption) ?_); refine wpl_put (by (simp only [Act.put, List.setIfInBounds_toArray, List.set_cons_zero, List.set_cons_succ]); exact rfl) ?_) | (refine wpl rfl (wp_loadW hS 3 _ rfl _ rfl (one_of rfl) _ (by with_reducible assumption) ?_); refine wpl_put (by (simp only [Act.put, List.setIfInBounds_toArray, List.set_cons_zero, List.set_cons_succ]); exact rfl) ?_)); exact ⟨rfl, rfl⟩
    case hd => rfl
    apply takeP 10 al9 (by kernel_rfl) (by kernel_rfl) (by kernel_rfl) (fun _ _ _ _ h => h)
    case hfr => intro w; go_wp2_with fail; exact ⟨rfl, rfl⟩
    case hd => rfl
    apply takeP 11 al9 (by kernel_rfl) (by kernel_rfl) (by kernel_rfl) (fun _ _ _ _ h => h)
    case hfr => intro w; go_wp2_with fail; exact ⟨rfl, rfl⟩
    case hd => rfl
    apply takeP 12 al9 (by kernel_rfl) (by kernel_rfl) (by kernel_rfl) (fun _ _ _ _ h => h)
    case hfr => intro w; go_wp2_with fail; exact ⟨rfl, rfl⟩
    case hd => rfl
    refine branch1 13 al9 rfl (by kernel_rfl) ?_
    rw [HW.out]; refine wp_callF (f := 41) rfl Tryd.call41 (put_any W _ _ _ g bs k (2 ^ k - 1) (HC.out _ hS) Pull.head (by omega) HV.out (by omega)) ?_; clear hS; rintro e w ⟨rfl, hS⟩; refine ⟨_, rfl, ?_⟩
    refine ⟨fun h => absurd (by decide) h, ?_⟩
    refine drawn_put (by (simp only [Act.put, List.setIfInBounds_toArray, List.set_cons_zero, List.set_cons_succ]); exact rfl) ?_
    refine drawn_done (by kernel_rfl) ?_ _
    obtain ⟨⟨ad2, c2⟩, hS⟩ := hS.open
    rw [HP.out] at hS
    have HL := hid (show (bs ++ padding bs).length / 8 = (bs.length + 7) / 8 by rw [padding_len]; omega)
    simp only [List.cons_append, List.nil_append, HL.out] at hS
    go_wp2_with (first
      | ((with_reducible apply gt9 _ (.load 3 _)); first | (refine wpl rfl (wp_load1A hS 3 _ rfl _ _ rfl (one_of rfl) _ _ pl9 (by omega) ?_); refine wpl_put (by (simp only [Act.put, List.setIfInBounds_toArray, List.set_cons_zero, List.set_cons_succ]); exact rfl) ?_) | (refine wpl rfl (wp_load1 hS 3 _ rfl _ _ rfl (one_of rfl) _ pl9 _ (by rfl) ?_); refine wpl_put (by (simp only [Act.put, List.setIfInBounds_toArray, List.set_cons_zero, List.set_cons_succ]); exact rfl) ?_) | (refine wpl rfl (wp_load1O hS 3 _ rfl _ _ rfl (one_of rfl) _ _ _ _ _ pl9 _ (by with_reducible assumption) ?_); refine wpl_put (by (simp only [Act.put, List.setIfInBounds_toArray, List.set_cons_zero, List.set_cons_succ]); exact rfl) ?_) | (refine wpl rfl (wp_loadW hS 3 _ rfl _ rfl (one_of rfl) _ (by with_reducible assumption) ?_); refine wpl_put (by (simp only [Act.put, List.setIfInBounds_toArray, List.set_cons_zero, List.set_cons_succ]); exact rfl) ?_)) | ((with_reducible apply gt9 _ (.load 34 _)); first | (refine wpl rfl (wp_load1 hS 34 _ rfl _ _ rfl (one_of rfl) _ pl9 _ (by rfl) ?_); refine wpl_put (by (simp only [Act.put, List.setIfInBounds_toArray, List.set_cons_zero, List.set_cons_succ]); exact rfl) ?_) | (refine wpl rfl (wp_load1O hS 34 _ rfl _ _ rfl (one_of rfl) _ _ _ _ _ pl9 _ (by with_reducible assumption) ?_); refine wpl_put (by (simp only [Act.put, List.setIfInBounds_toArray, List.set_cons_zero, List.set_cons_succ]); exact rfl) ?_) | (refine wpl rfl (wp_loadW hS 34 _ rfl _ rfl (one_of rfl) _ (by with_reducible assumption) ?_); refine wpl_put (by (simp only [Act.put, List.setIfInBounds_toArray, List.set_cons_zero, List.set_cons_succ]); exact rfl) ?_))
                                                            | (first | refine stop_load ?_ | refine stop_store ?_ | refine stop_alloc ?_ | refine stop_box ?_))
    go_ret
    refine ⟨ad2, c2, rfl, ?_⟩
    unfold bytesOf
    exact hS.sub sb9
theorem wr_new {W w : World} {g : Nat} {rs : List Res} (h : St W w (blk g [.slice none 0 0, .int .u64 0, .int .i64 0] :: rs)) : St W w (wr g [] :: rs) :=
  St.close (none, 0) ((h.nil 5 1).pull (.tail .head))
end Go.Proofs.YtehbjhocgnfpmaaDoor

/- The walks of table.Encode and table.Decode. -/
namespace Go.Proofs.YtehbjhocgnfpmaaDoor
set_option maxRecDepth 100000
open Go.RowKit
set_option linter.unusedVariables false
theorem wb_len {L : List (Int × Nat × Nat)} (h : Good L) (s : Int) : (wb L s).length ≤ 16 := by
  unfold wb
  cases hs : symW L s with
  | none => simp
  | some y =>
    have := h.long _ (symW_mem hs)
    dsimp only at this ⊢
    rw [bitsOf_len]; omega
end Go.Proofs.YtehbjhocgnfpmaaDoor

/- copy into a row that the call owns. -/
namespace Go.Proofs.YtehbjhocgnfpmaaDoor
open Go.RowKit
set_option linter.unusedVariables false
section
variable {P : Program} {W w : World} {rs rs' : List Res} {Q : Exit → Act → World → Prop} {K : Act → World → Prop} {o : Oper} {a : Act}
theorem wp_copyO (hS : St W w rs) (d x : Operand) (tT : TypeId) (ho : o.op = .call { callee := .builtin .copy, args := #[d, x], argTypes := #[tT, tT] }) (e b : TypeId) (el : ElemT P tT e 1 b) (g q n c : Nat) (cs : List Value) (hd : a.eval d = .slice (cutAt (some ⟨g, 0, none⟩) c q 1) (n - q) (c - q)) (hp : Pull (own e 1 (some ⟨g, 0, none⟩) n c cs) rs rs')
    (v : Value) (hx : a.eval x = v) (m : Nat) (news : List Value) (hm : Sl w 1 v m news) (hq : q + m ≤ n) (h1 : ∀ u ∈ news, u.oneCell' = true)
    (h : ∀ w', St W w' (own e 1 (some ⟨g, 0, none⟩) n c (cs.take q ++ news ++ cs.drop (q + m)) :: rs') → K (a.put o.dst (.int .i64 m)) w') : o.wp P a w K Q := by
  obtain ⟨ht, ⟨i, z, hi, hz, hsz, hby, hzs⟩, hpos⟩ := el
  have hs1 : (P.info? e).map (·.size) = some 1 := by rw [hi]; simp [hsz]
  have hown := hS.own hp
  obtain ⟨hl, aa, cc, rfl, hmc, hcm, hor⟩ := hm
  have hlm : news.length = m := by simpa using hl
  by_cases hm0 : m = 0
  · subst hm0
    have hnil : news = [] := List.eq_nil_of_length_eq_zero hlm
    subst hnil
    have hr := run_copy_none (P := P) w tT tT o.type e (cutAt (some ⟨g, 0, none⟩) c q 1) aa (n - q) (c - q) 0 cc ht hs1 (Nat.zero_min _)
    have hk := h w (by
      have e1 : cs.take q ++ [] ++ cs.drop (q + 0) = cs := by simp
      rw [e1]; exact hS.pull hp)
    unfold Oper.wp execOp
    simp only [ho, resolve, invoke, builtin, Sem.run_bind, Sem.run_pure, Result.andThen_ok, List.map_toArray, List.map_cons, List.map_nil, hd, hx, hr]
    exact hk
  · rcases hor with h0 | ⟨bb, off, rfl, hcells⟩
    · exact absurd h0 hm0
    · rcases hown.2 with ⟨h2, _⟩ | ⟨g', cap, cur, h2, _, hg, hnc, hcm2, hcs, htake⟩
      · cases h2
      · cases h2
        have hcq : ¬ (c = q) := by omega
        have hd2 : a.eval d = .slice (some ⟨g, q, none⟩) (n - q) (c - q) := by
          rw [hd, cutAt, if_neg hcq]
          simp only [Option.map_some, Addr.add_mid, Nat.zero_add, Nat.mul_one]
        have hsrc : ∀ j u, news[j]? = some u → w.cell? ((⟨bb, off, none⟩ : Addr).add j) = some u := fun j u hu => by
          have hj : j < m * 1 := by rw [← hl]; exact (List.getElem?_eq_some_iff.1 hu).1
          rw [Addr.add_mid, hcells j hj, hu]
        have hr := run_copy_row (P := P) w tT tT o.type e g q (n - q) (c - q) ⟨bb, off, none⟩ m cc cur e news ht hs1 hg (by rw [hlm]; exact (Nat.min_eq_left (by omega)).symm) hsrc (by rw [hlm, hcs]; omega) h1
        have hxl : cs.length = n := by have := hown.1; simpa using this
        have htl : cur.toList.take n = cs := by have := htake; rwa [Nat.mul_one] at this
        have hcl : cur.toList.length = c := by rw [Array.length_toList, hcs, Nat.mul_one]
        have hnew : (cur.toList.take q ++ news ++ cur.toList.drop (q + m)).take n = cs.take q ++ news ++ cs.drop (q + m) := by
          have a1 : cur.toList.take q = cs.take q := by rw [← htl, List.take_take, Nat.min_eq_left (by omega)]
          have a2 : (cur.toList.drop (q + m)).take (n - (q + m)) = cs.drop (q + m) := by rw [← htl, List.drop_take]
          have a3 : (cur.toList.take q ++ news).length = q + m := by rw [List.length_append, hlm, List.length_take, hcl]; omega
          rw [List.take_append, List.take_of_length_le (by omega), a3, a2, a1]
        have hst : St W (w.setRow g (cur.toList.take q ++ news ++ cur.toList.drop (q + news.length)).toArray) ([own e 1 (some ⟨g, 0, none⟩) n c (cs.take q ++ news ++ cs.drop (q + m))] ++ rs') := by
          refine St.change (hS.pull hp) fun f1 k1 hf1 hn1 => ?_
          obtain ⟨rfl, k1⟩ := k1
          refine ⟨[g], ⟨[g], [], by simp, ⟨rfl, ?_, .inr ⟨g, c, _, rfl, Nat.zero_le _, setRow_heap w g cur _ e _ hg, hnc, hcm2, ?_, ?_⟩⟩, rfl⟩, by simp, fun b hb => .inl hb, Only.setRow w g _⟩
          · simp only [List.length_append, List.length_take, List.length_drop, hlm, hxl]; omega
          · simp only [List.size_toArray, List.length_append, List.length_take, List.length_drop, hlm, hcl]; omega
          · rw [hlm, Nat.mul_one]; simpa using hnew
        have hk := h _ hst
        unfold Oper.wp execOp
        simp only [ho, resolve, invoke, builtin, Sem.run_bind, Sem.run_pure, Result.andThen_ok, List.map_toArray, List.map_cons, List.map_nil, hd2, hx, hr, hlm]
        rw [hlm] at hk
        exact hk
end
end Go.Proofs.YtehbjhocgnfpmaaDoor

/- The walk of bytes.Replace, every piece replaced. -/
namespace Go.Proofs.YtehbjhocgnfpmaaDoor
open Go.RowKit
set_option linter.unusedVariables false
/-- A fact that nothing looks into. -/
structure Veil3 (p : Prop) : Prop where
  out : p
/-- The first k pieces, each with what stands behind it. -/
def pre (sep : List Int) (ps : List (List Int)) (k : Nat) : List Int := (ps.take k).flatMap (· ++ sep)
theorem pre_succ (sep : List Int) (ps : List (List Int)) (k : Nat) (h : k < ps.length) : pre sep ps (k + 1) = pre sep ps k ++ (ps[k] ++ sep) := by
  simp only [pre, List.take_succ_eq_append_getElem h, List.flatMap_append, List.flatMap_cons, List.flatMap_nil, List.append_nil]
theorem pre_le (sep : List Int) (ps : List (List Int)) (j k : Nat) (h : j ≤ k) : (pre sep ps j).length ≤ (pre sep ps k).length := by
  have e : ps.take k = ps.take j ++ (ps.take k).drop j := by
    conv => lhs; rw [← List.take_append_drop j (ps.take k)]
    rw [List.take_take, Nat.min_eq_left h]
  simp only [pre]
  rw [e, List.flatMap_append, List.length_append]
  omega
theorem pre_len (old new : List Int) (ps : List (List Int)) : ∀ k, k ≤ ps.length → (pre new ps k).length + k * old.length = (pre old ps k).length + k * new.length
  | 0, _ => by simp [pre]
  | k + 1, h => by
    rw [pre_succ new ps k (by omega), pre_succ old ps k (by omega)]
    simp only [List.length_append]
    have := pre_len old new ps k (by omega)
    rw [Nat.add_mul, Nat.add_mul]
    omega
theorem pre_split (sep : List Int) (ps : List (List Int)) (k m : Nat) (hm : ps.length = m) (h : k < ps.length) : ∃ T, pre sep ps m = pre sep ps k ++ (ps[k] ++ (sep ++ T)) := by
  refine ⟨(ps.drop (k + 1)).flatMap (· ++ sep), ?_⟩
  have e : ps = ps.take k ++ (ps[k] :: ps.drop (k + 1)) := by rw [List.getElem_cons_drop, List.take_append_drop]
  unfold pre
  rw [← hm, List.take_length]
  conv => lhs; rw [e]
  rw [List.flatMap_append, List.flatMap_cons, List.append_assoc]
theorem seg_fill (X p : List Int) (L B z : Nat) (hX : X.length = B) (hp : p.length = z) (h : B + z ≤ L) : ((X ++ List.replicate (L - B) 0).map (Value.int .u8)).take B ++ p.map (Value.int .u8) ++ ((X ++ List.replicate (L - B) 0).map (Value.int .u8)).drop (B + z) = ((X ++ p) ++ List.replicate (L - (B + z)) 0).map (Value.int .u8) := by
  subst hX
  subst hp
  rw [← List.map_take, ← List.map_drop, ← List.map_append, ← List.map_append, List.take_left' rfl, ← List.drop_drop, List.drop_left' rfl, List.drop_replicate, Nat.sub_sub]
theorem cutAt_zeroR (g c : Nat) : cutAt (some ⟨g, 0, none⟩) c 0 1 = some ⟨g, 0, none⟩ := by
  unfold cutAt
  split
  · rfl
  · rw [Option.map_some, Addr.add_mid]
set_option maxRecDepth 100000 in
set_option maxHeartbeats 8000000 in
theorem replace_any (w0 : World) (a po pn : Option Addr) (n c lo co ln cn m : Nat) (ps : List (List Int)) (last old new : List Int) (hm : ps.length = m)
    (hs : Sl w0 1 (.slice a n c) n ((pre old ps m ++ last).map (Value.int .u8))) (ho : Sl w0 1 (.slice po lo co) lo (old.map (Value.int .u8))) (hw : Sl w0 1 (.slice pn ln cn) ln (new.map (Value.int .u8)))
    (hlo : 0 < lo) (hb1 : n ≤ 1000000000) (hb2 : lo ≤ 1000) (hb3 : ln ≤ 1000)
    (HC : Veil3 (∀ w, Ext w0 w → Calls Tryd.prog 79 #[.slice a n c, .slice po lo co] w fun e w' => e = .returned (.int .i64 m) ∧ Ext w w'))
    (HI : Veil3 (∀ k (h : k < ps.length) w, Ext w0 w → Calls Tryd.prog 80 #[.slice (cutAt a c (pre old ps k).length 1) (n - (pre old ps k).length) (c - (pre old ps k).length), .slice po lo co] w fun e w' => e = .returned (.int .i64 (ps[k].length : Nat)) ∧ Ext w w')) :
    Calls Tryd.prog 60 #[.slice a n c, .slice po lo co, .slice pn ln cn, .int .i64 (-1)] w0 fun e w => ∃ (ao : Option Addr) (c' : Nat), e = .returned (.slice ao (pre new ps m ++ last).length c') ∧ St w0 w [own 5 1 ao (pre new ps m ++ last).length c' ((pre new ps m ++ last).map (Value.int .u8))] := by
  have hS := St.start w0
  have hxl : (pre old ps m ++ last).length = n := by have := hs.1; simpa using this
  have hol : old.length = lo := by have := ho.1; simpa using this
  have hnl : new.length = ln := by have := hw.1; simpa using this
  have hnc : n ≤ c := by obtain ⟨_, _, _, h1, h2, _⟩ := hs; cases h1; exact h2
  have hc9 : c ≤ 9223372036854775807 := by obtain ⟨_, _, _, h1, _, h2, _⟩ := hs; cases h1; unfold maxLen at h2; exact h2
  have hpl := pre_len old new ps m (by omega)
  rw [hol, hnl] at hpl
  rw [List.length_append] at hxl
  obtain ⟨L, hL⟩ : ∃ L, (pre new ps m ++ last).length = L := ⟨_, rfl⟩
  have hL2 := hL
  rw [List.length_append] at hL2
  have hmlo : m ≤ m * lo := Nat.le_mul_of_pos_right m hlo
  have hmn : m ≤ n := by
    have : m * lo ≤ (pre old ps m).length := by
      have h0 := pre_len old [] ps m (by omega)
      rw [hol] at h0
      simp only [List.length_nil, Nat.mul_zero, Nat.add_zero] at h0
      omega
    omega
  by_cases h0 : m = 0
  · subst h0
    have e0 : pre old ps 0 ++ last = pre new ps 0 ++ last := by simp [pre]
    rw [e0] at hs
    obtain ⟨R, hR⟩ : ∃ R, pre new ps 0 ++ last = R := ⟨_, rfl⟩
    rw [hR] at hL hs ⊢
    rw [hL]
    have hLn : L = n := by have := hs.1; rw [← hL]; simpa using this
    subst hLn
    clear hpl hL2 HI hmlo hxl e0
    go_enter Tryd.func60, Tryd.ntmps60
    repeat' (first
      | ((with_reducible apply gt9 _ (.call ⟨.value (.func 79), _, _⟩)); refine wpl_call (f := 79) Tryd.call79 (by kernel_rfl) ?_; refine ⟨_, (HC.out _ hS.1), ?_⟩; rintro e w ⟨rfl, hE2⟩; replace hS := hS.ext hE2; clear hE2; refine ⟨_, rfl, ?_⟩; refine put_move ?_; go_step) | ((with_reducible apply gt9 _ (.move _)); (first | go_big_want | go_step); go_step) | ((with_reducible apply gt9 _ (.assign _)); (first | go_big_want | go_step); go_step) | ((with_reducible apply gt9 _ (.binOp .neq 3 _ _ _)); (refine wvv9 (V.neq rfl rfl) ?_; go_step)) | ((with_reducible apply gt9 _ (.binOp .eql 3 _ _ _)); (refine wvv9 (V.eql rfl rfl) ?_; go_step)) | ((with_reducible apply gt9 (some 25) (.call ⟨.builtin .append, _, _⟩)); (refine wpl (by kernel_rfl) ?_; apply wp_append (o := ⟨some 25, _, _, _, _, _⟩) (hS.nilk 5 1 .u8) _ _ 34 rfl 5 1 1 el34 _ _ _ _ rfl; (case hp => exact pl9); (case hx => exact rfl); (case hm => (first | exact hS.slBlk pl9 (by rfl) (by decide) | exact hS.sl pl9 | with_reducible assumption | exact Sl.ext (by with_reducible assumption) hS.1 | exact Sl.nil _ _ | exact Sl.ext (by assumption) hS.1 | assumption)); (case h1 => (first | exact oneAll rfl | exact oneMap _ _ | (intro u hu; cases hu))); (case h63 => unfold maxLen; omega); (case hb => omega); clear hS; intro ad25 c25 w hS; (first | simp only [mapk1] at hS | simp only [mapk2] at hS | simp only [mapk3] at hS | simp only [mapk4] at hS | simp only [mapkl] at hS | skip); refine put_move ?_; go_step)) | ((fail_if_success with_reducible apply ga9); go_step))
    rw [Nat.zero_add, List.nil_append] at hS
    go_ret
    refine ⟨ad25, c25, ?_, hS.sub sb9⟩
    show Ending.returned (.slice ad25 (0 + L) c25) = _
    rw [Nat.zero_add]
  have hLb : L ≤ 2000000000000 := by
    have : m * ln ≤ 1000000000 * 1000 := Nat.mul_le_mul (by omega) hb3
    omega
  have hLe : (L : Int) = (n : Int) + (m : Int) * ((ln : Int) - (lo : Int)) := by
    have h1 : ((m : Int) * ((ln : Int) - (lo : Int))) = ((m * ln : Nat) : Int) - ((m * lo : Nat) : Int) := by push_cast; rw [Int.mul_sub]
    rw [h1]; omega
  have hmul : IntKind.i64.wrap ((m : Int) * ((ln : Int) - (lo : Int))) = (L : Int) - (n : Int) := by
    rw [show (m : Int) * ((ln : Int) - (lo : Int)) = (L : Int) - (n : Int) by omega]
    exact IntWalk.i64_in _ (by omega)
  have HMul := hid hmul
  have HXs : ∀ k, k ≤ m → (pre old ps k).length ≤ n := fun k hk => by have := pre_le old ps k m hk; omega
  have HWs : ∀ k, k ≤ m → (pre new ps k).length ≤ L := fun k hk => by have := pre_le new ps k m hk; omega
  have HXs2 : Veil3 _ := ⟨HXs⟩
  have HWs2 : Veil3 _ := ⟨HWs⟩
  have HL : Veil3 ((pre new ps m ++ last).length = L) := ⟨hL⟩
  obtain ⟨R, hR⟩ : ∃ R, pre new ps m ++ last = R := ⟨_, rfl⟩
  have HR : Veil3 (pre new ps m ++ last = R) := ⟨hR⟩
  rw [hR] at hL ⊢
  rw [hL]
  have HXL : Veil3 ((pre old ps m).length + last.length = n) := ⟨hxl⟩
  have HWL : Veil3 ((pre new ps m).length + last.length = L) := ⟨hL2⟩
  have HM : Veil3 (ps.length = m) := ⟨hm⟩
  have HPL : Veil3 _ := ⟨hpl⟩
  clear hpl hxl hL2 hmlo hLe hmul HXs HWs hR hm
  go_enter Tryd.func60, Tryd.ntmps60
  repeat' (first
    | ((with_reducible apply gt9 _ (.call ⟨.value (.func 79), _, _⟩)); refine wpl_call (f := 79) Tryd.call79 (by kernel_rfl) ?_; refine ⟨_, (HC.out _ hS.1), ?_⟩; rintro e w ⟨rfl, hE2⟩; replace hS := hS.ext hE2; clear hE2; refine ⟨_, rfl, ?_⟩; refine put_move ?_; go_step) | ((with_reducible apply gt9 (some 42) _); refine wplV (.int .i64 ((L : Int) - (n : Int))) (V.as (V.mul rfl rfl) (by have := HMul.out; first | exact this | (rw [IntWalk.i64_in _ (by omega)]; exact this))) (by kernel_rfl) ?_; go_step) | ((with_reducible apply gt9 (some 43) (.binOp .add _ _ _ _)); (refine wplV (.int _ (((L : Nat) : Int))) (V.as (V.addI rfl rfl (by omega)) (by omega)) rfl ?_; go_step)) | go_skip | ((with_reducible apply gt9 _ (.move _)); (first | go_big_want | go_step); go_step) | ((with_reducible apply gt9 _ (.assign _)); (first | go_big_want | go_step); go_step) | ((with_reducible apply gt9 _ (.pick _ _ _)); (refine wplPickT rfl (by kernel_rfl) ?_; go_step)) | ((with_reducible apply gt9 (some 27) (.binOp .lss _ _ _ _)); (refine wplD _ (V.lss rfl rfl) (by kernel_rfl) (fun hB => ?_) (fun hB => ?_) <;> (try (have hF : False := (by omega); cases hF)) <;> go_step)) | ((with_reducible apply gt9 _ (.binOp .neq 3 _ _ _)); (refine wvv9 (V.neq rfl rfl) ?_; go_step)) | ((with_reducible apply gt9 _ (.binOp .eql 3 _ _ _)); (refine wvv9 (V.eql rfl rfl) ?_; go_step)) | ((with_reducible apply gt9 _ (.call ⟨.builtin .len, _, _⟩)); (refine wvv9 (V.len Tryd.underlying34 rfl) ?_; go_step)) | ((with_reducible apply gt9 _ (.binOp .sub _ _ _ _)); (refine wvv9 (V.subI rfl rfl (by omega)) ?_; go_step)) | ((with_reducible apply gt9 _ (.binOp .gtr _ _ _ _)); (refine wvv9 (V.gtr rfl rfl) ?_; go_step)) | ((with_reducible apply gt9 (some 44) (.makeSlice 34 _ _)); (refine wpl (by kernel_rfl) ?_; apply wp_make (o := ⟨some 44, _, _, _, _, _⟩) hS 34 _ _ rfl _ _ _ _ elz34 _ _ _ _ _ _ rfl rfl; (case hi => exact isn9); (case hj => exact isn9); (case hnm => omega); (case hb => omega); (case h63 => unfold maxLen; omega); clear hS; intro g44 w hS; refine put_move ?_; go_step)) | ((fail_if_success with_reducible apply ga9); go_step))
  go_loopg [11, 12, 49] m (fun gk wv sv iv w => ∃ k : Nat, gk + k = m ∧ iv = .int .i64 k ∧ sv = .int .i64 ((pre old ps k).length : Nat) ∧ wv = .int .i64 ((pre new ps k).length : Nat) ∧ St w0 w [own 5 1 (some ⟨g44, 0, none⟩) L L ((pre new ps k ++ List.replicate (L - (pre new ps k).length) 0).map (Value.int .u8))])
  case atStart =>
    refine ⟨0, rfl, rfl, rfl, rfl, ?_⟩
    rw [Nat.mul_one] at hS
    have e : pre new ps 0 = [] := rfl
    rw [e, List.nil_append, List.length_nil, Nat.sub_zero]
    exact hS.sub sb9
  case round =>
    clear hS
    obtain ⟨k, hk, rfl, rfl, rfl, hS⟩ := hrel
    by_cases hlt : k < m
    · have hkp : k < ps.length := by rw [HM.out]; exact hlt
      have hIk := HI.out k hkp
      have e1 := pre_succ old ps k hkp
      have e2 := pre_succ new ps k hkp
      have l1 := HXs2.out (k + 1) hlt
      have l2 := HWs2.out (k + 1) hlt
      obtain ⟨p, hp⟩ : ∃ p, ps[k] = p := ⟨_, rfl⟩
      rw [hp] at hIk e1 e2
      rw [e1] at l1
      rw [e2] at l2
      obtain ⟨T, hT⟩ := pre_split old ps k m HM.out hkp
      rw [hp] at hT
      have hxs : pre old ps m ++ last = pre old ps k ++ (p ++ (old ++ T ++ last)) := by rw [hT]; simp only [List.append_assoc]
      obtain ⟨A, hA⟩ : ∃ A, (pre old ps k).length = A := ⟨_, rfl⟩
      obtain ⟨X, hX⟩ : ∃ X, pre new ps k = X := ⟨_, rfl⟩
      rw [hX] at e2 l2 hS ⊢
      obtain ⟨B, hB⟩ : ∃ B, X.length = B := ⟨_, rfl⟩
      obtain ⟨z, hz⟩ : ∃ z, p.length = z := ⟨_, rfl⟩
      simp only [List.length_append, hA, hB, hz, hol, hnl] at l1 l2
      rw [hA, hz] at hIk
      rw [hA]
      rw [hB] at hS ⊢
      have hsp : ∀ w, Ext w0 w → Sl w 1 (.slice (cutAt a c A 1) (A + z - A) (c - A)) (A + z - A) (p.map (Value.int .u8)) := fun w hx => by
        have h1 := (hs.ext hx).cutAt A (A + z) (by omega) (by omega)
        have h2 : (((pre old ps m ++ last).map (Value.int .u8)).drop (A * 1)).take ((A + z - A) * 1) = p.map (Value.int .u8) := by
          rw [Nat.mul_one, Nat.mul_one, ← List.map_drop, ← List.map_take, hxs, List.drop_left' hA, Nat.add_sub_cancel_left, List.take_left' hz]
        rw [h2] at h1
        exact h1
      have HIK : Veil3 _ := ⟨hIk⟩
      have HSP : Veil3 _ := ⟨hsp⟩
      have F1 := hid (seg_fill X p L B z hB hz (by omega))
      have F2 := hid (seg_fill (X ++ p) new L (B + z) ln (by rw [List.length_append, hB, hz]) hnl (by omega))
      have N1 : Veil3 ((pre old ps (k + 1)).length = A + z + lo) := ⟨by rw [e1]; simp only [List.length_append, hA, hz, hol]; omega⟩
      have N2 : Veil3 (pre new ps (k + 1) = X ++ p ++ new) := ⟨by rw [e2, List.append_assoc]⟩
      have N3 : Veil3 ((X ++ p ++ new).length = B + z + ln) := ⟨by simp only [List.length_append, hB, hz, hnl]⟩
      clear hIk hsp e1 e2 hp hxs hT hA hX hB hz hkp
      repeat' (first
        | ((with_reducible apply gt9 _ (.call ⟨.value (.func 80), _, _⟩)); refine wpl_call (f := 80) Tryd.call80 (by kernel_rfl) ?_; refine ⟨_, (HIK.out _ hS.1), ?_⟩; rintro e w ⟨rfl, hE2⟩; replace hS := hS.ext hE2; clear hE2; refine ⟨_, rfl, ?_⟩; refine put_move ?_; go_step) | ((with_reducible apply gt9 (some 57) (.binOp .add _ _ _ _)); (refine wplV (.int _ (((A + z : Nat) : Int))) (V.as (V.addI rfl rfl (by omega)) (by omega)) rfl ?_; go_step)) | ((with_reducible apply gt9 _ (.move _)); (first | go_big_want | go_step); go_step) | ((with_reducible apply gt9 _ (.assign _)); (first | go_big_want | go_step); go_step) | ((with_reducible apply gt9 _ (.binOp .lss _ _ _ _)); (refine wvv9 (V.lss rfl rfl) ?_; go_step)) | ((with_reducible apply gt9 _ (.slice 34 _ _ _ _)); (refine wvv9 (V.slice Tryd.underlying34 isz5 rfl (by (first | exact Lo.none | exact Lo.some rfl isn9)) (by (first | exact Up.none | exact Up.some rfl isn9)) (by omega) (by omega)) ?_; go_step)) | ((fail_if_success with_reducible apply ga9); go_step))
      refine drawn_lit [] (fun _ => True) (by kernel_rfl) ?_
      replace hS := hS.drew
      focus
        refine takeM 0 _ al9 (by kernel_rfl) (by kernel_rfl) (by kernel_rfl) (by exact fun _ _ _ _ h => h) rfl ?_
        go_step
        refine takeM 1 _ al9 (by kernel_rfl) (by kernel_rfl) (by kernel_rfl) (by exact fun _ _ _ _ h => h) rfl ?_
        go_step
        refine takeM 2 _ al9 (by kernel_rfl) (by kernel_rfl) (by kernel_rfl) (by exact fun _ _ _ _ h => h) rfl ?_
        go_step
        (refine takeV 3 _ al9 (by kernel_rfl) (by kernel_rfl) (by kernel_rfl) (by exact fun _ _ _ _ h => h) (V.slice Tryd.underlying34 isz5 rfl (by (first | exact Lo.none | exact Lo.some rfl isn9)) (by (first | exact Up.none | exact Up.some rfl isn9)) (by omega) (by omega)) rfl ?_)
        go_step
        refine takeM 4 _ al9 (by kernel_rfl) (by kernel_rfl) (by kernel_rfl) (by exact fun _ _ _ _ h => h) rfl ?_
        go_step
        refine takeM 5 _ al9 (by kernel_rfl) (by kernel_rfl) (by kernel_rfl) (by exact fun _ _ _ _ h => h) rfl ?_
        go_step
        refine takeM 6 _ al9 (by kernel_rfl) (by kernel_rfl) (by kernel_rfl) (by exact fun _ _ _ _ h => h) rfl ?_
        go_step
        (refine takeV 7 _ al9 (by kernel_rfl) (by kernel_rfl) (by kernel_rfl) (by exact fun _ _ _ _ h => h) (V.slice Tryd.underlying34 isz5 rfl (by (first | exact Lo.none | exact Lo.some rfl isn9)) (by (first | exact Up.none | exact Up.some rfl isn9)) (by omega) (by omega)) rfl ?_)
        go_step
        refine branch1 8 al9 rfl (by kernel_rfl) ?_
        refine wp_copyO (o := ⟨some 66, _, _, _, _, _⟩) hS _ _ 34 rfl 5 1 el34 g44 B L L _ rfl pl9 _ rfl (A + z - A) _ (HSP.out _ hS.1) (by omega) (by exact oneMap _ _) ?_; clear hS; intro w hS; rw [Nat.add_sub_cancel_left, F1.out] at hS
        refine ⟨fun _ h => h, ?_⟩
        refine drawn_move ?_
        go_step
        (refine takeV 9 (.int _ (((B + z : Nat) : Int))) al9 (by kernel_rfl) (by kernel_rfl) (by kernel_rfl) (by exact fun _ _ _ _ h => h) (V.as (V.addI rfl rfl (by omega)) (by omega)) rfl ?_)
        go_step
        refine takeA 10 _ al9 (by kernel_rfl) (by kernel_rfl) (by kernel_rfl) (by exact fun _ _ _ _ h => h) rfl ?_
        go_step
        refine drawn_done (by kernel_rfl) ?_ _
      repeat' (first
        | ((with_reducible apply gt9 (some 73) _); refine wpl (by kernel_rfl) ?_; refine wp_copyO (o := ⟨some 73, _, _, _, _, _⟩) hS _ _ 34 rfl 5 1 el34 g44 (B + z) L L _ rfl pl9 _ rfl ln _ (hw.ext hS.1) (by omega) (by exact oneMap _ _) ?_; clear hS; intro w hS; rw [F2.out] at hS; refine put_move ?_; go_step) | ((with_reducible apply gt9 (some 74) (.binOp .add _ _ _ _)); (refine wplV (.int _ (((B + z + ln : Nat) : Int))) (V.as (V.addI rfl rfl (by omega)) (by omega)) rfl ?_; go_step)) | ((with_reducible apply gt9 (some 78) (.binOp .add _ _ _ _)); (refine wplV (.int _ (((A + z + lo : Nat) : Int))) (V.as (V.addI rfl rfl (by omega)) (by omega)) rfl ?_; go_step)) | ((with_reducible apply gt9 _ (.move _)); (first | go_big_want | go_step); go_step) | ((with_reducible apply gt9 _ (.assign _)); (first | go_big_want | go_step); go_step) | ((with_reducible apply gt9 _ (.slice 34 _ _ _ _)); (refine wvv9 (V.slice Tryd.underlying34 isz5 rfl (by (first | exact Lo.none | exact Lo.some rfl isn9)) (by (first | exact Up.none | exact Up.some rfl isn9)) (by omega) (by omega)) ?_; go_step)) | ((with_reducible apply gt9 _ (.binOp .add _ _ _ _)); (refine wvv9 (V.addI rfl rfl (by omega)) ?_; go_step)) | ((with_reducible apply gt9 _ (.call ⟨.builtin .len, _, _⟩)); (refine wvv9 (V.len Tryd.underlying34 rfl) ?_; go_step)) | ((fail_if_success with_reducible apply ga9); go_step))
      go_roundg (gk - 1)
      case measure => omega
      case rel =>
        refine ⟨k + 1, by omega, by go_num, by rw [N1.out], by rw [N2.out, N3.out], ?_⟩
        rw [N2.out, N3.out]
        exact hS.sub sb9
    · obtain rfl : k = m := by omega
      have hA0 := HXL.out
      have hB0 := HWL.out
      obtain ⟨A, hA⟩ : ∃ A, (pre old ps k).length = A := ⟨_, rfl⟩
      obtain ⟨B, hB⟩ : ∃ B, (pre new ps k).length = B := ⟨_, rfl⟩
      obtain ⟨z, hz⟩ : ∃ z, last.length = z := ⟨_, rfl⟩
      rw [hA, hz] at hA0
      rw [hB, hz] at hB0
      rw [hA]
      rw [hB] at hS ⊢
      have hsp : ∀ w, Ext w0 w → Sl w 1 (.slice (cutAt a c A 1) (n - A) (c - A)) (n - A) (last.map (Value.int .u8)) := fun w hx => by
        have h1 := (hs.ext hx).cutAt A n (by omega) (Nat.le_refl _)
        have h2 : (((pre old ps k ++ last).map (Value.int .u8)).drop (A * 1)).take ((n - A) * 1) = last.map (Value.int .u8) := by
          rw [Nat.mul_one, Nat.mul_one, ← List.map_drop, ← List.map_take, List.drop_left' hA, List.take_of_length_le (by omega)]
        rw [h2] at h1
        exact h1
      have HSP : Veil3 _ := ⟨hsp⟩
      have hnA : n - A = z := by omega
      have HnA : Veil3 (n - A = z) := ⟨hnA⟩
      have F1 := hid (seg_fill (pre new ps k) last L B z hB hz (by omega))
      have F3 : Veil3 (pre new ps k ++ last ++ List.replicate (L - (B + z)) 0 = R) := ⟨by rw [HR.out, show L - (B + z) = 0 by omega]; simp⟩
      clear hsp hA hB hz hnA
      repeat' (first
        | ((with_reducible apply gt9 _ (.binOp .lss _ _ _ _)); (refine wvv9 (V.lss rfl rfl) ?_; go_step)) | ((fail_if_success with_reducible apply ga9); go_step))
      refine drawn_lit [] (fun _ => True) (by kernel_rfl) ?_
      replace hS := hS.drew
      focus
        refine takeM 0 _ al9 (by kernel_rfl) (by kernel_rfl) (by kernel_rfl) (by exact fun _ _ _ _ h => h) rfl ?_
        go_step
        refine takeM 1 _ al9 (by kernel_rfl) (by kernel_rfl) (by kernel_rfl) (by exact fun _ _ _ _ h => h) rfl ?_
        go_step
        refine takeM 2 _ al9 (by kernel_rfl) (by kernel_rfl) (by kernel_rfl) (by exact fun _ _ _ _ h => h) rfl ?_
        go_step
        (refine takeV 3 _ al9 (by kernel_rfl) (by kernel_rfl) (by kernel_rfl) (by exact fun _ _ _ _ h => h) (V.slice Tryd.underlying34 isz5 rfl (by (first | exact Lo.none | exact Lo.some rfl isn9)) (by (first | exact Up.none | exact Up.some rfl isn9)) (by omega) (by omega)) rfl ?_)
        go_step
        refine takeM 4 _ al9 (by kernel_rfl) (by kernel_rfl) (by kernel_rfl) (by exact fun _ _ _ _ h => h) rfl ?_
        go_step
        refine takeM 5 _ al9 (by kernel_rfl) (by kernel_rfl) (by kernel_rfl) (by exact fun _ _ _ _ h => h) rfl ?_
        go_step
        (refine takeV 6 _ al9 (by kernel_rfl) (by kernel_rfl) (by kernel_rfl) (by exact fun _ _ _ _ h => h) (V.slice Tryd.underlying34 isz5 rfl (by (first | exact Lo.none | exact Lo.some rfl isn9)) (by (first | exact Up.none | exact Up.some rfl isn9)) (by omega) (by omega)) rfl ?_)
        go_step
        refine branch1 7 al9 rfl (by kernel_rfl) ?_
        refine wp_copyO (o := ⟨some 127, _, _, _, _, _⟩) hS _ _ 34 rfl 5 1 el34 g44 B L L _ rfl pl9 _ rfl (n - A) _ (HSP.out _ hS.1) (by omega) (by exact oneMap _ _) ?_; clear hS; intro w hS; rw [HnA.out, F1.out, F3.out] at hS
        refine ⟨fun _ h => h, ?_⟩
        refine drawn_move ?_
        go_step
        (refine takeV 8 (.int _ (((L : Nat) : Int))) al9 (by kernel_rfl) (by kernel_rfl) (by kernel_rfl) (by exact fun _ _ _ _ h => h) (V.as (V.addI rfl rfl (by omega)) (by omega)) rfl ?_)
        go_step
        refine takeA 9 _ al9 (by kernel_rfl) (by kernel_rfl) (by kernel_rfl) (by exact fun _ _ _ _ h => h) rfl ?_
        go_step
        refine drawn_done (by kernel_rfl) ?_ _
      repeat' (first
        | ((with_reducible apply gt9 _ (.move _)); (first | go_big_want | go_step); go_step) | ((with_reducible apply gt9 _ (.assign _)); (first | go_big_want | go_step); go_step) | ((with_reducible apply gt9 _ (.slice 34 _ _ _ _)); (refine wvv9 (V.slice Tryd.underlying34 isz5 rfl (by (first | exact Lo.none | exact Lo.some rfl isn9)) (by (first | exact Up.none | exact Up.some rfl isn9)) (by omega) (by omega)) ?_; go_step)) | ((fail_if_success with_reducible apply ga9); go_step))
      go_ret
      refine ⟨some ⟨g44, 0, none⟩, L, ?_, hS.sub sb9⟩
      show Ending.returned (.slice (cutAt (some ⟨g44, 0, none⟩) L 0 1) (L - 0) (L - 0)) = _
      rw [cutAt_zeroR]
      rfl
end Go.Proofs.YtehbjhocgnfpmaaDoor

/- stuff.Stuff: what it computes, and its walk. -/
namespace Go.Proofs.YtehbjhocgnfpmaaDoor
set_option maxRecDepth 100000
open Go.RowKit
set_option linter.unusedVariables false
/-- The pieces that stand ahead of each b, and what stands behind the last. -/
def sp1 (b : Int) : List Int → List (List Int) × List Int
  | [] => ([], [])
  | x :: l => if x = b then ([] :: (sp1 b l).1, (sp1 b l).2) else
    match (sp1 b l).1 with
    | [] => ([], x :: (sp1 b l).2)
    | p :: ps => ((x :: p) :: ps, (sp1 b l).2)
/-- Each b turned to other bytes. -/
def rep1 (b : Int) (new l : List Int) : List Int := l.flatMap fun x => if x = b then new else [x]
theorem pre_all (sep : List Int) (ps : List (List Int)) : pre sep ps ps.length = ps.flatMap (· ++ sep) := by simp [pre]
theorem sp1_spec (b : Int) (new : List Int) : ∀ l, (sp1 b l).1.flatMap (· ++ [b]) ++ (sp1 b l).2 = l ∧ (sp1 b l).1.flatMap (· ++ new) ++ (sp1 b l).2 = rep1 b new l ∧ (sp1 b l).1.length = l.count b ∧ (∀ p ∈ (sp1 b l).1, b ∉ p)
  | [] => by simp [sp1, rep1]
  | x :: l => by
    obtain ⟨h1, h2, h3, h4⟩ := sp1_spec b new l
    by_cases hx : x = b
    · subst hx
      refine ⟨?_, ?_, ?_, ?_⟩
      · simp only [sp1, if_true, List.flatMap_cons, List.nil_append, List.cons_append, h1]
      · simp only [sp1, if_true, List.flatMap_cons, List.nil_append, List.append_assoc, h2]; simp [rep1]
      · simp [sp1, h3]
      · intro p hp
        simp only [sp1, if_true, List.mem_cons] at hp
        rcases hp with rfl | hp
        · simp
        · exact h4 p hp
    · cases hs : (sp1 b l).1 with
      | nil =>
        rw [hs] at h1 h2 h3
        simp only [List.flatMap_nil, List.nil_append] at h1 h2
        refine ⟨?_, ?_, ?_, ?_⟩
        · simp [sp1, if_neg hx, hs, h1]
        · simp only [sp1, if_neg hx, hs, List.flatMap_nil, List.nil_append, h2]; simp [rep1, hx]
        · simp only [sp1, if_neg hx, hs, List.length_nil]; rw [List.count_cons_of_ne (by simpa using hx)]; simpa using h3
        · simp [sp1, if_neg hx, hs]
      | cons p ps =>
        rw [hs] at h1 h2 h3 h4
        refine ⟨?_, ?_, ?_, ?_⟩
        · simp only [sp1, if_neg hx, hs, List.flatMap_cons, List.cons_append] at h1 ⊢; rw [h1]
        · simp only [sp1, if_neg hx, hs, List.flatMap_cons, List.cons_append] at h2 ⊢; rw [h2]; simp [rep1, hx]
        · simp only [sp1, if_neg hx, hs, List.length_cons] at h3 ⊢; rw [List.count_cons_of_ne (by simpa using hx)]; exact h3
        · intro q hq
          simp only [sp1, if_neg hx, hs, List.mem_cons] at hq
          rcases hq with rfl | hq
          · have := h4 p (by simp); simp only [List.mem_cons, not_or]; exact ⟨fun e => hx e.symm, this⟩
          · exact h4 q (by simp [hq])
theorem u8_eq {x b : Int} (hx : 0 ≤ x ∧ x < 256) (hb : 0 ≤ b ∧ b < 256) : (UInt8.ofNat x.toNat == UInt8.ofNat b.toNat) = decide (x = b) := by
  by_cases h : x = b
  · subst h; simp
  · rw [decide_eq_false h, beq_eq_false_iff_ne]
    intro e
    have := congrArg UInt8.toNat e
    simp only [UInt8.toNat_ofNat'] at this
    omega
theorem count_bytes {b : Int} (hb : 0 ≤ b ∧ b < 256) : ∀ (l : List Int), (∀ x ∈ l, 0 ≤ x ∧ x < 256) → Lib.countByte (Lib.bytesOf l) (UInt8.ofNat b.toNat) = l.count b
  | [], _ => rfl
  | x :: l, h => by
    have ih := count_bytes hb l fun y hy => h y (by simp [hy])
    have hx := u8_eq (h x (by simp)) hb
    simp only [Lib.countByte, Lib.bytesOf, List.map_cons, List.count_cons] at ih ⊢
    rw [ih, hx]
    by_cases e : x = b <;> simp [e]
theorem index_bytes {b : Int} (hb : 0 ≤ b ∧ b < 256) : ∀ (p T : List Int), (∀ x ∈ p, 0 ≤ x ∧ x < 256) → b ∉ p → Lib.indexByte (Lib.bytesOf (p ++ b :: T)) (UInt8.ofNat b.toNat) = (p.length : Nat)
  | [], T, _, _ => by simp [Lib.bytesOf, Lib.indexByte]
  | x :: p, T, h, hn => by
    have ih := index_bytes hb p T (fun y hy => h y (by simp [hy])) (fun e => hn (by simp [e]))
    have hx := u8_eq (h x (by simp)) hb
    have hxb : x ≠ b := fun e => hn (by simp [e])
    rw [decide_eq_false hxb] at hx
    simp only [List.cons_append, Lib.bytesOf, List.map_cons, Lib.indexByte] at ih ⊢
    rw [hx, ih]
    simp only [Bool.false_eq_true, if_false, List.length_cons]
    rw [if_neg]
    · push_cast; omega
    · simp only [beq_iff_eq]; omega
theorem cell_at {w : World} {a : Addr} {n c : Nat} {xs : List Int} (hv : Sl w 1 (.slice (some a) n c) n (xs.map (Value.int .u8))) : ∀ i, i < n → w.cell? (a.add i) = some (.int .u8 (xs.getD i 0)) := fun i hi => by
  obtain ⟨hl, a1, c1, e1, hnc, hcm, hor⟩ := hv
  cases e1
  have hln : xs.length = n := by simpa using hl
  rcases hor with h0 | ⟨b, off, h, hc⟩
  · omega
  · cases h
    rw [Addr.add_mid, hc i (by omega)]
    simp [List.getD, hln, hi]
theorem one_cell {w : World} {po : Option Addr} {co : Nat} {b : Int} (hv : Sl w 1 (.slice po 1 co) 1 ([b].map (Value.int .u8))) : ∃ b2 o2, po = some ⟨b2, o2, none⟩ ∧ w.cell? ⟨b2, o2, none⟩ = some (.int .u8 b) := by
  obtain ⟨hl, a1, c1, e1, hnc, hcm, hor⟩ := hv
  cases e1
  rcases hor with h0 | ⟨b2, off, h, hc⟩
  · omega
  · exact ⟨b2, off, h, by have := hc 0 (by decide); simpa using this⟩
theorem u8_of {b : Int} : b.toNat.toUInt8 = UInt8.ofNat b.toNat := rfl
theorem count1_any (w : World) (a po : Option Addr) (n c co : Nat) (xs : List Int) (b : Int) (hs : Sl w 1 (.slice a n c) n (xs.map (Value.int .u8))) (hnil : a = none → c = 0) (ho : Sl w 1 (.slice po 1 co) 1 ([b].map (Value.int .u8))) (hb : 0 ≤ b ∧ b < 256) (hx : ∀ x ∈ xs, 0 ≤ x ∧ x < 256) :
    Calls Tryd.prog 79 #[.slice a n c, .slice po 1 co] w fun e w' => e = .returned (.int .i64 (xs.count b : Nat)) ∧ Ext w w' := by
  obtain ⟨b2, o2, rfl, hc2⟩ := one_cell ho
  have hln : xs.length = n := by have := hs.1; simpa using this
  cases a with
  | none =>
    have hc0 := hnil rfl
    subst hc0
    have hn0 : n = 0 := by obtain ⟨_, _, _, h1, h2, _⟩ := hs; cases h1; omega
    subst hn0
    have hxs : xs = [] := List.eq_nil_of_length_eq_zero hln
    subst hxs
    exact (Tryd.bytes_Count_one_nil b2 o2 co b w hc2).mono fun e w' ⟨h1, h2⟩ => ⟨h1, h2 ▸ Ext.refl _⟩
  | some a =>
    exact (Tryd.bytes_Count_one_at a n c b2 o2 co xs b w hln (cell_at hs) hc2).mono fun e w' ⟨h1, h2⟩ => ⟨by rw [h1, u8_of, count_bytes hb xs hx], h2 ▸ Ext.refl _⟩
theorem index1_any (w : World) (a po : Option Addr) (n c co : Nat) (p T : List Int) (b : Int) (hs : Sl w 1 (.slice a n c) n ((p ++ b :: T).map (Value.int .u8))) (ho : Sl w 1 (.slice po 1 co) 1 ([b].map (Value.int .u8))) (hb : 0 ≤ b ∧ b < 256) (hx : ∀ x ∈ p, 0 ≤ x ∧ x < 256) (hp : b ∉ p) :
    Calls Tryd.prog 80 #[.slice a n c, .slice po 1 co] w fun e w' => e = .returned (.int .i64 (p.length : Nat)) ∧ Ext w w' := by
  obtain ⟨b2, o2, rfl, hc2⟩ := one_cell ho
  have hln : (p ++ b :: T).length = n := by have := hs.1; simpa using this
  cases a with
  | none =>
    obtain ⟨_, _, _, h1, h2, h3, h4⟩ := hs
    cases h1
    rcases h4 with h4 | ⟨_, _, h4, _⟩
    · rw [List.length_append, List.length_cons] at hln; omega
    · cases h4
  | some a =>
    exact (Tryd.bytes_Index_one_at a n c b2 o2 co (p ++ b :: T) b w hln (cell_at hs) hc2).mono fun e w' ⟨h1, h2⟩ => ⟨by rw [h1, u8_of, index_bytes hb p T hx hp], h2 ▸ Ext.refl _⟩
/-- bytes.ReplaceAll of one byte. -/
theorem replaceAll_any (w0 : World) (a po pn : Option Addr) (n c co ln cn : Nat) (xs new : List Int) (b : Int) (hs : Sl w0 1 (.slice a n c) n (xs.map (Value.int .u8))) (hnil : a = none → c = 0) (ho : Sl w0 1 (.slice po 1 co) 1 ([b].map (Value.int .u8))) (hw : Sl w0 1 (.slice pn ln cn) ln (new.map (Value.int .u8)))
    (hb : 0 ≤ b ∧ b < 256) (hx : ∀ x ∈ xs, 0 ≤ x ∧ x < 256) (hb1 : n ≤ 1000000000) (hb3 : ln ≤ 1000) :
    Calls Tryd.prog 43 #[.slice a n c, .slice po 1 co, .slice pn ln cn] w0 fun e w => ∃ (ao : Option Addr) (c' : Nat), e = .returned (.slice ao (rep1 b new xs).length c') ∧ St w0 w [own 5 1 ao (rep1 b new xs).length c' ((rep1 b new xs).map (Value.int .u8))] := by
  obtain ⟨h1, h2, h3, h4⟩ := sp1_spec b new xs
  obtain ⟨ps, hps⟩ : ∃ ps, (sp1 b xs).1 = ps := ⟨_, rfl⟩
  obtain ⟨last, hlast⟩ : ∃ l, (sp1 b xs).2 = l := ⟨_, rfl⟩
  rw [hps, hlast] at h1 h2
  rw [hps] at h3 h4
  rw [← pre_all] at h1 h2
  have hmem : ∀ k (h : k < ps.length), ∃ T, xs.drop (pre [b] ps k).length = ps[k] ++ b :: T := fun k h => by
    obtain ⟨T, hT⟩ := pre_split [b] ps k ps.length rfl h
    refine ⟨T ++ last, ?_⟩
    rw [← h1, hT, List.append_assoc, List.drop_left' rfl]
    simp
  have HC : Veil3 (∀ w, Ext w0 w → Calls Tryd.prog 79 #[.slice a n c, .slice po 1 co] w fun e w' => e = .returned (.int .i64 (ps.length : Nat)) ∧ Ext w w') := ⟨fun w hE => h3 ▸ count1_any w a po n c co xs b (hs.ext hE) hnil (ho.ext hE) hb hx⟩
  have HI : Veil3 (∀ k (h : k < ps.length) w, Ext w0 w → Calls Tryd.prog 80 #[.slice (cutAt a c (pre [b] ps k).length 1) (n - (pre [b] ps k).length) (c - (pre [b] ps k).length), .slice po 1 co] w fun e w' => e = .returned (.int .i64 (ps[k].length : Nat)) ∧ Ext w w') := ⟨fun k h w hE => by
    obtain ⟨T, hT⟩ := hmem k h
    have hln : xs.length = n := by have := hs.1; simpa using this
    have hle : (pre [b] ps k).length ≤ n := by
      have := pre_le [b] ps k ps.length (by omega)
      have h5 := congrArg List.length h1
      rw [List.length_append] at h5
      omega
    have hsl := (hs.ext hE).cutAt (pre [b] ps k).length n hle (Nat.le_refl _)
    have h6 : ((xs.map (Value.int .u8)).drop ((pre [b] ps k).length * 1)).take ((n - (pre [b] ps k).length) * 1) = (ps[k] ++ b :: T).map (Value.int .u8) := by
      rw [Nat.mul_one, Nat.mul_one, ← List.map_drop, ← List.map_take, List.take_of_length_le (by rw [List.length_drop]; omega), hT]
    rw [h6] at hsl
    refine index1_any w _ po _ _ co ps[k] T b hsl (ho.ext hE) hb (fun x hxm => hx x ?_) (h4 _ (List.getElem_mem h))
    have : x ∈ xs.drop (pre [b] ps k).length := by rw [hT]; simp [hxm]
    exact List.mem_of_mem_drop this⟩
  have HR := replace_any w0 a po pn n c 1 co ln cn ps.length ps last [b] new rfl (h1.symm ▸ hs) ho hw (by decide) hb1 (by decide) hb3 HC HI
  rw [h2] at HR
  have HRv : Veil3 _ := ⟨HR⟩
  have hS := St.start w0
  clear HC HI HR hmem h1 h2 h3 h4 hps hlast
  obtain ⟨R, hR⟩ : ∃ R, rep1 b new xs = R := ⟨_, rfl⟩
  rw [hR] at HRv ⊢
  clear hR
  go_enter Tryd.func43, Tryd.ntmps43
  repeat' (first
    | ((with_reducible apply gt9 _ (.call ⟨.value (.func 60), _, _⟩)); refine wpl_call (f := 60) Tryd.call60 (by kernel_rfl) ?_; refine ⟨_, (HRv.out), ?_⟩; rintro e w ⟨ao, c', rfl, hS2⟩; replace hS := hS2; clear hS2; refine ⟨_, rfl, ?_⟩; refine put_move ?_; go_step) | ((with_reducible apply gt9 _ (.move _)); (first | go_big_want | go_step); go_step) | ((with_reducible apply gt9 _ (.assign _)); (first | go_big_want | go_step); go_step) | ((fail_if_success with_reducible apply ga9); go_step))
  go_ret
  exact ⟨ao, c', rfl, hS⟩
/-- Stuffing: a nought behind each 255. -/
def stf (l : List Int) : List Int := rep1 255 [255, 0] l
theorem stf_len (l : List Int) : (stf l).length = l.length + l.count 255 := by
  induction l with
  | nil => rfl
  | cons x l ih =>
    have e : stf (x :: l) = (if x = 255 then [255, 0] else [x]) ++ stf l := by simp [stf, rep1]
    rw [e, List.length_append, ih, List.length_cons, List.count_cons]
    by_cases h : x = 255
    · subst h; simp; omega
    · simp [h]; omega
theorem stuff_any (w0 : World) (a : Option Addr) (n c : Nat) (xs : List Int) (hs : Sl w0 1 (.slice a n c) n (xs.map (Value.int .u8))) (hnil : a = none → c = 0) (hx : ∀ x ∈ xs, 0 ≤ x ∧ x < 256) (hb1 : n ≤ 1000000000) :
    Calls Tryd.prog 33 #[.slice a n c] w0 fun e w => ∃ (ao : Option Addr) (c' : Nat), e = .returned (.slice ao (stf xs).length c') ∧ St w0 w [own 5 1 ao (stf xs).length c' ((stf xs).map (Value.int .u8))] := by
  have hS := St.start w0
  have HX : Veil3 _ := ⟨hx⟩
  clear hx
  go_enter Tryd.func33, Tryd.ntmps33
  repeat' (first
    | ((with_reducible apply gt9 _ (.call ⟨.value (.func 43), _, _⟩)); refine wpl_call (f := 43) Tryd.call43 (by kernel_rfl) ?_; refine ⟨_, (replaceAll_any _ a (some ⟨g4, 0, none⟩) (some ⟨g5, 0, none⟩) n c 1 2 2 xs [255, 0] 255 (hs.ext hS.1) hnil (hS.slBlk (n := 1) (cs := [.int .u8 255]) pl9 (by rfl) (by decide)) (hS.slBlk (n := 2) (cs := [.int .u8 255, .int .u8 0]) pl9 (by rfl) (by decide)) (by decide) HX.out hb1 (by decide)), ?_⟩; rintro e w ⟨ao, c', rfl, hS2⟩; replace hS := hS.call1 hS2; clear hS2; refine ⟨_, rfl, ?_⟩; refine put_move ?_; go_step) | ((with_reducible apply gt9 _ (.move _)); (first | go_big_want | go_step); go_step) | ((with_reducible apply gt9 _ (.assign _)); (first | go_big_want | go_step); go_step) | ((with_reducible apply gt9 (some 4) (.buildSlice 34 _ _)); (refine wpl (by kernel_rfl) ?_; apply wp_buildSlice1 (o := ⟨some 4, _, _, _, _, _⟩) hS 34 1 _ rfl 5 1 1 el34 _ _; (case hvs => (repeat (first | exact Parts.nil | (apply Parts.agg; (rfl); (rfl)) | (apply Parts.one; exact isv9; (rfl); (rfl))))); (case hn => rfl); (case hn0 => decide); (case hns => decide); clear hS; intro g4 w hS; refine put_move ?_; go_step)) | ((with_reducible apply gt9 (some 5) (.buildSlice 34 _ _)); (refine wpl (by kernel_rfl) ?_; apply wp_buildSlice1 (o := ⟨some 5, _, _, _, _, _⟩) hS 34 2 _ rfl 5 1 1 el34 _ _; (case hvs => (repeat (first | exact Parts.nil | (apply Parts.agg; (rfl); (rfl)) | (apply Parts.one; exact isv9; (rfl); (rfl))))); (case hn => rfl); (case hn0 => decide); (case hns => decide); clear hS; intro g5 w hS; refine put_move ?_; go_step)) | ((fail_if_success with_reducible apply ga9); go_step))
  go_ret
  refine ⟨ao, c', rfl, ?_⟩
  unfold stf
  exact hS.sub sb9
end Go.Proofs.YtehbjhocgnfpmaaDoor

/- stuff.Split: what it computes, and its walk. -/
namespace Go.Proofs.YtehbjhocgnfpmaaDoor
open Go.RowKit
set_option linter.unusedVariables false
/-- A piece of bytes: where it lies, and what it is. -/
structure Pc where
  ad : Option Addr
  c : Nat
  xs : List Int
def Pc.val (p : Pc) : Value := .slice p.ad p.xs.length p.c
def Pc.res (p : Pc) : Res := own 5 1 p.ad p.xs.length p.c (p.xs.map (Value.int .u8))
/-- Splitting: the pieces and marks ahead, the piece at hand. -/
def spf : List Int → List (List Int) → List Int → List Int → Option (List (List Int) × List Int)
  | [], o, m, p => some (o ++ [p], m)
  | x :: l, o, m, p => if x = 255 then (match l with
    | [] => none
    | y :: l' => if y = 255 then none else if y = 0 then spf l' o m (p ++ [255, 0]) else spf l' (o ++ [p]) (m ++ [y]) []) else spf l o m (p ++ [x])
theorem spf_at (xs : List Int) (i : Nat) (o : List (List Int)) (m p : List Int) (h : i < xs.length) (hx : nth xs i ≠ 255) : spf (xs.drop i) o m p = spf (xs.drop (i + 1)) o m (p ++ [nth xs i]) := by
  have e : xs.drop i = nth xs i :: xs.drop (i + 1) := by rw [List.drop_eq_getElem_cons h]; simp [nth, List.getD, h]
  rw [e, spf.eq_def]; dsimp only; rw [if_neg hx]
theorem spf_end (xs : List Int) (i : Nat) (o : List (List Int)) (m p : List Int) (h : i + 1 = xs.length) (hx : nth xs i = 255) : spf (xs.drop i) o m p = none := by
  have e : xs.drop i = nth xs i :: xs.drop (i + 1) := by rw [List.drop_eq_getElem_cons (by omega)]; simp [nth, List.getD, show i < xs.length by omega]
  rw [e, List.drop_of_length_le (by omega)]; simp only [spf]; rw [if_pos hx]
theorem spf_two (xs : List Int) (i : Nat) (o : List (List Int)) (m p : List Int) (h : i + 1 < xs.length) (hx : nth xs i = 255) :
    spf (xs.drop i) o m p = if nth xs (i + 1) = 255 then none else if nth xs (i + 1) = 0 then spf (xs.drop (i + 2)) o m (p ++ [255, 0]) else spf (xs.drop (i + 2)) (o ++ [p]) (m ++ [nth xs (i + 1)]) [] := by
  have e : xs.drop i = nth xs i :: xs.drop (i + 1) := by rw [List.drop_eq_getElem_cons (by omega)]; simp [nth, List.getD, show i < xs.length by omega]
  have e2 : xs.drop (i + 1) = nth xs (i + 1) :: xs.drop (i + 2) := by rw [List.drop_eq_getElem_cons h]; simp [nth, List.getD, h]
  rw [e, e2]; simp only [spf]; rw [if_pos hx]
theorem spf_out (xs : List Int) (i : Nat) (o : List (List Int)) (m p : List Int) (h : xs.length ≤ i) : spf (xs.drop i) o m p = some (o ++ [p], m) := by
  rw [List.drop_of_length_le h, spf]
set_option maxRecDepth 100000 in
set_option maxHeartbeats 8000000 in
theorem split_any (w0 : World) (a : Option Addr) (n c : Nat) (xs : List Int) (hs : Sl w0 1 (.slice a n c) n (xs.map (Value.int .u8))) (hx : ∀ x ∈ xs, 0 ≤ x ∧ x < 256) (hb : n ≤ 1000000000) :
    Calls Tryd.prog 19 #[.slice a n c] w0 fun e w => (spf xs [] [] [] = none → e = .returned (.tuple #[.slice none 0 0, .slice none 0 0, .int .i64 4]) ∧ Ext w0 w) ∧
      (∀ ps ms, spf xs [] [] [] = some (ps, ms) → ∃ (pcs : List Pc) (ao am : Option Addr) (co cm lo lm : Nat), lo = ps.length ∧ lm = ms.length ∧ pcs.map (·.xs) = ps ∧ e = .returned (.tuple #[.slice ao lo co, .slice am lm cm, .int .i64 0]) ∧
        St w0 w [own 34 1 ao lo co (pcs.map Pc.val), own 3 1 am lm cm (ms.map (Value.int .i64)), star (pcs.map Pc.res)]) := by
  have hS := St.start w0
  have hln : xs.length = n := by have := hs.1; simpa using this
  have hcell : ∃ b0 o0, ∀ i, i < n → a = some ⟨b0, o0, none⟩ ∧ w0.cell? ⟨b0, o0 + i, none⟩ = some (.int .u8 (nth xs i)) := by
    obtain ⟨_, a1, c1, e1, _, _, hor⟩ := hs
    cases e1
    rcases hor with h0 | ⟨b0, o0, e2, hc⟩
    · exact ⟨0, 0, fun i hi => by omega⟩
    · refine ⟨b0, o0, fun i hi => ⟨e2, ?_⟩⟩
      rw [hc i (by omega), List.getElem?_map, get_nth xs i (by omega)]; rfl
  obtain ⟨b0, o0, hcell⟩ := hcell
  have hrng : ∀ i, i < n → 0 ≤ nth xs i ∧ nth xs i < 256 := fun i hi => hx _ (by simp [nth, List.getD, show i < xs.length by omega])
  have HC := hid hcell
  have HR := hid hrng
  have HT : Hid (∃ T, spf xs [] [] [] = T) := ⟨_, rfl⟩
  obtain ⟨T, hT⟩ := HT.out
  rw [hT]
  clear hcell hrng HT hx hs
  go_enter Tryd.func19, Tryd.ntmps19
  repeat' (first
    | ((with_reducible apply gt9 _ (.assign _)); (first | go_big_want | go_step); go_step) | ((fail_if_success with_reducible apply ga9); go_step))
  go_loopg [5, 6, 7, 8] n (fun gk ov mv pv iv w => ∃ (i lo lm lp : Nat) (pcs : List Pc) (m p : List Int) (ao am ap : Option Addr) (co cm cp : Nat), gk + i = n ∧ lo = pcs.length ∧ lm = m.length ∧ lp = p.length ∧ lo ≤ i ∧ lm ≤ i ∧ lp ≤ i ∧ ov = .slice ao lo co ∧ mv = .slice am lm cm ∧ pv = .slice ap lp cp ∧ iv = .int .i64 i ∧
    spf (xs.drop i) (pcs.map (·.xs)) m p = T ∧ St w0 w [own 34 1 ao lo co (pcs.map Pc.val), own 3 1 am lm cm (m.map (Value.int .i64)), own 5 1 ap lp cp (p.map (Value.int .u8)), star (pcs.map Pc.res)])
  case atStart => exact ⟨0, 0, 0, 0, [], [], [], none, none, none, 0, 0, 0, by omega, rfl, rfl, rfl, by omega, by omega, by omega, rfl, rfl, rfl, rfl, hT, (((hS.star0).nilk 5 1 .u8).nilk 3 1 .i64).nil 34 1⟩
  case round =>
    clear hS hT
    obtain ⟨i, lo, lm, lp, pcs, m, p, ao, am, ap, co, cm, cp, hi, hlo, hlm, hlp, hlo2, hlm2, hlp2, rfl, rfl, rfl, rfl, hT, hS⟩ := hrel
    by_cases hlt : i < n
    · obtain ⟨rfl, hc0⟩ := HC.out i hlt
      by_cases hx : nth xs i = 255
      · by_cases hend : i + 1 = n
        · rw [spf_end xs i _ _ _ (by omega) hx] at hT
          have HT := hid hT
          rw [hx] at hc0
          clear hT hx
          repeat' (first
            | ((with_reducible apply gt9 _ (.move _)); (first | go_big_want | go_step); go_step) | ((with_reducible apply gt9 (some 11) (.call ⟨.builtin .len, _, _⟩)); (refine wvv9 (V.len Tryd.underlying34 rfl) ?_; go_step)) | ((with_reducible apply gt9 (some 12) (.binOp .lss _ _ _ _)); (refine wvv9 (V.lss rfl rfl) ?_; go_step)) | ((fail_if_success with_reducible apply ga9); go_step))
          repeat' (first
            | ((with_reducible apply gt9 _ (.move _)); (first | go_big_want | go_step); go_step) | ((with_reducible apply gt9 (some 17) (.indexAddr 34 _ _)); (refine wvv9 (V.indexSl Tryd.underlying34 isz5 rfl rfl isn9 (by omega) (Nat.mul_one _) nq9) ?_; go_step)) | ((with_reducible apply gt9 (some 19) (.binOp .neq 5 _ _ _)); (refine wvv9 (V.neq rfl rfl) ?_; go_step)) | ((with_reducible apply gt9 _ (.load 5 _)); (refine wpl (by kernel_rfl) ?_; apply wp_loadW hS 5 _ rfl _ rfl (one_of rfl) _; (case hc => with_reducible assumption); refine put_move ?_; go_step)) | ((fail_if_success with_reducible apply ga9); go_step))
          repeat' (first
            | ((with_reducible apply gt9 (some 28) (.binOp .add _ _ _ _)); (refine wplV (.int _ (((i + 1 : Nat) : Int))) (V.as (V.addI rfl rfl (by omega)) (by omega)) rfl ?_; go_step)) | ((with_reducible apply gt9 _ (.move _)); (first | go_big_want | go_step); go_step) | ((with_reducible apply gt9 _ (.assign _)); (first | go_big_want | go_step); go_step) | ((fail_if_success with_reducible apply ga9); go_step))
          repeat' (first
            | go_big_skip | ((with_reducible apply gt9 _ (.move _)); (first | go_big_want | go_step); go_step) | ((with_reducible apply gt9 _ (.assign _)); (first | go_big_want | go_step); go_step) | ((with_reducible apply gt9 _ (.pick _ _ _)); (refine wplPickT rfl (by kernel_rfl) ?_; go_step)) | ((with_reducible apply gt9 (some 45) (.binOp .eql 3 _ _ _)); (refine wplD _ (V.eql rfl rfl) (by kernel_rfl) (fun hB => ?_) (fun hB => ?_) <;> (try (have hF : False := (by omega); cases hF)) <;> go_step)) | ((with_reducible apply gt9 (some 44) (.call ⟨.builtin .len, _, _⟩)); (refine wvv9 (V.len Tryd.underlying34 rfl) ?_; go_step)) | ((fail_if_success with_reducible apply ga9); go_step))
          refine ret_all (xs := [_, _, _]) rfl (.cons (OneRes.tmp rfl) (.cons (OneRes.tmp rfl) (.cons (OneRes.tmp rfl) (.nil)))) (by simp) rfl ?_
          exact ⟨fun _ => ⟨rfl, hS.1⟩, fun ps ms h => by rw [← HT.out] at h; cases h⟩
        · rw [spf_two xs i _ _ _ (by omega) hx] at hT
          obtain ⟨_, hc1⟩ := HC.out (i + 1) (by omega)
          have hr := HR.out (i + 1) (by omega)
          rw [hx] at hc0
          obtain ⟨y, hy⟩ : ∃ y, nth xs (i + 1) = y := ⟨_, rfl⟩
          rw [hy] at hT hc1 hr
          clear hx hy
          by_cases hy255 : y = 255
          · rw [if_pos hy255] at hT
            have HT := hid hT
            clear hT
            repeat' (first
              | ((with_reducible apply gt9 _ (.move _)); (first | go_big_want | go_step); go_step) | ((with_reducible apply gt9 (some 11) (.call ⟨.builtin .len, _, _⟩)); (refine wvv9 (V.len Tryd.underlying34 rfl) ?_; go_step)) | ((with_reducible apply gt9 (some 12) (.binOp .lss _ _ _ _)); (refine wvv9 (V.lss rfl rfl) ?_; go_step)) | ((fail_if_success with_reducible apply ga9); go_step))
            repeat' (first
              | ((with_reducible apply gt9 _ (.move _)); (first | go_big_want | go_step); go_step) | ((with_reducible apply gt9 (some 17) (.indexAddr 34 _ _)); (refine wvv9 (V.indexSl Tryd.underlying34 isz5 rfl rfl isn9 (by omega) (Nat.mul_one _) nq9) ?_; go_step)) | ((with_reducible apply gt9 (some 19) (.binOp .neq 5 _ _ _)); (refine wvv9 (V.neq rfl rfl) ?_; go_step)) | ((with_reducible apply gt9 _ (.load 5 _)); (refine wpl (by kernel_rfl) ?_; apply wp_loadW hS 5 _ rfl _ rfl (one_of rfl) _; (case hc => with_reducible assumption); refine put_move ?_; go_step)) | ((fail_if_success with_reducible apply ga9); go_step))
            repeat' (first
              | ((with_reducible apply gt9 (some 28) (.binOp .add _ _ _ _)); (refine wplV (.int _ (((i + 1 : Nat) : Int))) (V.as (V.addI rfl rfl (by omega)) (by omega)) rfl ?_; go_step)) | ((with_reducible apply gt9 _ (.move _)); (first | go_big_want | go_step); go_step) | ((with_reducible apply gt9 _ (.assign _)); (first | go_big_want | go_step); go_step) | ((fail_if_success with_reducible apply ga9); go_step))
            repeat' (first
              | ((with_reducible apply gt9 _ (.move _)); (first | go_big_want | go_step); go_step) | ((with_reducible apply gt9 _ (.assign _)); (first | go_big_want | go_step); go_step) | ((with_reducible apply gt9 _ (.pick _ _ _)); (refine wplPickF rfl (by kernel_rfl) ?_; go_step)) | ((with_reducible apply gt9 (some 45) (.binOp .eql 3 _ _ _)); (refine wplD _ (V.eql rfl rfl) (by kernel_rfl) (fun hB => ?_) (fun hB => ?_) <;> (try (have hF : False := (by omega); cases hF)) <;> go_step)) | ((with_reducible apply gt9 (some 44) (.call ⟨.builtin .len, _, _⟩)); (refine wvv9 (V.len Tryd.underlying34 rfl) ?_; go_step)) | ((with_reducible apply gt9 (some 49) (.indexAddr 34 _ _)); (refine wvv9 (V.indexSl Tryd.underlying34 isz5 rfl rfl isn9 (by omega) (Nat.mul_one _) nq9) ?_; go_step)) | ((with_reducible apply gt9 (some 51) (.binOp .eql 5 _ _ _)); (refine wvv9 (V.eql rfl rfl) ?_; go_step)) | ((with_reducible apply gt9 _ (.load 5 _)); (refine wpl (by kernel_rfl) ?_; apply wp_loadW hS 5 _ rfl _ rfl (one_of rfl) _; (case hc => with_reducible assumption); refine put_move ?_; go_step)) | ((fail_if_success with_reducible apply ga9); go_step))
            refine ret_all (xs := [_, _, _]) rfl (.cons (OneRes.tmp rfl) (.cons (OneRes.tmp rfl) (.cons (OneRes.tmp rfl) (.nil)))) (by simp) rfl ?_
            exact ⟨fun _ => ⟨rfl, hS.1⟩, fun ps ms h => by rw [← HT.out] at h; cases h⟩
          · rw [if_neg hy255] at hT
            by_cases hy0 : y = 0
            · rw [if_pos hy0] at hT
              have HT := hid hT
              clear hT
              repeat' (first
                | ((with_reducible apply gt9 _ (.move _)); (first | go_big_want | go_step); go_step) | ((with_reducible apply gt9 (some 11) (.call ⟨.builtin .len, _, _⟩)); (refine wvv9 (V.len Tryd.underlying34 rfl) ?_; go_step)) | ((with_reducible apply gt9 (some 12) (.binOp .lss _ _ _ _)); (refine wvv9 (V.lss rfl rfl) ?_; go_step)) | ((fail_if_success with_reducible apply ga9); go_step))
              repeat' (first
                | ((with_reducible apply gt9 _ (.move _)); (first | go_big_want | go_step); go_step) | ((with_reducible apply gt9 (some 17) (.indexAddr 34 _ _)); (refine wvv9 (V.indexSl Tryd.underlying34 isz5 rfl rfl isn9 (by omega) (Nat.mul_one _) nq9) ?_; go_step)) | ((with_reducible apply gt9 (some 19) (.binOp .neq 5 _ _ _)); (refine wvv9 (V.neq rfl rfl) ?_; go_step)) | ((with_reducible apply gt9 _ (.load 5 _)); (refine wpl (by kernel_rfl) ?_; apply wp_loadW hS 5 _ rfl _ rfl (one_of rfl) _; (case hc => with_reducible assumption); refine put_move ?_; go_step)) | ((fail_if_success with_reducible apply ga9); go_step))
              repeat' (first
                | ((with_reducible apply gt9 (some 28) (.binOp .add _ _ _ _)); (refine wplV (.int _ (((i + 1 : Nat) : Int))) (V.as (V.addI rfl rfl (by omega)) (by omega)) rfl ?_; go_step)) | ((with_reducible apply gt9 _ (.move _)); (first | go_big_want | go_step); go_step) | ((with_reducible apply gt9 _ (.assign _)); (first | go_big_want | go_step); go_step) | ((fail_if_success with_reducible apply ga9); go_step))
              repeat' (first
                | ((with_reducible apply gt9 _ (.move _)); (first | go_big_want | go_step); go_step) | ((with_reducible apply gt9 _ (.assign _)); (first | go_big_want | go_step); go_step) | ((with_reducible apply gt9 _ (.pick _ _ _)); (refine wplPickF rfl (by kernel_rfl) ?_; go_step)) | ((with_reducible apply gt9 (some 45) (.binOp .eql 3 _ _ _)); (refine wplD _ (V.eql rfl rfl) (by kernel_rfl) (fun hB => ?_) (fun hB => ?_) <;> (try (have hF : False := (by omega); cases hF)) <;> go_step)) | ((with_reducible apply gt9 (some 44) (.call ⟨.builtin .len, _, _⟩)); (refine wvv9 (V.len Tryd.underlying34 rfl) ?_; go_step)) | ((with_reducible apply gt9 (some 49) (.indexAddr 34 _ _)); (refine wvv9 (V.indexSl Tryd.underlying34 isz5 rfl rfl isn9 (by omega) (Nat.mul_one _) nq9) ?_; go_step)) | ((with_reducible apply gt9 (some 51) (.binOp .eql 5 _ _ _)); (refine wvv9 (V.eql rfl rfl) ?_; go_step)) | ((with_reducible apply gt9 _ (.load 5 _)); (refine wpl (by kernel_rfl) ?_; apply wp_loadW hS 5 _ rfl _ rfl (one_of rfl) _; (case hc => with_reducible assumption); refine put_move ?_; go_step)) | ((fail_if_success with_reducible apply ga9); go_step))
              repeat' (first
                | ((with_reducible apply gt9 _ (.move _)); (first | go_big_want | go_step); go_step) | ((with_reducible apply gt9 _ (.assign _)); (first | go_big_want | go_step); go_step) | ((with_reducible apply gt9 (some 56) (.indexAddr 34 _ _)); (refine wvv9 (V.indexSl Tryd.underlying34 isz5 rfl rfl isn9 (by omega) (Nat.mul_one _) nq9) ?_; go_step)) | ((with_reducible apply gt9 (some 58) (.binOp .eql 5 _ _ _)); (refine wvv9 (V.eql rfl rfl) ?_; go_step)) | ((with_reducible apply gt9 _ (.load 5 _)); (refine wpl (by kernel_rfl) ?_; apply wp_loadW hS 5 _ rfl _ rfl (one_of rfl) _; (case hc => with_reducible assumption); refine put_move ?_; go_step)) | ((with_reducible apply gt9 (some 60) (.buildSlice 34 _ _)); (refine wpl (by kernel_rfl) ?_; apply wp_buildSlice1 (o := ⟨some 60, _, _, _, _, _⟩) hS 34 2 _ rfl 5 1 1 el34 _ _; (case hvs => (repeat (first | exact Parts.nil | (apply Parts.agg; (rfl); (rfl)) | (apply Parts.one; exact isv9; (rfl); (rfl))))); (case hn => rfl); (case hn0 => decide); (case hns => decide); clear hS; intro g60 w hS; refine put_move ?_; go_step)) | ((with_reducible apply gt9 (some 61) (.call ⟨.builtin .append, _, _⟩)); (refine wpl (by kernel_rfl) ?_; apply wp_append (o := ⟨some 61, _, _, _, _, _⟩) hS _ _ 34 rfl 5 1 1 el34 _ _ _ _ rfl; (case hp => exact pl9); (case hx => exact rfl); (case hm => (first | exact hS.slBlk pl9 (by rfl) (by decide) | exact hS.sl pl9 | with_reducible assumption | exact Sl.ext (by with_reducible assumption) hS.1 | exact Sl.nil _ _ | exact Sl.ext (by assumption) hS.1 | assumption)); (case h1 => (first | exact oneAll rfl | exact oneMap _ _ | (intro u hu; cases hu))); (case h63 => unfold maxLen; omega); (case hb => omega); clear hS; intro ad61 c61 w hS; (first | simp only [mapk1] at hS | simp only [mapk2] at hS | simp only [mapk3] at hS | simp only [mapk4] at hS | simp only [mapkl] at hS | skip); refine put_move ?_; go_step)) | ((fail_if_success with_reducible apply ga9); go_step))
              repeat' (first
                | ((with_reducible apply gt9 (some 14) (.binOp .add _ _ _ _)); (refine wplV (.int _ (((i + 2 : Nat) : Int))) (V.as (V.addI rfl rfl (by omega)) (by omega)) rfl ?_; go_step)) | ((with_reducible apply gt9 _ (.assign _)); (first | go_big_want | go_step); go_step) | ((fail_if_success with_reducible apply ga9); go_step))
              go_roundg (gk - 2)
              case measure => omega
              case rel => exact ⟨i + 2, lo, lm, lp + 2, pcs, m, p ++ [255, 0], _, _, _, _, _, _, by omega, hlo, hlm, by simp; omega, by omega, by omega, by omega, rfl, rfl, rfl, by go_num, HT.out, hS.sub sb9⟩
            · rw [if_neg hy0] at hT
              have HT := hid hT
              clear hT
              repeat' (first
                | ((with_reducible apply gt9 _ (.move _)); (first | go_big_want | go_step); go_step) | ((with_reducible apply gt9 (some 11) (.call ⟨.builtin .len, _, _⟩)); (refine wvv9 (V.len Tryd.underlying34 rfl) ?_; go_step)) | ((with_reducible apply gt9 (some 12) (.binOp .lss _ _ _ _)); (refine wvv9 (V.lss rfl rfl) ?_; go_step)) | ((fail_if_success with_reducible apply ga9); go_step))
              repeat' (first
                | ((with_reducible apply gt9 _ (.move _)); (first | go_big_want | go_step); go_step) | ((with_reducible apply gt9 (some 17) (.indexAddr 34 _ _)); (refine wvv9 (V.indexSl Tryd.underlying34 isz5 rfl rfl isn9 (by omega) (Nat.mul_one _) nq9) ?_; go_step)) | ((with_reducible apply gt9 (some 19) (.binOp .neq 5 _ _ _)); (refine wvv9 (V.neq rfl rfl) ?_; go_step)) | ((with_reducible apply gt9 _ (.load 5 _)); (refine wpl (by kernel_rfl) ?_; apply wp_loadW hS 5 _ rfl _ rfl (one_of rfl) _; (case hc => with_reducible assumption); refine put_move ?_; go_step)) | ((fail_if_success with_reducible apply ga9); go_step))
              repeat' (first
                | ((with_reducible apply gt9 (some 28) (.binOp .add _ _ _ _)); (refine wplV (.int _ (((i + 1 : Nat) : Int))) (V.as (V.addI rfl rfl (by omega)) (by omega)) rfl ?_; go_step)) | ((with_reducible apply gt9 _ (.move _)); (first | go_big_want | go_step); go_step) | ((with_reducible apply gt9 _ (.assign _)); (first | go_big_want | go_step); go_step) | ((fail_if_success with_reducible apply ga9); go_step))
              repeat' (first
                | ((with_reducible apply gt9 _ (.move _)); (first | go_big_want | go_step); go_step) | ((with_reducible apply gt9 _ (.assign _)); (first | go_big_want | go_step); go_step) | ((with_reducible apply gt9 _ (.pick _ _ _)); (refine wplPickF rfl (by kernel_rfl) ?_; go_step)) | ((with_reducible apply gt9 (some 45) (.binOp .eql 3 _ _ _)); (refine wplD _ (V.eql rfl rfl) (by kernel_rfl) (fun hB => ?_) (fun hB => ?_) <;> (try (have hF : False := (by omega); cases hF)) <;> go_step)) | ((with_reducible apply gt9 (some 44) (.call ⟨.builtin .len, _, _⟩)); (refine wvv9 (V.len Tryd.underlying34 rfl) ?_; go_step)) | ((with_reducible apply gt9 (some 49) (.indexAddr 34 _ _)); (refine wvv9 (V.indexSl Tryd.underlying34 isz5 rfl rfl isn9 (by omega) (Nat.mul_one _) nq9) ?_; go_step)) | ((with_reducible apply gt9 (some 51) (.binOp .eql 5 _ _ _)); (refine wvv9 (V.eql rfl rfl) ?_; go_step)) | ((with_reducible apply gt9 _ (.load 5 _)); (refine wpl (by kernel_rfl) ?_; apply wp_loadW hS 5 _ rfl _ rfl (one_of rfl) _; (case hc => with_reducible assumption); refine put_move ?_; go_step)) | ((fail_if_success with_reducible apply ga9); go_step))
              repeat' (first
                | ((with_reducible apply gt9 _ (.assign _)); (first | go_big_want | go_step); go_step) | ((with_reducible apply gt9 (some 56) (.indexAddr 34 _ _)); (refine wvv9 (V.indexSl Tryd.underlying34 isz5 rfl rfl isn9 (by omega) (Nat.mul_one _) nq9) ?_; go_step)) | ((with_reducible apply gt9 (some 58) (.binOp .eql 5 _ _ _)); (refine wvv9 (V.eql rfl rfl) ?_; go_step)) | ((with_reducible apply gt9 _ (.load 5 _)); (refine wpl (by kernel_rfl) ?_; apply wp_loadW hS 5 _ rfl _ rfl (one_of rfl) _; (case hc => with_reducible assumption); refine put_move ?_; go_step)) | ((fail_if_success with_reducible apply ga9); go_step))
              refine drawn_lit [10, 11] (fun w => St w0 w []) (by kernel_rfl) ?_
              replace hS := hS.drew
              focus
                refine takeM 0 _ al9 (by kernel_rfl) (by kernel_rfl) (by kernel_rfl) (by exact fun _ _ _ _ h => h) rfl ?_
                go_step
                refine takeM 1 _ al9 (by kernel_rfl) (by kernel_rfl) (by kernel_rfl) (by exact fun _ _ _ _ h => h) rfl ?_
                go_step
                refine takeM 4 _ al9 (by kernel_rfl) (by kernel_rfl) (by kernel_rfl) (by exact fun _ _ _ _ h => h) rfl ?_
                go_step
                refine takeM 5 _ al9 (by kernel_rfl) (by kernel_rfl) (by kernel_rfl) (by exact fun _ _ _ _ h => h) rfl ?_
                go_step
                refine takeM 6 _ al9 (by kernel_rfl) (by kernel_rfl) (by kernel_rfl) (by exact fun _ _ _ _ h => h) rfl ?_
                go_step
                (refine takeV 7 _ al9 (by kernel_rfl) (by kernel_rfl) (by kernel_rfl) (by exact fun _ _ _ _ h => h) (V.indexSl Tryd.underlying34 isz5 rfl rfl isn9 (by omega) (Nat.mul_one _) nq9) rfl ?_)
                go_step
                apply takeS 8 al9 (by kernel_rfl) (by kernel_rfl) (by kernel_rfl) (by exact fun _ _ _ _ h => h) [9, 10, 11, 12, 13, 14] (by kernel_rfl) (hS.sub sb9)
                case hfr => intro w hS; ((refine wpl (by kernel_rfl) ?_; apply wp_loadW hS 5 _ rfl _ rfl (one_of rfl) _; (case hc => with_reducible assumption); refine put_move ?_; go_step)); refine wpList_nil ?_; exact ⟨rfl, rfl⟩
                case hd => rfl
                (refine takeV 9 _ al9 (by kernel_rfl) (by kernel_rfl) (by kernel_rfl) (by exact fun _ _ _ _ h => h) (V.convI (by rw [Tryd.underlying5]; rfl) Tryd.underlying3 rfl (IntWalk.i64_in _ (by omega))) rfl ?_)
                go_step
                refine branch [2, 10] (by kernel_rfl) (by simp) (.cons al9 rfl ?_ (.cons al9 rfl ?_ (.nil)))
                rotate_left 1
                focus
                  (refine wp_buildSlice1 (o := ⟨some 39, _, _, _, _, _⟩) hS 24 1 _ rfl 3 1 8 el24 _ _ (by (repeat (first | exact Parts.nil | (apply Parts.agg; (rfl); (rfl)) | (apply Parts.one; exact isv9; (rfl); (rfl))))) (by rfl) (by decide) (by decide) ?_; clear hS; intro g39 w hS)
                  refine ⟨fun h => absurd (by decide) h, ?_⟩
                  refine drawn_move ?_
                  go_step
                  refine branch1 2 al9 rfl (by kernel_rfl) ?_
                  (refine wp_buildSlice1 (o := ⟨some 31, _, _, _, _, _⟩) hS 37 1 _ rfl 34 1 24 el37 _ _ (by (repeat (first | exact Parts.nil | (apply Parts.agg; (rfl); (rfl)) | (apply Parts.one; exact isv9; (rfl); (rfl))))) (by rfl) (by decide) (by decide) ?_; clear hS; intro g31 w hS)
                  refine ⟨fun _ _ => hS.sub sb9, ?_⟩
                  refine drawn_move ?_
                  go_step
                  refine branch1 3 al9 rfl (by kernel_rfl) ?_
                  (refine wp_append (o := ⟨some 32, _, _, _, _, _⟩) hS _ _ 37 rfl 34 1 24 el37 _ _ _ _ rfl pl9 _ rfl _ _ (by (first | exact hS.slBlk pl9 (by rfl) (by decide) | exact hS.sl pl9 | with_reducible assumption | exact Sl.ext (by with_reducible assumption) hS.1 | exact Sl.nil _ _ | exact Sl.ext (by assumption) hS.1 | assumption)) (by (first | exact oneAll rfl | exact oneMap _ _ | (intro u hu; cases hu))) (by unfold maxLen; omega) (by omega) ?_; clear hS; intro ad32 c32 w hS; (first | simp only [mapk1] at hS | simp only [mapk2] at hS | simp only [mapk3] at hS | simp only [mapk4] at hS | simp only [mapkl] at hS | skip))
                  refine ⟨fun _ _ => hS.sub sb9, ?_⟩
                  refine drawn_move ?_
                  go_step
                  refine branch1 11 al9 rfl (by kernel_rfl) ?_
                  (refine wp_append (o := ⟨some 40, _, _, _, _, _⟩) hS _ _ 24 rfl 3 1 8 el24 _ _ _ _ rfl pl9 _ rfl _ _ (by (first | exact hS.slBlk pl9 (by rfl) (by decide) | exact hS.sl pl9 | with_reducible assumption | exact Sl.ext (by with_reducible assumption) hS.1 | exact Sl.nil _ _ | exact Sl.ext (by assumption) hS.1 | assumption)) (by (first | exact oneAll rfl | exact oneMap _ _ | (intro u hu; cases hu))) (by unfold maxLen; omega) (by omega) ?_; clear hS; intro ad40 c40 w hS; (first | simp only [mapk1] at hS | simp only [mapk2] at hS | simp only [mapk3] at hS | simp only [mapk4] at hS | simp only [mapkl] at hS | skip))
                  refine ⟨fun h => absurd (by decide) h, ?_⟩
                  refine drawn_move ?_
                  go_step
                  refine takeA 12 _ al9 (by kernel_rfl) (by kernel_rfl) (by kernel_rfl) (by exact fun _ _ _ _ h => h) rfl ?_
                  go_step
                  refine takeA 13 _ al9 (by kernel_rfl) (by kernel_rfl) (by kernel_rfl) (by exact fun _ _ _ _ h => h) rfl ?_
                  go_step
                  refine takeA 14 _ al9 (by kernel_rfl) (by kernel_rfl) (by kernel_rfl) (by exact fun _ _ _ _ h => h) rfl ?_
                  go_step
                  refine drawn_done (by kernel_rfl) ?_ _
                rotate_right 1
                focus
                  (refine wp_buildSlice1 (o := ⟨some 31, _, _, _, _, _⟩) hS 37 1 _ rfl 34 1 24 el37 _ _ (by (repeat (first | exact Parts.nil | (apply Parts.agg; (rfl); (rfl)) | (apply Parts.one; exact isv9; (rfl); (rfl))))) (by rfl) (by decide) (by decide) ?_; clear hS; intro g31 w hS)
                  refine ⟨fun _ _ => hS.sub sb9, ?_⟩
                  refine drawn_move ?_
                  go_step
                  refine branch [3, 10] (by kernel_rfl) (by simp) (.cons al9 rfl ?_ (.cons al9 rfl ?_ (.nil)))
                  rotate_left 1
                  focus
                    (refine wp_buildSlice1 (o := ⟨some 39, _, _, _, _, _⟩) hS 24 1 _ rfl 3 1 8 el24 _ _ (by (repeat (first | exact Parts.nil | (apply Parts.agg; (rfl); (rfl)) | (apply Parts.one; exact isv9; (rfl); (rfl))))) (by rfl) (by decide) (by decide) ?_; clear hS; intro g39 w hS)
                    refine ⟨fun h => absurd (by decide) h, ?_⟩
                    refine drawn_move ?_
                    go_step
                    refine branch1 3 al9 rfl (by kernel_rfl) ?_
                    (refine wp_append (o := ⟨some 32, _, _, _, _, _⟩) hS _ _ 37 rfl 34 1 24 el37 _ _ _ _ rfl pl9 _ rfl _ _ (by (first | exact hS.slBlk pl9 (by rfl) (by decide) | exact hS.sl pl9 | with_reducible assumption | exact Sl.ext (by with_reducible assumption) hS.1 | exact Sl.nil _ _ | exact Sl.ext (by assumption) hS.1 | assumption)) (by (first | exact oneAll rfl | exact oneMap _ _ | (intro u hu; cases hu))) (by unfold maxLen; omega) (by omega) ?_; clear hS; intro ad32 c32 w hS; (first | simp only [mapk1] at hS | simp only [mapk2] at hS | simp only [mapk3] at hS | simp only [mapk4] at hS | simp only [mapkl] at hS | skip))
                    refine ⟨fun _ _ => hS.sub sb9, ?_⟩
                    refine drawn_move ?_
                    go_step
                    refine branch1 11 al9 rfl (by kernel_rfl) ?_
                    (refine wp_append (o := ⟨some 40, _, _, _, _, _⟩) hS _ _ 24 rfl 3 1 8 el24 _ _ _ _ rfl pl9 _ rfl _ _ (by (first | exact hS.slBlk pl9 (by rfl) (by decide) | exact hS.sl pl9 | with_reducible assumption | exact Sl.ext (by with_reducible assumption) hS.1 | exact Sl.nil _ _ | exact Sl.ext (by assumption) hS.1 | assumption)) (by (first | exact oneAll rfl | exact oneMap _ _ | (intro u hu; cases hu))) (by unfold maxLen; omega) (by omega) ?_; clear hS; intro ad40 c40 w hS; (first | simp only [mapk1] at hS | simp only [mapk2] at hS | simp only [mapk3] at hS | simp only [mapk4] at hS | simp only [mapkl] at hS | skip))
                    refine ⟨fun h => absurd (by decide) h, ?_⟩
                    refine drawn_move ?_
                    go_step
                    refine takeA 12 _ al9 (by kernel_rfl) (by kernel_rfl) (by kernel_rfl) (by exact fun _ _ _ _ h => h) rfl ?_
                    go_step
                    refine takeA 13 _ al9 (by kernel_rfl) (by kernel_rfl) (by kernel_rfl) (by exact fun _ _ _ _ h => h) rfl ?_
                    go_step
                    refine takeA 14 _ al9 (by kernel_rfl) (by kernel_rfl) (by kernel_rfl) (by exact fun _ _ _ _ h => h) rfl ?_
                    go_step
                    refine drawn_done (by kernel_rfl) ?_ _
                  rotate_right 1
                  focus
                    (refine wp_append (o := ⟨some 32, _, _, _, _, _⟩) hS _ _ 37 rfl 34 1 24 el37 _ _ _ _ rfl pl9 _ rfl _ _ (by (first | exact hS.slBlk pl9 (by rfl) (by decide) | exact hS.sl pl9 | with_reducible assumption | exact Sl.ext (by with_reducible assumption) hS.1 | exact Sl.nil _ _ | exact Sl.ext (by assumption) hS.1 | assumption)) (by (first | exact oneAll rfl | exact oneMap _ _ | (intro u hu; cases hu))) (by unfold maxLen; omega) (by omega) ?_; clear hS; intro ad32 c32 w hS; (first | simp only [mapk1] at hS | simp only [mapk2] at hS | simp only [mapk3] at hS | simp only [mapk4] at hS | simp only [mapkl] at hS | skip))
                    refine ⟨fun _ _ => hS.sub sb9, ?_⟩
                    refine drawn_move ?_
                    go_step
                    refine branch1 10 al9 rfl (by kernel_rfl) ?_
                    (refine wp_buildSlice1 (o := ⟨some 39, _, _, _, _, _⟩) hS 24 1 _ rfl 3 1 8 el24 _ _ (by (repeat (first | exact Parts.nil | (apply Parts.agg; (rfl); (rfl)) | (apply Parts.one; exact isv9; (rfl); (rfl))))) (by rfl) (by decide) (by decide) ?_; clear hS; intro g39 w hS)
                    refine ⟨fun h => absurd (by decide) h, ?_⟩
                    refine drawn_move ?_
                    go_step
                    refine branch1 11 al9 rfl (by kernel_rfl) ?_
                    (refine wp_append (o := ⟨some 40, _, _, _, _, _⟩) hS _ _ 24 rfl 3 1 8 el24 _ _ _ _ rfl pl9 _ rfl _ _ (by (first | exact hS.slBlk pl9 (by rfl) (by decide) | exact hS.sl pl9 | with_reducible assumption | exact Sl.ext (by with_reducible assumption) hS.1 | exact Sl.nil _ _ | exact Sl.ext (by assumption) hS.1 | assumption)) (by (first | exact oneAll rfl | exact oneMap _ _ | (intro u hu; cases hu))) (by unfold maxLen; omega) (by omega) ?_; clear hS; intro ad40 c40 w hS; (first | simp only [mapk1] at hS | simp only [mapk2] at hS | simp only [mapk3] at hS | simp only [mapk4] at hS | simp only [mapkl] at hS | skip))
                    refine ⟨fun h => absurd (by decide) h, ?_⟩
                    refine drawn_move ?_
                    go_step
                    refine takeA 12 _ al9 (by kernel_rfl) (by kernel_rfl) (by kernel_rfl) (by exact fun _ _ _ _ h => h) rfl ?_
                    go_step
                    refine takeA 13 _ al9 (by kernel_rfl) (by kernel_rfl) (by kernel_rfl) (by exact fun _ _ _ _ h => h) rfl ?_
                    go_step
                    refine takeA 14 _ al9 (by kernel_rfl) (by kernel_rfl) (by kernel_rfl) (by exact fun _ _ _ _ h => h) rfl ?_
                    go_step
                    refine drawn_done (by kernel_rfl) ?_ _
              all_goals
                repeat' (first
                  | ((with_reducible apply gt9 (some 14) (.binOp .add _ _ _ _)); (refine wplV (.int _ (((i + 2 : Nat) : Int))) (V.as (V.addI rfl rfl (by omega)) (by omega)) rfl ?_; go_step)) | ((with_reducible apply gt9 _ (.move _)); (first | go_big_want | go_step); go_step) | ((with_reducible apply gt9 _ (.assign _)); (first | go_big_want | go_step); go_step) | ((fail_if_success with_reducible apply ga9); go_step))
                subst hlp
                have h2 := (hS.sub (xs := [star (pcs.map Pc.res), own 5 1 ap p.length cp (p.map (Value.int .u8)), own 34 1 ad32 (lo + 1) c32 (pcs.map Pc.val ++ [.slice ap p.length cp]), own 3 1 ad40 (lm + 1) c40 ((m ++ [y]).map (Value.int .i64))]) sb9).starPut Pull.head
                go_roundg (gk - 2)
                case measure => omega
                case rel =>
                  refine ⟨i + 2, lo + 1, lm + 1, 0, pcs ++ [⟨ap, cp, p⟩], m ++ [y], [], _, _, _, _, _, _, by omega, by simp; omega, by simp; omega, rfl, by omega, by omega, by omega, rfl, rfl, rfl, by go_num, by rw [List.map_append]; exact HT.out, ?_⟩
                  rw [show (pcs ++ [(⟨ap, cp, p⟩ : Pc)]).map Pc.val = pcs.map Pc.val ++ [.slice ap p.length cp] by rw [List.map_append]; rfl, show (pcs ++ [(⟨ap, cp, p⟩ : Pc)]).map Pc.res = pcs.map Pc.res ++ [own 5 1 ap p.length cp (p.map (Value.int .u8))] by rw [List.map_append]; rfl]
                  exact (h2.nilk 5 1 .u8).sub sb9
      · rw [spf_at xs i _ _ _ (by omega) hx] at hT
        have HT := hid hT
        obtain ⟨x, hxx⟩ : ∃ x, nth xs i = x := ⟨_, rfl⟩
        rw [hxx] at HT hc0 hx
        clear hT hxx
        repeat' (first
          | ((with_reducible apply gt9 _ (.move _)); (first | go_big_want | go_step); go_step) | ((with_reducible apply gt9 (some 11) (.call ⟨.builtin .len, _, _⟩)); (refine wvv9 (V.len Tryd.underlying34 rfl) ?_; go_step)) | ((with_reducible apply gt9 (some 12) (.binOp .lss _ _ _ _)); (refine wvv9 (V.lss rfl rfl) ?_; go_step)) | ((fail_if_success with_reducible apply ga9); go_step))
        repeat' (first
          | ((with_reducible apply gt9 _ (.move _)); (first | go_big_want | go_step); go_step) | ((with_reducible apply gt9 _ (.assign _)); (first | go_big_want | go_step); go_step) | ((with_reducible apply gt9 (some 17) (.indexAddr 34 _ _)); (refine wvv9 (V.indexSl Tryd.underlying34 isz5 rfl rfl isn9 (by omega) (Nat.mul_one _) nq9) ?_; go_step)) | ((with_reducible apply gt9 (some 19) (.binOp .neq 5 _ _ _)); (refine wvv9 (V.neq rfl rfl) ?_; go_step)) | ((with_reducible apply gt9 (some 23) (.indexAddr 34 _ _)); (refine wvv9 (V.indexSl Tryd.underlying34 isz5 rfl rfl isn9 (by omega) (Nat.mul_one _) nq9) ?_; go_step)) | ((with_reducible apply gt9 _ (.load 5 _)); (refine wpl (by kernel_rfl) ?_; apply wp_loadW hS 5 _ rfl _ rfl (one_of rfl) _; (case hc => with_reducible assumption); refine put_move ?_; go_step)) | ((with_reducible apply gt9 (some 25) (.buildSlice 34 _ _)); (refine wpl (by kernel_rfl) ?_; apply wp_buildSlice1 (o := ⟨some 25, _, _, _, _, _⟩) hS 34 1 _ rfl 5 1 1 el34 _ _; (case hvs => (repeat (first | exact Parts.nil | (apply Parts.agg; (rfl); (rfl)) | (apply Parts.one; exact isv9; (rfl); (rfl))))); (case hn => rfl); (case hn0 => decide); (case hns => decide); clear hS; intro g25 w hS; refine put_move ?_; go_step)) | ((with_reducible apply gt9 (some 26) (.call ⟨.builtin .append, _, _⟩)); (refine wpl (by kernel_rfl) ?_; apply wp_append (o := ⟨some 26, _, _, _, _, _⟩) hS _ _ 34 rfl 5 1 1 el34 _ _ _ _ rfl; (case hp => exact pl9); (case hx => exact rfl); (case hm => (first | exact hS.slBlk pl9 (by rfl) (by decide) | exact hS.sl pl9 | with_reducible assumption | exact Sl.ext (by with_reducible assumption) hS.1 | exact Sl.nil _ _ | exact Sl.ext (by assumption) hS.1 | assumption)); (case h1 => (first | exact oneAll rfl | exact oneMap _ _ | (intro u hu; cases hu))); (case h63 => unfold maxLen; omega); (case hb => omega); clear hS; intro ad26 c26 w hS; (first | simp only [mapk1] at hS | simp only [mapk2] at hS | simp only [mapk3] at hS | simp only [mapk4] at hS | simp only [mapkl] at hS | skip); refine put_move ?_; go_step)) | ((fail_if_success with_reducible apply ga9); go_step))
        repeat' (first
          | ((with_reducible apply gt9 (some 14) (.binOp .add _ _ _ _)); (refine wplV (.int _ (((i + 1 : Nat) : Int))) (V.as (V.addI rfl rfl (by omega)) (by omega)) rfl ?_; go_step)) | ((with_reducible apply gt9 _ (.assign _)); (first | go_big_want | go_step); go_step) | ((fail_if_success with_reducible apply ga9); go_step))
        go_roundg (gk - 1)
        case measure => omega
        case rel => exact ⟨i + 1, lo, lm, lp + 1, pcs, m, p ++ [x], _, _, _, _, _, _, by omega, hlo, hlm, by simp; omega, by omega, by omega, by omega, rfl, rfl, rfl, by go_num, HT.out, hS.sub sb9⟩
    · rw [spf_out xs i _ _ _ (by omega)] at hT
      have HT := hid hT
      clear hT
      repeat' (first
        | ((with_reducible apply gt9 _ (.move _)); (first | go_big_want | go_step); go_step) | ((with_reducible apply gt9 (some 11) (.call ⟨.builtin .len, _, _⟩)); (refine wvv9 (V.len Tryd.underlying34 rfl) ?_; go_step)) | ((with_reducible apply gt9 (some 12) (.binOp .lss _ _ _ _)); (refine wvv9 (V.lss rfl rfl) ?_; go_step)) | ((fail_if_success with_reducible apply ga9); go_step))
      repeat' (first
        | ((with_reducible apply gt9 _ (.move _)); (first | go_big_want | go_step); go_step) | ((with_reducible apply gt9 _ (.assign _)); (first | go_big_want | go_step); go_step) | ((with_reducible apply gt9 (some 64) (.buildSlice 37 _ _)); (refine wpl (by kernel_rfl) ?_; apply wp_buildSlice1 (o := ⟨some 64, _, _, _, _, _⟩) hS 37 1 _ rfl 34 1 24 el37 _ _; (case hvs => (repeat (first | exact Parts.nil | (apply Parts.agg; (rfl); (rfl)) | (apply Parts.one; exact isv9; (rfl); (rfl))))); (case hn => rfl); (case hn0 => decide); (case hns => decide); clear hS; intro g64 w hS; refine put_move ?_; go_step)) | ((with_reducible apply gt9 (some 65) (.call ⟨.builtin .append, _, _⟩)); (refine wpl (by kernel_rfl) ?_; apply wp_append (o := ⟨some 65, _, _, _, _, _⟩) hS _ _ 37 rfl 34 1 24 el37 _ _ _ _ rfl; (case hp => exact pl9); (case hx => exact rfl); (case hm => (first | exact hS.slBlk pl9 (by rfl) (by decide) | exact hS.sl pl9 | with_reducible assumption | exact Sl.ext (by with_reducible assumption) hS.1 | exact Sl.nil _ _ | exact Sl.ext (by assumption) hS.1 | assumption)); (case h1 => (first | exact oneAll rfl | exact oneMap _ _ | (intro u hu; cases hu))); (case h63 => unfold maxLen; omega); (case hb => omega); clear hS; intro ad65 c65 w hS; (first | simp only [mapk1] at hS | simp only [mapk2] at hS | simp only [mapk3] at hS | simp only [mapk4] at hS | simp only [mapkl] at hS | skip); refine put_move ?_; go_step)) | ((fail_if_success with_reducible apply ga9); go_step))
      refine ret_all (xs := [_, _, _]) rfl (.cons (OneRes.tmp rfl) (.cons (OneRes.tmp rfl) (.cons (OneRes.tmp rfl) (.nil)))) (by simp) rfl ?_
      subst hlp
      refine ⟨fun h => (by rw [← HT.out] at h; cases h), fun ps ms h => ?_⟩
      rw [← HT.out] at h
      cases h
      have h2 := (hS.sub (xs := [star (pcs.map Pc.res), own 5 1 ap p.length cp (p.map (Value.int .u8)), own 34 1 ad65 (lo + 1) c65 (pcs.map Pc.val ++ [.slice ap p.length cp]), own 3 1 am lm cm (m.map (Value.int .i64))]) sb9).starPut Pull.head
      refine ⟨pcs ++ [⟨ap, cp, p⟩], _, _, _, _, _, _, by simp; omega, hlm, by simp, rfl, ?_⟩
      rw [show (pcs ++ [(⟨ap, cp, p⟩ : Pc)]).map Pc.val = pcs.map Pc.val ++ [.slice ap p.length cp] by rw [List.map_append]; rfl, show (pcs ++ [(⟨ap, cp, p⟩ : Pc)]).map Pc.res = pcs.map Pc.res ++ [own 5 1 ap p.length cp (p.map (Value.int .u8))] by rw [List.map_append]; rfl]
      exact h2.sub sb9
end Go.Proofs.YtehbjhocgnfpmaaDoor

/- stuff.Plain: what it computes, and its walk. -/
namespace Go.Proofs.YtehbjhocgnfpmaaDoor
open Go.RowKit
set_option linter.unusedVariables false
theorem stf_nil : stf [] = [] := rfl
theorem stf_cons (x : Int) (l : List Int) : stf (x :: l) = (if x = 255 then [255, 0] else [x]) ++ stf l := by simp [stf, rep1]
theorem stf_inj : ∀ (a b : List Int), stf a = stf b → a = b
  | [], [], _ => rfl
  | [], y :: b, h => by rw [stf_nil, stf_cons] at h; split at h <;> simp at h
  | x :: a, [], h => by rw [stf_nil, stf_cons] at h; split at h <;> simp at h
  | x :: a, y :: b, h => by
    rw [stf_cons, stf_cons] at h
    by_cases hx : x = 255
    · by_cases hy : y = 255
      · rw [if_pos hx, if_pos hy] at h
        simp only [List.cons_append, List.nil_append, List.cons.injEq, true_and] at h
        rw [hx, hy, stf_inj a b h]
      · rw [if_pos hx, if_neg hy] at h
        simp only [List.cons_append, List.nil_append, List.cons.injEq] at h
        exact absurd h.1.symm hy
    · by_cases hy : y = 255
      · rw [if_neg hx, if_pos hy] at h
        simp only [List.cons_append, List.nil_append, List.cons.injEq] at h
        exact absurd h.1 hx
      · rw [if_neg hx, if_neg hy] at h
        simp only [List.cons_append, List.nil_append, List.cons.injEq] at h
        rw [h.1, stf_inj a b h.2]
theorem spf_stf : ∀ (c : List Int) (o : List (List Int)) (m p : List Int), spf (stf c) o m p = some (o ++ [p ++ stf c], m)
  | [], o, m, p => by rw [stf_nil, spf, List.append_nil]
  | x :: c, o, m, p => by
    rw [stf_cons]
    by_cases h : x = 255
    · subst h
      rw [if_pos rfl, spf.eq_def]
      simp only [List.cons_append, List.nil_append, if_true]
      rw [if_neg (by decide), spf_stf c]
      simp
    · rw [if_neg h, spf.eq_def]
      simp only [List.cons_append, List.nil_append]
      rw [if_neg h, spf_stf c]
      simp
/-- What splitting tells: the bytes are the pieces and marks; each piece is stuffed; no mark is 0 or 255. -/
theorem spf_spec : ∀ (k : Nat) (b : List Int) (o : List (List Int)) (m p : List Int) (ps : List (List Int)) (ms : List Int), b.length ≤ k → spf b o m p = some (ps, ms) →
    ∃ (q : List Int) (r : List (Int × List Int)), ps = o ++ ((p ++ q) :: r.map (·.2)) ∧ ms = m ++ r.map (·.1) ∧ b = q ++ r.flatMap (fun y => 255 :: y.1 :: y.2) ∧ (∃ c, q = stf c) ∧ ∀ y ∈ r, y.1 ≠ 0 ∧ y.1 ≠ 255 ∧ ∃ c, y.2 = stf c
  | k, [], o, m, p, ps, ms, hk, h => by
    rw [spf] at h
    cases h
    exact ⟨[], [], by simp, by simp, by simp, ⟨[], rfl⟩, fun y hy => by cases hy⟩
  | 0, x :: b, o, m, p, ps, ms, hk, h => by simp at hk
  | k + 1, x :: b, o, m, p, ps, ms, hk, h => by
    rw [spf.eq_def] at h
    dsimp only at h
    by_cases hx : x = 255
    · rw [if_pos hx] at h
      cases b with
      | nil => cases h
      | cons y b =>
        dsimp only at h
        by_cases h1 : y = 255
        · rw [if_pos h1] at h; cases h
        · rw [if_neg h1] at h
          by_cases h2 : y = 0
          · rw [if_pos h2] at h
            obtain ⟨q, r, e1, e2, e3, ⟨c, e4⟩, e5⟩ := spf_spec k b _ _ _ _ _ (by simp at hk; omega) h
            refine ⟨255 :: 0 :: q, r, by rw [e1]; simp, e2, by rw [hx, h2, e3]; simp, ⟨255 :: c, by rw [stf_cons, if_pos rfl, e4]; rfl⟩, e5⟩
          · rw [if_neg h2] at h
            obtain ⟨q, r, e1, e2, e3, e4, e5⟩ := spf_spec k b _ _ _ _ _ (by simp at hk; omega) h
            refine ⟨[], (y, q) :: r, by rw [e1]; simp, by rw [e2]; simp, by rw [hx, e3]; simp, ⟨[], rfl⟩, fun z hz => ?_⟩
            rcases List.mem_cons.1 hz with rfl | hz
            · exact ⟨h2, h1, e4⟩
            · exact e5 z hz
    · rw [if_neg hx] at h
      obtain ⟨q, r, e1, e2, e3, ⟨c, e4⟩, e5⟩ := spf_spec k b _ _ _ _ _ (by simp at hk; omega) h
      exact ⟨x :: q, r, by rw [e1]; simp, e2, by rw [e3]; simp, ⟨x :: c, by rw [stf_cons, if_neg hx, e4]; rfl⟩, e5⟩
theorem spf_plain {b : List Int} {ps : List (List Int)} (h : spf b [] [] [] = some (ps, [])) : ∃ c, b = stf c := by
  obtain ⟨q, r, e1, e2, e3, ⟨c, e4⟩, e5⟩ := spf_spec b.length b _ _ _ _ _ (Nat.le_refl _) h
  have hr : r = [] := by
    have := congrArg List.length e2
    simp at this
    exact List.eq_nil_of_length_eq_zero (by omega)
  subst hr
  exact ⟨c, by rw [e3, e4]; simp⟩
theorem byte_ne {x : Int} (hx : 0 ≤ x ∧ x < 256) (h : x ≠ 255) : ((255 : UInt8) == UInt8.ofNat x.toNat) = false := by
  rw [beq_eq_false_iff_ne]
  intro e
  have := congrArg UInt8.toNat e
  simp at this
  omega
theorem idx2 : ∀ (p T : List Int), (∀ x ∈ p, 0 ≤ x ∧ x < 256) → (255 : Int) ∉ p → Lib.index (Lib.bytesOf (p ++ 255 :: 0 :: T)) (Lib.bytesOf [255, 0]) = (p.length : Nat)
  | [], T, _, _ => by
    simp only [List.nil_append, Lib.bytesOf, List.map_cons, List.map_nil]
    unfold Lib.index
    rw [if_pos (by simp [List.isPrefixOf])]
    rfl
  | x :: p, T, h, hn => by
    have ih := idx2 p T (fun y hy => h y (by simp [hy])) (fun e => hn (by simp [e]))
    have hx : x ≠ 255 := fun e => hn (by simp [e])
    have hb := byte_ne (h x (by simp)) hx
    simp only [List.cons_append, Lib.bytesOf, List.map_cons, List.map_nil] at ih ⊢
    unfold Lib.index
    rw [if_neg, ih, if_neg]
    · simp
    · simp
    · simp only [List.isPrefixOf]
      have : (UInt8.ofNat (Int.toNat 255) == UInt8.ofNat x.toNat) = false := hb
      rw [this]; simp
theorem idx2_no : ∀ (p : List Int), (∀ x ∈ p, 0 ≤ x ∧ x < 256) → (255 : Int) ∉ p → Lib.index (Lib.bytesOf p) (Lib.bytesOf [255, 0]) = -1
  | [], _, _ => rfl
  | x :: p, h, hn => by
    have ih := idx2_no p (fun y hy => h y (by simp [hy])) (fun e => hn (by simp [e]))
    have hx : x ≠ 255 := fun e => hn (by simp [e])
    have hb := byte_ne (h x (by simp)) hx
    simp only [Lib.bytesOf, List.map_cons, List.map_nil] at ih ⊢
    unfold Lib.index
    rw [if_neg, ih]
    · rfl
    · simp only [List.isPrefixOf]
      have : (UInt8.ofNat (Int.toNat 255) == UInt8.ofNat x.toNat) = false := hb
      rw [this]; simp
theorem cnt2 : ∀ (ps : List (List Int)) (last : List Int) (f : Nat), (∀ p ∈ ps, (∀ x ∈ p, 0 ≤ x ∧ x < 256) ∧ (255 : Int) ∉ p) → (∀ x ∈ last, 0 ≤ x ∧ x < 256) → (255 : Int) ∉ last → ps.length < f →
    Lib.countFrom (Lib.bytesOf [255, 0]) f (Lib.bytesOf (ps.flatMap (· ++ [255, 0]) ++ last)) = ps.length
  | _, _, 0, _, _, _, hf => by omega
  | [], last, f + 1, _, h1, h2, _ => by
    simp only [List.flatMap_nil, List.nil_append]
    rw [Lib.countFrom, idx2_no last h1 h2]; rfl
  | p :: ps, last, f + 1, h, h1, h2, hf => by
    obtain ⟨k1, k2⟩ := h p (by simp)
    have e : (p :: ps).flatMap (· ++ [255, 0]) ++ last = p ++ 255 :: 0 :: (ps.flatMap (· ++ [255, 0]) ++ last) := by simp
    have e2 : (Lib.bytesOf (p ++ 255 :: 0 :: (ps.flatMap (· ++ [255, 0]) ++ last))).drop (((p.length : Nat) : Int).toNat + (Lib.bytesOf [255, 0]).length) = Lib.bytesOf (ps.flatMap (· ++ [255, 0]) ++ last) := by
      have e0 : p.length + 2 = (Lib.bytesOf (p ++ [255, 0])).length := by simp [Lib.bytesOf]
      have e3 : p ++ 255 :: 0 :: (ps.flatMap (· ++ [255, 0]) ++ last) = (p ++ [255, 0]) ++ (ps.flatMap (· ++ [255, 0]) ++ last) := by simp
      have e4 : ∀ a b : List Int, Lib.bytesOf (a ++ b) = Lib.bytesOf a ++ Lib.bytesOf b := fun a b => by simp [Lib.bytesOf]
      rw [Int.toNat_natCast, show (Lib.bytesOf [255, 0]).length = 2 from rfl, e0, e3, e4 (p ++ [255, 0]), List.drop_left' rfl]
    rw [e, Lib.countFrom, idx2 p _ k1 k2, e2, if_neg (by simp), cnt2 ps last f (fun q hq => h q (by simp [hq])) h1 h2 (by simp at hf; omega), List.length_cons]
    omega
theorem sp1_rng (b : Int) : ∀ (l : List Int), (∀ x ∈ l, 0 ≤ x ∧ x < 256) → (∀ p ∈ (sp1 b l).1, ∀ x ∈ p, 0 ≤ x ∧ x < 256) ∧ (∀ x ∈ (sp1 b l).2, 0 ≤ x ∧ x < 256) ∧ b ∉ (sp1 b l).2 := by
  intro l h
  obtain ⟨h1, _, h3, h4⟩ := sp1_spec b [] l
  have hm : ∀ p ∈ (sp1 b l).1, ∀ x ∈ p, x ∈ l := fun p hp x hx => by
    rw [← h1]; exact List.mem_append_left _ (List.mem_flatMap.2 ⟨p, hp, List.mem_append_left _ hx⟩)
  refine ⟨fun p hp x hx => h x (hm p hp x hx), fun x hx => h x (by rw [← h1]; exact List.mem_append_right _ hx), fun hb => ?_⟩
  have hc := congrArg (List.count b) h1
  rw [List.count_append] at hc
  have e : ∀ ps : List (List Int), (∀ p ∈ ps, b ∉ p) → (ps.flatMap (· ++ [b])).count b = ps.length := by
    intro ps
    induction ps with
    | nil => intro _; rfl
    | cons p ps ih =>
      intro hp
      rw [List.flatMap_cons, List.count_append, List.count_append, ih fun q hq => hp q (by simp [hq]), List.count_eq_zero.2 (hp p (by simp)), List.length_cons]
      simp; omega
  rw [e _ h4, h3] at hc
  have := List.count_pos_iff.2 hb
  omega
theorem ext_drewN {w w' : World} (h : ∃ q, w' = w.drewN q) : Ext w w' := by obtain ⟨q, rfl⟩ := h; exact (Ext.refl w).drewN
theorem cells_at {w : World} {a : Addr} {n c k : Nat} {xs : List Int} (hv : Sl w 1 (.slice (some a) n c) n (xs.map (Value.int .u8))) : n ≤ c ∧ c ≤ 9223372036854775807 := by
  obtain ⟨_, _, _, e, h1, h2, _⟩ := hv
  cases e
  unfold maxLen at h2
  exact ⟨h1, h2⟩
set_option maxRecDepth 100000 in
set_option maxHeartbeats 4000000 in
/-- bytes.ReplaceAll that turns a stuffed row back. -/
theorem unstuff_any (w0 : World) (a : Option Addr) (g1 g2 : Nat) (n c : Nat) (xs cc : List Int) (hs : Sl w0 1 (.slice a n c) n (xs.map (Value.int .u8))) (hnil : a = none → c = 0) (he : xs = stf cc)
    (ho : Sl w0 1 (.slice (some ⟨g1, 0, none⟩) 2 2) 2 (([255, 0] : List Int).map (Value.int .u8))) (hw : Sl w0 1 (.slice (some ⟨g2, 0, none⟩) 1 1) 1 (([255] : List Int).map (Value.int .u8)))
    (hx : ∀ x ∈ xs, 0 ≤ x ∧ x < 256) (hb1 : n ≤ 1000000000) (hml : ∃ m, w0.cell? ⟨0, 0, none⟩ = some (.int .i64 m)) :
    Calls Tryd.prog 43 #[.slice a n c, .slice (some ⟨g1, 0, none⟩) 2 2, .slice (some ⟨g2, 0, none⟩) 1 1] w0 fun e w => ∃ (ao : Option Addr) (c' : Nat), e = .returned (.slice ao cc.length c') ∧ St w0 w [own 5 1 ao cc.length c' (cc.map (Value.int .u8))] := by
  obtain ⟨ml, hml⟩ := hml
  have hxc : ∀ x ∈ cc, 0 ≤ x ∧ x < 256 := fun x hxm => by
    by_cases h : x = 255
    · omega
    · refine hx x ?_
      rw [he, stf, rep1, List.mem_flatMap]
      exact ⟨x, hxm, by rw [if_neg h]; simp⟩
  obtain ⟨h1, h2, h3, h4⟩ := sp1_spec 255 [255, 0] cc
  obtain ⟨r1, r2, r3⟩ := sp1_rng 255 cc hxc
  obtain ⟨ps, hps⟩ : ∃ ps, (sp1 255 cc).1 = ps := ⟨_, rfl⟩
  obtain ⟨last, hlast⟩ : ∃ l, (sp1 255 cc).2 = l := ⟨_, rfl⟩
  rw [hps, hlast] at h1 h2
  rw [hps] at h3 h4 r1
  rw [hlast] at r2 r3
  have h2' : ps.flatMap (· ++ [255, 0]) ++ last = xs := by rw [he]; exact h2
  have h5 := h2'
  rw [← pre_all] at h1 h2'
  have hln : xs.length = n := by have := hs.1; simpa using this
  have hadd : ∀ (g i : Nat), ((⟨g, 0, none⟩ : Addr).add i) = ⟨g, 0 + i, none⟩ := fun g i => Addr.add_mid ..
  have hmem : ∀ k (h : k < ps.length), ∃ T, xs.drop (pre [255, 0] ps k).length = ps[k] ++ 255 :: 0 :: T := fun k h => by
    obtain ⟨T, hT⟩ := pre_split [255, 0] ps k ps.length rfl h
    refine ⟨T ++ last, ?_⟩
    rw [← h2', hT, List.append_assoc, List.drop_left' rfl]
    simp
  have hpl : ps.length ≤ n := by
    have hq : ∀ qs : List (List Int), qs.length ≤ (qs.flatMap (· ++ [255, 0])).length := fun qs => by
      induction qs with
      | nil => exact Nat.le_refl _
      | cons q qs ih => rw [List.flatMap_cons, List.length_append, List.length_append, List.length_cons, List.length_cons]; omega
    have := hq ps
    have e := congrArg List.length h5
    rw [List.length_append] at e
    omega
  have HC : Veil3 (∀ w, Ext w0 w → Calls Tryd.prog 79 #[.slice a n c, .slice (some ⟨g1, 0, none⟩) 2 2] w fun e w' => e = .returned (.int .i64 (ps.length : Nat)) ∧ Ext w w') := ⟨fun w hE => by
    cases a with
    | none =>
      have hc0 := hnil rfl
      subst hc0
      have hn0 : n = 0 := by obtain ⟨_, _, _, h1, h2, _⟩ := hs; cases h1; omega
      subst hn0
      have : ps.length = 0 := by omega
      rw [this]
      exact (Tryd.bytes_Count_nil (some ⟨g1, 0, none⟩) 2 2 w (by decide) (by decide)).mono fun e w' ⟨e1, e2⟩ => ⟨e1, e2 ▸ Ext.refl _⟩
    | some a =>
      obtain ⟨c1, c2⟩ := cells_at (k := 0) (hs.ext hE)
      refine (Tryd.bytes_Count_at a ⟨g1, 0, none⟩ n c 2 2 xs [255, 0] ml w hln rfl hx (by intro y hy; simp at hy; rcases hy with rfl | rfl <;> omega) (cell_at (hs.ext hE)) (cell_at (ho.ext hE)) c1 (by omega) (by decide) (by decide) (hE.cell hml)).mono fun e w' ⟨e1, e2⟩ => ⟨?_, ext_drewN e2⟩
      rw [e1]
      have : Lib.count (Lib.bytesOf xs) (Lib.bytesOf [255, 0]) = ps.length := by
        rw [← h5, Lib.count]
        refine cnt2 ps last _ (fun p hp => ⟨r1 p hp, h4 p hp⟩) r2 r3 ?_
        rw [h5]; simp [Lib.bytesOf]; omega
      rw [this]⟩
  have HI : Veil3 (∀ k (h : k < ps.length) w, Ext w0 w → Calls Tryd.prog 80 #[.slice (cutAt a c (pre [255, 0] ps k).length 1) (n - (pre [255, 0] ps k).length) (c - (pre [255, 0] ps k).length), .slice (some ⟨g1, 0, none⟩) 2 2] w fun e w' => e = .returned (.int .i64 (ps[k].length : Nat)) ∧ Ext w w') := ⟨fun k h w hE => by
    obtain ⟨T, hT⟩ := hmem k h
    have hle : (pre [255, 0] ps k).length ≤ n := by
      have := pre_le [255, 0] ps k ps.length (by omega)
      have h6 := congrArg List.length h2'
      rw [List.length_append] at h6
      omega
    have hsl := (hs.ext hE).cutAt (pre [255, 0] ps k).length n hle (Nat.le_refl _)
    have h6 : ((xs.map (Value.int .u8)).drop ((pre [255, 0] ps k).length * 1)).take ((n - (pre [255, 0] ps k).length) * 1) = (ps[k] ++ 255 :: 0 :: T).map (Value.int .u8) := by
      rw [Nat.mul_one, Nat.mul_one, ← List.map_drop, ← List.map_take, List.take_of_length_le (by rw [List.length_drop]; omega), hT]
    rw [h6] at hsl
    have hlen := hsl.1
    have hrng : ∀ x ∈ ps[k] ++ 255 :: 0 :: T, 0 ≤ x ∧ x < 256 := fun x hxm => hx x (by rw [← hT] at hxm; exact List.mem_of_mem_drop hxm)
    cases hca : cutAt a c (pre [255, 0] ps k).length 1 with
    | none =>
      rw [hca] at hsl
      obtain ⟨_, _, _, k1, k2, k3, k4⟩ := hsl
      cases k1
      rcases k4 with k4 | ⟨_, _, k4, _⟩
      · simp at hlen; omega
      · cases k4
    | some a1 =>
      rw [hca] at hsl
      obtain ⟨c1, c2⟩ := cells_at (k := 0) hsl
      refine (Tryd.bytes_Index_at a1 ⟨g1, 0, none⟩ _ _ 2 2 (ps[k] ++ 255 :: 0 :: T) [255, 0] ml w (by simpa using hlen) rfl hrng (by intro y hy; simp at hy; rcases hy with rfl | rfl <;> omega) (cell_at hsl) (cell_at (ho.ext hE)) c1 (by omega) (by decide) (hE.cell hml)).mono fun e w' ⟨e1, e2⟩ => ⟨?_, ext_drewN e2⟩
      rw [e1, idx2 ps[k] T (fun x hxm => r1 _ (List.getElem_mem h) x hxm) (h4 _ (List.getElem_mem h))]⟩
  have HRp := replace_any w0 a (some ⟨g1, 0, none⟩) (some ⟨g2, 0, none⟩) n c 2 2 1 1 ps.length ps last [255, 0] [255] rfl (h2'.symm ▸ hs) ho hw (by decide) hb1 (by decide) (by decide) HC HI
  rw [h1] at HRp
  have HRv : Veil3 _ := ⟨HRp⟩
  have hS := St.start w0
  clear HC HI HRp hmem h1 h2 h2' h3 h4 h5 hps hlast r1 r2 r3 hx hxc he hpl
  go_enter Tryd.func43, Tryd.ntmps43
  repeat' (first
    | ((with_reducible apply gt9 _ (.call ⟨.value (.func 60), _, _⟩)); refine wpl_call (f := 60) Tryd.call60 (by kernel_rfl) ?_; refine ⟨_, (HRv.out), ?_⟩; rintro e w ⟨ao, c', rfl, hS2⟩; replace hS := hS2; clear hS2; refine ⟨_, rfl, ?_⟩; refine put_move ?_; go_step) | ((with_reducible apply gt9 _ (.move _)); (first | go_big_want | go_step); go_step) | ((with_reducible apply gt9 _ (.assign _)); (first | go_big_want | go_step); go_step) | ((fail_if_success with_reducible apply ga9); go_step))
  go_ret
  exact ⟨ao, c', rfl, hS⟩
set_option maxRecDepth 100000 in
set_option maxHeartbeats 4000000 in
theorem plain_any (w0 : World) (a : Option Addr) (n c : Nat) (xs : List Int) (hs : Sl w0 1 (.slice a n c) n (xs.map (Value.int .u8))) (hnil : a = none → c = 0) (hx : ∀ x ∈ xs, 0 ≤ x ∧ x < 256) (hb1 : n ≤ 1000000000) (hml : ∃ m, w0.cell? ⟨0, 0, none⟩ = some (.int .i64 m)) :
    Calls Tryd.prog 20 #[.slice a n c] w0 fun e w => (∀ cc, xs = stf cc → ∃ (ao : Option Addr) (c' : Nat), e = .returned (.tuple #[.slice ao cc.length c', .int .i64 0]) ∧ St w0 w [own 5 1 ao cc.length c' (cc.map (Value.int .u8))]) ∧
      ((∀ cc, xs ≠ stf cc) → e = .returned (.tuple #[.slice none 0 0, .int .i64 4]) ∧ Ext w0 w) := by
  have hS := St.start w0
  have HSP := hid (split_any w0 a n c xs hs hx hb1)
  obtain ⟨T, hT⟩ : ∃ T, spf xs [] [] [] = T := ⟨_, rfl⟩
  rw [hT] at HSP
  have HX : Veil3 (∀ x ∈ xs, 0 ≤ x ∧ x < 256) := ⟨hx⟩
  have HML : Veil3 _ := ⟨hml⟩
  clear hx hml
  cases T with
  | none =>
    have hno : ∀ cc, xs ≠ stf cc := fun cc e => by rw [e, spf_stf] at hT; cases hT
    have HNO : Veil3 _ := ⟨hno⟩
    clear hno hT
    go_enter Tryd.func20, Tryd.ntmps20
    repeat' (first
      | ((with_reducible apply gt9 _ (.call ⟨.value (.func 19), _, _⟩)); refine wpl_call (f := 19) Tryd.call19 (by kernel_rfl) ?_; refine ⟨_, (HSP.out), ?_⟩; rintro e w ⟨hR1, -⟩; obtain ⟨rfl, hE⟩ := hR1 rfl; clear hR1; replace hS := hS.ext hE; clear hE; refine ⟨_, rfl, ?_⟩; refine put_move ?_; go_step) | go_skip | ((with_reducible apply gt9 _ (.move _)); (first | go_big_want | go_step); go_step) | ((with_reducible apply gt9 _ (.assign _)); (first | go_big_want | go_step); go_step) | ((with_reducible apply gt9 _ (.pick _ _ _)); (refine wplPickF rfl (by kernel_rfl) ?_; go_step)) | ((with_reducible apply gt9 (some 14) (.binOp .eql 25 _ _ _)); (refine wplD _ (V.eql rfl rfl) (by kernel_rfl) (fun hB => ?_) (fun hB => ?_) <;> (try (have hF : False := (by omega); cases hF)) <;> go_step)) | ((with_reducible apply gt9 (some 10) (.extract _ _)); (refine wvv9 (V.extract rfl rfl) ?_; go_step)) | ((with_reducible apply gt9 (some 11) (.extract _ _)); (refine wvv9 (V.extract rfl rfl) ?_; go_step)) | ((with_reducible apply gt9 (some 12) (.extract _ _)); (refine wvv9 (V.extract rfl rfl) ?_; go_step)) | ((fail_if_success with_reducible apply ga9); go_step))
    all_goals
      repeat' (first
        | ((with_reducible apply gt9 _ (.move _)); (first | go_big_want | go_step); go_step) | ((with_reducible apply gt9 _ (.assign _)); (first | go_big_want | go_step); go_step) | ((with_reducible apply gt9 (some 21) (.binOp .neq 25 _ _ _)); (refine wvv9 (V.neq rfl rfl) ?_; go_step)) | ((fail_if_success with_reducible apply ga9); go_step))
    all_goals
      refine ret_all (xs := [_, _]) rfl (.cons (OneRes.tmp rfl) (.cons (OneRes.tmp rfl) (.nil))) (by simp) rfl ?_
      exact ⟨fun cc e => absurd e (HNO.out cc), fun _ => ⟨rfl, hS.1⟩⟩
  | some T =>
    obtain ⟨ps, ms⟩ := T
    by_cases hm : ms = []
    · subst hm
      obtain ⟨cc, he⟩ := spf_plain hT
      have HE := hid he
      clear hT he
      go_enter Tryd.func20, Tryd.ntmps20
      repeat' (first
        | ((with_reducible apply gt9 _ (.call ⟨.value (.func 19), _, _⟩)); refine wpl_call (f := 19) Tryd.call19 (by kernel_rfl) ?_; refine ⟨_, (HSP.out), ?_⟩; rintro e w ⟨-, hR1⟩; obtain ⟨pcs, ao, am, co, cm, lo, lm, hlo, hlm, -, rfl, hS2⟩ := hR1 ps [] rfl; clear hR1; rw [List.length_nil] at hlm; subst hlm; replace hS := hS.call hS2; clear hS2; simp only [List.cons_append, List.nil_append] at hS; refine ⟨_, rfl, ?_⟩; refine put_move ?_; go_step) | ((with_reducible apply gt9 _ (.move _)); (first | go_big_want | go_step); go_step) | ((with_reducible apply gt9 _ (.assign _)); (first | go_big_want | go_step); go_step) | ((with_reducible apply gt9 _ (.pick _ _ _)); (refine wplPickT rfl (by kernel_rfl) ?_; go_step)) | ((with_reducible apply gt9 (some 14) (.binOp .eql 25 _ _ _)); (refine wplD _ (V.eql rfl rfl) (by kernel_rfl) (fun hB => ?_) (fun hB => ?_) <;> (try (have hF : False := (by omega); cases hF)) <;> go_step)) | ((with_reducible apply gt9 (some 10) (.extract _ _)); (refine wvv9 (V.extract rfl rfl) ?_; go_step)) | ((with_reducible apply gt9 (some 11) (.extract _ _)); (refine wvv9 (V.extract rfl rfl) ?_; go_step)) | ((with_reducible apply gt9 (some 12) (.extract _ _)); (refine wvv9 (V.extract rfl rfl) ?_; go_step)) | ((with_reducible apply gt9 (some 17) (.call ⟨.builtin .len, _, _⟩)); (refine wvv9 (V.len Tryd.underlying24 rfl) ?_; go_step)) | ((with_reducible apply gt9 (some 18) (.binOp .gtr _ _ _ _)); (refine wvv9 (V.gtr rfl rfl) ?_; go_step)) | ((fail_if_success with_reducible apply ga9); go_step))
      all_goals
        repeat' (first
          | ((with_reducible apply gt9 _ (.move _)); (first | go_big_want | go_step); go_step) | ((with_reducible apply gt9 (some 21) (.binOp .neq 25 _ _ _)); (refine wvv9 (V.neq rfl rfl) ?_; go_step)) | ((fail_if_success with_reducible apply ga9); go_step))
      all_goals
        repeat' (first
          | ((with_reducible apply gt9 _ (.call ⟨.value (.func 43), _, _⟩)); refine wpl_call (f := 43) Tryd.call43 (by kernel_rfl) ?_; refine ⟨_, (unstuff_any _ a _ _ n c xs cc (hs.ext hS.1) hnil HE.out (hS.slBlk (n := 2) (cs := [.int .u8 255, .int .u8 0]) pl9 (by rfl) (by decide)) (hS.slBlk (n := 1) (cs := [.int .u8 255]) pl9 (by rfl) (by decide)) HX.out hb1 (HML.out.imp fun m h => hS.1.cell h)), ?_⟩; rintro e w ⟨ao, c', rfl, hS2⟩; replace hS := hS.call1 hS2; clear hS2; refine ⟨_, rfl, ?_⟩; refine put_move ?_; go_step) | ((with_reducible apply gt9 _ (.assign _)); (first | go_big_want | go_step); go_step) | ((with_reducible apply gt9 (some 24) (.buildSlice 34 _ _)); (refine wpl (by kernel_rfl) ?_; apply wp_buildSlice1 (o := ⟨some 24, _, _, _, _, _⟩) hS 34 2 _ rfl 5 1 1 el34 _ _; (case hvs => (repeat (first | exact Parts.nil | (apply Parts.agg; (rfl); (rfl)) | (apply Parts.one; exact isv9; (rfl); (rfl))))); (case hn => rfl); (case hn0 => decide); (case hns => decide); clear hS; intro g24 w hS; refine put_move ?_; go_step)) | ((with_reducible apply gt9 (some 25) (.buildSlice 34 _ _)); (refine wpl (by kernel_rfl) ?_; apply wp_buildSlice1 (o := ⟨some 25, _, _, _, _, _⟩) hS 34 1 _ rfl 5 1 1 el34 _ _; (case hvs => (repeat (first | exact Parts.nil | (apply Parts.agg; (rfl); (rfl)) | (apply Parts.one; exact isv9; (rfl); (rfl))))); (case hn => rfl); (case hn0 => decide); (case hns => decide); clear hS; intro g25 w hS; refine put_move ?_; go_step)) | ((fail_if_success with_reducible apply ga9); go_step))
      all_goals
        refine ret_all (xs := [_, _]) rfl (.cons (OneRes.tmp rfl) (.cons (OneRes.tmp rfl) (.nil))) (by simp) rfl ?_
        refine ⟨fun cc2 e => ?_, fun h => absurd HE.out (h cc)⟩
        obtain rfl := stf_inj _ _ (HE.out.symm.trans e)
        exact ⟨_, _, rfl, hS.sub sb9⟩
    · have hno : ∀ cc, xs ≠ stf cc := fun cc e => by rw [e, spf_stf] at hT; cases hT; exact hm rfl
      have HNO : Veil3 _ := ⟨hno⟩
      have hml2 : 0 < ms.length := List.length_pos_iff.2 hm
      clear hno hT hm
      go_enter Tryd.func20, Tryd.ntmps20
      repeat' (first
        | ((with_reducible apply gt9 _ (.call ⟨.value (.func 19), _, _⟩)); refine wpl_call (f := 19) Tryd.call19 (by kernel_rfl) ?_; refine ⟨_, (HSP.out), ?_⟩; rintro e w ⟨-, hR1⟩; obtain ⟨pcs, ao, am, co, cm, lo, lm, hlo, hlm, -, rfl, hS2⟩ := hR1 ps ms rfl; clear hR1; replace hS := hS.call hS2; clear hS2; simp only [List.cons_append, List.nil_append] at hS; refine ⟨_, rfl, ?_⟩; refine put_move ?_; go_step) | ((with_reducible apply gt9 _ (.move _)); (first | go_big_want | go_step); go_step) | ((with_reducible apply gt9 _ (.assign _)); (first | go_big_want | go_step); go_step) | ((with_reducible apply gt9 _ (.pick _ _ _)); (refine wplPickT rfl (by kernel_rfl) ?_; go_step)) | ((with_reducible apply gt9 (some 14) (.binOp .eql 25 _ _ _)); (refine wplD _ (V.eql rfl rfl) (by kernel_rfl) (fun hB => ?_) (fun hB => ?_) <;> (try (have hF : False := (by omega); cases hF)) <;> go_step)) | ((with_reducible apply gt9 (some 10) (.extract _ _)); (refine wvv9 (V.extract rfl rfl) ?_; go_step)) | ((with_reducible apply gt9 (some 11) (.extract _ _)); (refine wvv9 (V.extract rfl rfl) ?_; go_step)) | ((with_reducible apply gt9 (some 12) (.extract _ _)); (refine wvv9 (V.extract rfl rfl) ?_; go_step)) | ((with_reducible apply gt9 (some 17) (.call ⟨.builtin .len, _, _⟩)); (refine wvv9 (V.len Tryd.underlying24 rfl) ?_; go_step)) | ((with_reducible apply gt9 (some 18) (.binOp .gtr _ _ _ _)); (refine wvv9 (V.gtr rfl rfl) ?_; go_step)) | ((fail_if_success with_reducible apply ga9); go_step))
      all_goals
        repeat' (first
          | ((with_reducible apply gt9 _ (.move _)); (first | go_big_want | go_step); go_step) | ((with_reducible apply gt9 _ (.assign _)); (first | go_big_want | go_step); go_step) | ((with_reducible apply gt9 (some 21) (.binOp .neq 25 _ _ _)); (refine wvv9 (V.neq rfl rfl) ?_; go_step)) | ((fail_if_success with_reducible apply ga9); go_step))
      all_goals
        refine ret_all (xs := [_, _]) rfl (.cons (OneRes.tmp rfl) (.cons (OneRes.tmp rfl) (.nil))) (by simp) rfl ?_
        exact ⟨fun cc e => absurd e (HNO.out cc), fun _ => ⟨rfl, hS.1⟩⟩
end Go.Proofs.YtehbjhocgnfpmaaDoor

/- The walk of seg.Encode. -/
namespace Go.Proofs.YtehbjhocgnfpmaaDoor
open Go.RowKit
set_option maxRecDepth 100000
set_option linter.unusedVariables false
/-- A token's bits. -/
def tkBits (L1 L2 : List (Int × Nat × Nat)) (x : Tok × Bool) : List Bool := wb (if x.2 then L1 else L2) x.1.1 ++ bitsOf x.1.2.1.toNat x.1.2.2.toNat
def encStep (L1 L2 : List (Int × Nat × Nat)) (bs : List Bool) (t : Tok) (b : Bool) : Int × List Bool := if (symW (if b then L1 else L2) t.1).isSome then (0, bs ++ tkBits L1 L2 (t, b)) else (5, bs)
theorem of_any (W w0 : World) (rs rs' : List Res) (g g1 g2 : Nat) (b : Bool) (hS : St W w0 rs) (hp : Pull (blk g [.pointer (some ⟨g1, 0, none⟩), .pointer (some ⟨g2, 0, none⟩)]) rs rs') :
    Calls Tryd.prog 39 #[.pointer (some ⟨g, 0, none⟩), .bool b] w0 fun e w => e = .returned (.pointer (some ⟨if b then g1 else g2, 0, none⟩)) ∧ Ext w0 w := by
  have h0 := St.start w0
  have hc := (hS.blk hp).1
  have c0 : w0.cell? ⟨g, 0, none⟩ = some (.pointer (some ⟨g1, 0, none⟩)) := by rw [hc.cell]; rfl
  have c1 : w0.cell? ⟨g, 1, none⟩ = some (.pointer (some ⟨g2, 0, none⟩)) := by rw [hc.cell]; rfl
  clear hS hc hp
  have hS := h0
  clear h0
  cases b
  · go_enter Tryd.func39, Tryd.ntmps39
    repeat' (first
      | ((with_reducible apply gt9 _ (.move _)); (first | go_big_want | go_step); go_step) | ((with_reducible apply gt9 _ (.assign _)); (first | go_big_want | go_step); go_step) | ((fail_if_success with_reducible apply ga9); go_step))
    repeat' (first
      | ((with_reducible apply gt9 _ (.assign _)); (first | go_big_want | go_step); go_step) | ((with_reducible apply gt9 _ (.nilCheck _)); (refine wvv9 (V.nilCheck rfl) ?_; go_step)) | ((with_reducible apply gt9 _ (.fieldAddr 120 _ 1)); (refine wvv9 (V.fieldAddr fo120_1 rfl nq9) ?_; go_step)) | ((with_reducible apply gt9 _ (.load 79 _)); (refine wpl (by kernel_rfl) ?_; apply wp_loadW hS 79 _ rfl _ rfl (one_of rfl) _; (case hc => with_reducible assumption); refine put_move ?_; go_step)) | ((fail_if_success with_reducible apply ga9); go_step))
    all_goals (go_ret; exact ⟨rfl, hS.1⟩)
  · go_enter Tryd.func39, Tryd.ntmps39
    repeat' (first
      | ((with_reducible apply gt9 _ (.move _)); (first | go_big_want | go_step); go_step) | ((with_reducible apply gt9 _ (.assign _)); (first | go_big_want | go_step); go_step) | ((with_reducible apply gt9 _ (.nilCheck _)); (refine wvv9 (V.nilCheck rfl) ?_; go_step)) | ((with_reducible apply gt9 _ (.fieldAddr 120 _ 0)); (refine wvv9 (V.fieldAddr fo120_0 rfl nq9) ?_; go_step)) | ((with_reducible apply gt9 _ (.load 79 _)); (refine wpl (by kernel_rfl) ?_; apply wp_loadW hS 79 _ rfl _ rfl (one_of rfl) _; (case hc => with_reducible assumption); refine put_move ?_; go_step)) | ((fail_if_success with_reducible apply ga9); go_step))
    all_goals (go_ret; exact ⟨rfl, hS.1⟩)
/-- What the encoding closure has. -/
def encR (g6 g8 gc gw : Nat) (L1 L2 : List (Int × Nat × Nat)) (bs : List Bool) : Res := star [blk g6 [.pointer (some ⟨gc, 0, none⟩)], blk g8 [.pointer (some ⟨gw, 0, none⟩)], cdr gc L1 L2, wr gw bs]
set_option maxHeartbeats 4000000 in
theorem encClo_any (W w0 : World) (rs rs' : List Res) (g6 g8 gc gw : Nat) (L1 L2 : List (Int × Nat × Nat)) (bs : List Bool) (t0 t1 t2 : Int) (b : Bool) (hL1 : Good L1) (hL2 : Good L2) (hS : St W w0 rs) (hp : Pull (encR g6 g8 gc gw L1 L2 bs) rs rs') (hb : bs.length ≤ 1000000000) (ht : okT (t0, t1, t2)) :
    Calls Tryd.prog 38 #[.agg #[.int .i64 t0, .int .i64 t1, .int .i64 t2], .bool b, .pointer (some ⟨g6, 0, none⟩), .pointer (some ⟨g8, 0, none⟩)] w0 fun e w => e = .returned (.int .i64 (encStep L1 L2 bs (t0, t1, t2) b).1) ∧ St W w (encR g6 g8 gc gw L1 L2 (encStep L1 L2 bs (t0, t1, t2) b).2 :: rs') := by
  obtain ⟨_, hS⟩ := (hS.pull hp).open
  obtain ⟨⟨g1, g2⟩, hS⟩ := (hS.pull (.tail (.tail .head))).open
  replace hS : St W w0 (blk gc [.pointer (some ⟨g1, 0, none⟩), .pointer (some ⟨g2, 0, none⟩)] :: cod g1 L1 :: cod g2 L2 :: blk g6 [.pointer (some ⟨gc, 0, none⟩)] :: blk g8 [.pointer (some ⟨gw, 0, none⟩)] :: wr gw bs :: rs') := hS
  clear hp
  obtain ⟨h1, h2, h3, h4⟩ := ht
  dsimp only at h1 h2 h3 h4
  obtain ⟨k, rfl⟩ : ∃ k : Nat, t1 = (k : Int) := ⟨t1.toNat, by omega⟩
  obtain ⟨v, rfl⟩ : ∃ v : Nat, t2 = (v : Int) := ⟨t2.toNat, by omega⟩
  have hv : v < 2 ^ k := by rw [Int.toNat_natCast] at h4; exact_mod_cast h4
  clear h4 h3
  obtain ⟨L, hL⟩ : ∃ L, (if b then L1 else L2) = L := ⟨_, rfl⟩
  obtain ⟨gb, hgb⟩ : ∃ x, (if b then g1 else g2) = x := ⟨_, rfl⟩
  have hGL : Good L := by rw [← hL]; cases b <;> assumption
  have HL := hid hL
  have HGB := hid hgb
  have HLen := hid (wb_len hGL t0)
  obtain ⟨r2, hS2, hC⟩ : ∃ r2, St W w0 (cod gb L :: r2 :: blk gc [.pointer (some ⟨g1, 0, none⟩), .pointer (some ⟨g2, 0, none⟩)] :: blk g6 [.pointer (some ⟨gc, 0, none⟩)] :: blk g8 [.pointer (some ⟨gw, 0, none⟩)] :: wr gw bs :: rs') ∧ ∀ w rs, St W w (cod gb L :: r2 :: blk gc [.pointer (some ⟨g1, 0, none⟩), .pointer (some ⟨g2, 0, none⟩)] :: rs) → St W w (cdr gc L1 L2 :: rs) := by
    cases b
    · obtain rfl : L2 = L := by simpa using hL
      obtain rfl : g2 = gb := by simpa using hgb
      refine ⟨cod g1 L1, hS.sub sb9, fun w rs h => St.close (g1, g2) ?_⟩
      dsimp only [List.cons_append, List.nil_append]
      exact h.sub sb9
    · obtain rfl : L1 = L := by simpa using hL
      obtain rfl : g1 = gb := by simpa using hgb
      refine ⟨cod g2 L2, hS.sub sb9, fun w rs h => St.close (g1, g2) ?_⟩
      dsimp only [List.cons_append, List.nil_append]
      exact h.sub sb9
  clear hS hL hgb
  have hS := hS2
  have HC := hid hC
  clear hS2 hC
  obtain ⟨I, hI⟩ : ∃ I, (symW L t0).isSome = I := ⟨_, rfl⟩
  have HI := hid hI
  cases I
  · have HR := hid (show encStep L1 L2 bs (t0, (k : Int), (v : Int)) b = (5, bs) by unfold encStep; dsimp only; rw [HL.out, hI]; rfl)
    clear hI
    go_enter Tryd.func38, Tryd.ntmps38
    repeat' (first
      | ((with_reducible apply gt9 _ (.assign _)); (first | go_big_want | go_step); go_step) | ((with_reducible apply gt9 (some 4) (.box 69 _)); (refine wpl (by kernel_rfl) ?_; apply wp_boxG (o := ⟨some 4, _, _, _, _, _⟩) hS 69 _ rfl _ rfl; clear hS; intro g4 w hS; refine put_move ?_; go_step)) | ((fail_if_success with_reducible apply ga9); go_step))
    refine drawn_lit [6] (fun w => St W w [blk g6 [.pointer (some ⟨gc, 0, none⟩)], blk g8 [.pointer (some ⟨gw, 0, none⟩)], blk g4 [.int .i64 t0, .int .i64 (k : Nat), .int .i64 (v : Nat)]]) (by kernel_rfl) ?_
    replace hS := hS.drew
    focus
      apply takeS 0 al9 (by kernel_rfl) (by kernel_rfl) (by kernel_rfl) (by exact fun _ _ _ _ h => h) [2, 6, 7] (by kernel_rfl) (hS.sub sb9)
      case hfr => intro w hS; ((refine wpl (by kernel_rfl) ?_; apply wp_load1 hS 72 _ rfl _ _ rfl (one_of rfl) _; (case hp => exact pl9); (case hc => rfl); refine put_move ?_; go_step)); refine wpList_nil ?_; exact ⟨rfl, rfl⟩
      case hd => rfl
      refine takeM 1 _ al9 (by kernel_rfl) (by kernel_rfl) (by kernel_rfl) (by exact fun _ _ _ _ h => h) rfl ?_
      go_step
      apply takeS 3 al9 (by kernel_rfl) (by kernel_rfl) (by kernel_rfl) (by exact fun _ _ _ _ h => h) [6, 7] (by kernel_rfl) (hS.sub sb9)
      case hfr => intro w hS; ((refine wpl (by kernel_rfl) ?_; apply wp_load1 hS 75 _ rfl _ _ rfl (one_of rfl) _; (case hp => exact pl9); (case hc => rfl); refine put_move ?_; go_step)); refine wpList_nil ?_; exact ⟨rfl, rfl⟩
      case hd => rfl
      (refine takeV 4 _ al9 (by kernel_rfl) (by kernel_rfl) (by kernel_rfl) (by exact fun _ _ _ _ h => h) (V.fieldAddr fo69_0 rfl nq9) rfl ?_)
      go_step
      apply takeS 5 al9 (by kernel_rfl) (by kernel_rfl) (by kernel_rfl) (by exact fun _ _ _ _ h => h) [6, 7] (by kernel_rfl) (hS.sub sb9)
      case hfr => intro w hS; ((refine wpl (by kernel_rfl) ?_; apply wp_load1 hS 3 _ rfl _ _ rfl (one_of rfl) _; (case hp => exact pl9); (case hc => rfl); refine put_move ?_; go_step)); refine wpList_nil ?_; exact ⟨rfl, rfl⟩
      case hd => rfl
      refine branch1 2 al9 rfl (by kernel_rfl) ?_
      refine wp_callF (f := 39) rfl Tryd.call39 (of_any W _ _ _ gc g1 g2 b hS pl9) ?_; rintro e w ⟨rfl, hE⟩; replace hS := hS.ext hE; clear hE; rw [HGB.out]; refine ⟨_, rfl, ?_⟩
      refine ⟨fun _ _ => hS.sub sb9, ?_⟩
      refine drawn_move ?_
      go_step
      refine branch1 6 al9 rfl (by kernel_rfl) ?_
      refine wp_callF (f := 40) rfl Tryd.call40 (codPut_any W _ _ _ _ gb gw L bs t0 hGL hS pl9 pl9 (by omega)) ?_; clear hS; rintro e w ⟨rfl, hS⟩; rw [HI.out]; refine ⟨_, rfl, ?_⟩
      refine ⟨fun h => absurd (by decide) h, ?_⟩
      refine drawn_move ?_
      go_step
      (refine takeV 7 _ al9 (by kernel_rfl) (by kernel_rfl) (by kernel_rfl) (by exact fun _ _ _ _ h => h) (V.not rfl) rfl ?_)
      go_step
      refine drawn_done (by kernel_rfl) ?_ _
    all_goals
      repeat' (first
        | ((with_reducible apply gt9 _ (.assign _)); (first | go_big_want | go_step); go_step) | ((fail_if_success with_reducible apply ga9); go_step))
      go_ret
      rw [HR.out]
      have hwb : wb L t0 = [] := by unfold wb; cases hs : symW L t0 with
        | none => rfl
        | some y => have := HI.out; rw [hs] at this; cases this
      rw [hwb, List.append_nil] at hS
      refine ⟨rfl, St.close () ?_⟩
      dsimp only [List.cons_append, List.nil_append]
      exact (HC.out _ _ (hS.sub (xs := cod gb L :: r2 :: blk gc [.pointer (some ⟨g1, 0, none⟩), .pointer (some ⟨g2, 0, none⟩)] :: blk g6 [.pointer (some ⟨gc, 0, none⟩)] :: blk g8 [.pointer (some ⟨gw, 0, none⟩)] :: wr gw bs :: rs') sb9)).sub sb9
  · have HR := hid (show encStep L1 L2 bs (t0, (k : Int), (v : Int)) b = (0, bs ++ (wb L t0 ++ bitsOf k v)) by unfold encStep tkBits; dsimp only; rw [HL.out, hI, Int.toNat_natCast, Int.toNat_natCast]; rfl)
    clear hI
    go_enter Tryd.func38, Tryd.ntmps38
    repeat' (first
      | ((with_reducible apply gt9 _ (.assign _)); (first | go_big_want | go_step); go_step) | ((with_reducible apply gt9 (some 4) (.box 69 _)); (refine wpl (by kernel_rfl) ?_; apply wp_boxG (o := ⟨some 4, _, _, _, _, _⟩) hS 69 _ rfl _ rfl; clear hS; intro g4 w hS; refine put_move ?_; go_step)) | ((fail_if_success with_reducible apply ga9); go_step))
    refine drawn_lit [6] (fun w => St W w [blk g6 [.pointer (some ⟨gc, 0, none⟩)], blk g8 [.pointer (some ⟨gw, 0, none⟩)], blk g4 [.int .i64 t0, .int .i64 (k : Nat), .int .i64 (v : Nat)]]) (by kernel_rfl) ?_
    replace hS := hS.drew
    focus
      apply takeS 0 al9 (by kernel_rfl) (by kernel_rfl) (by kernel_rfl) (by exact fun _ _ _ _ h => h) [2, 6, 7] (by kernel_rfl) (hS.sub sb9)
      case hfr => intro w hS; ((refine wpl (by kernel_rfl) ?_; apply wp_load1 hS 72 _ rfl _ _ rfl (one_of rfl) _; (case hp => exact pl9); (case hc => rfl); refine put_move ?_; go_step)); refine wpList_nil ?_; exact ⟨rfl, rfl⟩
      case hd => rfl
      refine takeM 1 _ al9 (by kernel_rfl) (by kernel_rfl) (by kernel_rfl) (by exact fun _ _ _ _ h => h) rfl ?_
      go_step
      apply takeS 3 al9 (by kernel_rfl) (by kernel_rfl) (by kernel_rfl) (by exact fun _ _ _ _ h => h) [6, 7] (by kernel_rfl) (hS.sub sb9)
      case hfr => intro w hS; ((refine wpl (by kernel_rfl) ?_; apply wp_load1 hS 75 _ rfl _ _ rfl (one_of rfl) _; (case hp => exact pl9); (case hc => rfl); refine put_move ?_; go_step)); refine wpList_nil ?_; exact ⟨rfl, rfl⟩
      case hd => rfl
      (refine takeV 4 _ al9 (by kernel_rfl) (by kernel_rfl) (by kernel_rfl) (by exact fun _ _ _ _ h => h) (V.fieldAddr fo69_0 rfl nq9) rfl ?_)
      go_step
      apply takeS 5 al9 (by kernel_rfl) (by kernel_rfl) (by kernel_rfl) (by exact fun _ _ _ _ h => h) [6, 7] (by kernel_rfl) (hS.sub sb9)
      case hfr => intro w hS; ((refine wpl (by kernel_rfl) ?_; apply wp_load1 hS 3 _ rfl _ _ rfl (one_of rfl) _; (case hp => exact pl9); (case hc => rfl); refine put_move ?_; go_step)); refine wpList_nil ?_; exact ⟨rfl, rfl⟩
      case hd => rfl
      refine branch1 2 al9 rfl (by kernel_rfl) ?_
      refine wp_callF (f := 39) rfl Tryd.call39 (of_any W _ _ _ gc g1 g2 b hS pl9) ?_; rintro e w ⟨rfl, hE⟩; replace hS := hS.ext hE; clear hE; rw [HGB.out]; refine ⟨_, rfl, ?_⟩
      refine ⟨fun _ _ => hS.sub sb9, ?_⟩
      refine drawn_move ?_
      go_step
      refine branch1 6 al9 rfl (by kernel_rfl) ?_
      refine wp_callF (f := 40) rfl Tryd.call40 (codPut_any W _ _ _ _ gb gw L bs t0 hGL hS pl9 pl9 (by omega)) ?_; clear hS; rintro e w ⟨rfl, hS⟩; rw [HI.out]; refine ⟨_, rfl, ?_⟩
      refine ⟨fun h => absurd (by decide) h, ?_⟩
      refine drawn_move ?_
      go_step
      (refine takeV 7 _ al9 (by kernel_rfl) (by kernel_rfl) (by kernel_rfl) (by exact fun _ _ _ _ h => h) (V.not rfl) rfl ?_)
      go_step
      refine drawn_done (by kernel_rfl) ?_ _
    all_goals
      repeat' (first
        | ((with_reducible apply gt9 (some 20) _); refine wpl_call (f := 41) Tryd.call41 (by kernel_rfl) ?_; refine ⟨_, (put_any W _ _ _ gw (bs ++ wb L t0) k v hS pl9 (by omega) hv (by have := HLen.out; rw [List.length_append]; omega)), ?_⟩; clear hS; rintro e w ⟨rfl, hS⟩; refine ⟨_, rfl, ?_⟩; refine put_move ?_; go_step) | ((with_reducible apply gt9 _ (.assign _)); (first | go_big_want | go_step); go_step) | ((with_reducible apply gt9 _ (.fieldAddr 69 _ 1)); (refine wvv9 (V.fieldAddr fo69_1 rfl nq9) ?_; go_step)) | ((with_reducible apply gt9 _ (.fieldAddr 69 _ 2)); (refine wvv9 (V.fieldAddr fo69_2 rfl nq9) ?_; go_step)) | ((with_reducible apply gt9 _ (.load 75 _)); (refine wpl (by kernel_rfl) ?_; apply wp_load1 hS 75 _ rfl _ _ rfl (one_of rfl) _; (case hp => exact pl9); (case hc => rfl); refine put_move ?_; go_step)) | ((with_reducible apply gt9 _ (.load 3 _)); (refine wpl (by kernel_rfl) ?_; apply wp_load1 hS 3 _ rfl _ _ rfl (one_of rfl) _; (case hp => exact pl9); (case hc => rfl); refine put_move ?_; go_step)) | ((fail_if_success with_reducible apply ga9); go_step))
      go_ret
      rw [HR.out]
      refine ⟨rfl, St.close () ?_⟩
      dsimp only [List.cons_append, List.nil_append]
      rw [List.append_assoc] at hS
      exact (HC.out _ _ (hS.sub (xs := cod gb L :: r2 :: blk gc [.pointer (some ⟨g1, 0, none⟩), .pointer (some ⟨g2, 0, none⟩)] :: blk g6 [.pointer (some ⟨gc, 0, none⟩)] :: blk g8 [.pointer (some ⟨gw, 0, none⟩)] :: wr gw (bs ++ (wb L t0 ++ bitsOf k v)) :: rs') sb9)).sub sb9
theorem tkBits_len {L1 L2 : List (Int × Nat × Nat)} (h1 : Good L1) (h2 : Good L2) (t : Tok) (b : Bool) (ht : okT t) : (tkBits L1 L2 (t, b)).length ≤ 28 := by
  obtain ⟨_, h3, _⟩ := ht
  unfold tkBits
  dsimp only
  rw [List.length_append, bitsOf_len]
  have h4 : (wb (if b then L1 else L2) t.1).length ≤ 16 := wb_len (by cases b <;> assumption) _
  omega
theorem encStep_cases (L1 L2 : List (Int × Nat × Nat)) (bs : List Bool) (t : Tok) (b : Bool) : (encStep L1 L2 bs t b).2 = bs ++ tkBits L1 L2 (t, b) ∨ (encStep L1 L2 bs t b).2 = bs := by
  unfold encStep
  by_cases h : (symW (if b then L1 else L2) t.1).isSome = true
  · rw [if_pos h]; exact .inl rfl
  · rw [if_neg h]; exact .inr rfl
theorem enc_res {W w : World} {g6 g8 gc gw : Nat} {L1 L2 : List (Int × Nat × Nat)} {rs : List Res} (h : St W w rs) (s : Sub [blk gw [.slice none 0 0, .int .u64 0, .int .i64 0], blk g6 [.pointer (some ⟨gc, 0, none⟩)], blk g8 [.pointer (some ⟨gw, 0, none⟩)], cdr gc L1 L2] rs) : St W w [encR g6 g8 gc gw L1 L2 []] := by
  have h2 := wr_new (h.sub s)
  refine St.close () ?_
  dsimp only [List.cons_append, List.nil_append]
  exact h2.sub sb9
/-- The closure. -/
def encClo (W : World) (g6 g8 gc gw : Nat) (L1 L2 : List (Int × Nat × Nat)) (h1 : Good L1) (h2 : Good L2) : Clo W (List Bool) where
  step := encStep L1 L2
  res := encR g6 g8 gc gw L1 L2
  ok bs m := bs.length + 28 * m ≤ 1000000000
  K := 38
  caps := #[.pointer (some ⟨g6, 0, none⟩), .pointer (some ⟨g8, 0, none⟩)]
  inv := Tryd.call38
  okS s m t b h ht _ := by
    have := tkBits_len h1 h2 t b ht
    rcases encStep_cases L1 L2 s t b with h4 | h4
    · rw [h4, List.length_append]; omega
    · rw [h4]; omega
  okM s m k h hk := by omega
  call w rs rs' s m t0 t1 t2 b er s' hS hp h ht hst := by
    have h3 := encClo_any W w rs rs' g6 g8 gc gw L1 L2 s t0 t1 t2 b h1 h2 hS hp (by omega) ht
    rw [hst] at h3
    exact h3
/-- What Encode gives. -/
def segE (C1 S1 C2 S2 l : List Int) (n : Nat) : Int := if tbE C1 S1 C2 S2 = 0 then if blkE l n = 0 then (ech (encStep (wds C1 S1) (wds C2 S2)) (tfl l 0 n) []).1 else blkE l n else tbE C1 S1 C2 S2
def segBits (C1 S1 C2 S2 l : List Int) (n : Nat) : List Bool := (ech (encStep (wds C1 S1) (wds C2 S2)) (tfl l 0 n) []).2
def byI (l : List Nat) : List Int := l.map fun (x : Nat) => (x : Int)
theorem bv_byI (l : List Nat) : bv l = (byI l).map (Value.int .u8) := by simp [bv, byI]
def segB (C1 S1 C2 S2 l : List Int) (n : Nat) : List Int := if segE C1 S1 C2 S2 l n = 0 then stf (byI (bytesOf (segBits C1 S1 C2 S2 l n))) else []
theorem ech_ok {σ : Type} (step : σ → Tok → Bool → Int × σ) (ok : σ → Nat → Prop) (h1 : ∀ s m t b, ok s (m + 1) → okT t → ok (step s t b).2 m) (hm : ∀ s m k, ok s m → k ≤ m → ok s k) : ∀ (T : List (Tok × Bool)) (s : σ) (m : Nat), (∀ x ∈ T, okT x.1) → T.length ≤ m → ok s m → ok (ech step T s).2 0
  | [], s, m, _, _, h => hm s m 0 h (by omega)
  | x :: r, s, m, ht, hl, h => by
    rw [List.length_cons] at hl
    have h2 := h1 s (m - 1) x.1 x.2 (by rw [show m - 1 + 1 = m by omega]; exact h) (ht x (by simp))
    rw [ech]
    split
    · exact ech_ok step ok h1 hm r _ (m - 1) (fun y hy => ht y (by simp [hy])) (by omega) h2
    · exact hm _ _ 0 h2 (by omega)
theorem tfl_okT {l : List Int} {n : Nat} (hl : l.length = n * 64) : ∀ (f k : Nat), k + f ≤ n → (∀ x ∈ tfl l k f, okT x.1) ∧ (tfl l k f).length ≤ 64 * f
  | 0, k, _ => ⟨fun x hx => (by cases hx), by simp [tfl]⟩
  | f + 1, k, h => by
    obtain ⟨h1, h2⟩ := tfl_okT hl f (k + 1) (by omega)
    have hs : (seg l 64 k).length = 64 := seg_len l 64 k n hl (by omega)
    have h3 : ∀ t ∈ tkb l k, okT t := tokL_okT hs
    have h4 : (tkb l k).length ≤ 64 := tokL_le hs
    refine ⟨fun x hx => ?_, by rw [tfl, List.length_append, mark_len]; omega⟩
    rw [tfl] at hx
    rcases List.mem_append.1 hx with hx | hx
    · unfold mark at hx
      split at hx
      · cases hx
      · rename_i t r heq
        rcases List.mem_cons.1 hx with rfl | hx
        · exact h3 t (by rw [heq]; simp)
        · obtain ⟨y, hy, rfl⟩ := List.mem_map.1 hx
          exact h3 y (by rw [heq]; simp [hy])
    · exact h1 x hx
theorem segBits_len {C1 S1 C2 S2 l : List Int} {n : Nat} (h1 : tabE C1 S1 = 0) (h2 : tabE C2 S2 = 0) (hl : l.length = n * 64) (hn : n ≤ 400) : (segBits C1 S1 C2 S2 l n).length ≤ 1000000 := by
  have h3 := ech_ok (encStep (wds C1 S1) (wds C2 S2)) (fun bs m => bs.length + 28 * m ≤ 1000000) (fun s m t b h ht => by
    have := tkBits_len (wds_good h1) (wds_good h2) t b ht
    rcases encStep_cases (wds C1 S1) (wds C2 S2) s t b with h4 | h4
    · rw [h4, List.length_append]; omega
    · rw [h4]; omega) (fun s m k h hk => by omega) (tfl l 0 n) [] 25600 (tfl_okT hl n 0 (by omega)).1 (by have := (tfl_okT hl n 0 (by omega)).2; omega) (by simp)
  unfold segBits
  have h4 : (ech (encStep (wds C1 S1) (wds C2 S2)) (tfl l 0 n) []).2.length + 28 * 0 ≤ 1000000 := h3
  omega
theorem byI_in (bs : List Bool) : ∀ x ∈ byI (bytesOf bs), 0 ≤ x ∧ x < 256 := fun x hx => by
  obtain ⟨y, hy, rfl⟩ := List.mem_map.1 hx
  have := bytesOf_lt bs y hy
  omega
theorem blkE_400 {l : List Int} {n : Nat} (h : blkE l n = 0) : n ≤ 400 := by
  unfold blkE at h
  split at h
  · cases h
  · omega
def SegEnc (w0 : World) (E : Int) (B : List Int) (e : Ending) (w : World) : Prop :=
  ∃ ao c m, B.length = m ∧ e = .returned (.tuple #[.slice ao m c, .int .i64 E]) ∧ St w0 w [own 5 1 ao m c (B.map (Value.int .u8))]
theorem enc_err {w0 w : World} {E : Int} {B : List Int} (E' : Int) (h : E = E') (hB : B = []) (hE : Ext w0 w) : SegEnc w0 E B (.returned (.tuple #[.slice none 0 0, .int .i64 E'])) w := by
  subst h; subst hB
  exact ⟨none, 0, 0, rfl, rfl, (St.of_ext hE).nil _ _⟩
theorem encEach (W w0 : World) (rs rs' : List Res) (g6 g8 gc gw : Nat) (L1 L2 : List (Int × Nat × Nat)) (h1 : Good L1) (h2 : Good L2) (ad : Option Addr) (n c : Nat) (l : List Int) (E : Int) (bs : List Bool) (hE : blkE l n = 0 → ech (encStep L1 L2) (tfl l 0 n) [] = (E, bs)) (hE2 : blkE l n ≠ 0 → blkE l n = E) (hn : n ≤ 9223372036854775807) (hv : Sl W 64 (.slice ad n c) n (l.map (Value.int .i64))) (hS : St W w0 rs) (hp : Pull (encR g6 g8 gc gw L1 L2 []) rs rs') :
    Calls Tryd.prog 34 #[.slice ad n c, .func (.func 38) #[] #[.pointer (some ⟨g6, 0, none⟩), .pointer (some ⟨g8, 0, none⟩)]] w0 fun e w => e = .returned (.int .i64 E) ∧ ∃ s', (E = 0 → s' = bs) ∧ St W w (encR g6 g8 gc gw L1 L2 s' :: rs') := by
  refine (each_any (encClo W g6 g8 gc gw L1 L2 h1 h2) w0 rs rs' [] ad n c l hn hv hS hp (by show (0 + 28 * 25600 ≤ 1000000000); omega)).mono ?_
  rintro e w ⟨s', hs', rfl, hS⟩
  by_cases h0 : blkE l n = 0
  · have h3 : ech (encClo W g6 g8 gc gw L1 L2 h1 h2).step (tfl l 0 n) [] = (E, bs) := hE h0
    rw [h3] at hs' ⊢
    rw [if_pos h0]
    exact ⟨rfl, s', fun _ => hs' h0, hS⟩
  · rw [if_neg h0, hE2 h0]
    exact ⟨rfl, s', fun h => absurd ((hE2 h0).trans h) h0, hS⟩
set_option maxHeartbeats 8000000 in
theorem segEncode_any (w0 : World) (C1 C2 S1 S2 : List Int) (a1 a2 : Option Addr) (n1 n2 k1 k2 : Nat) (hC1 : Len C1 16) (hC2 : Len C2 16) (hs1 : Sl w0 1 (.slice a1 n1 k1) n1 (S1.map (Value.int .i64))) (hs2 : Sl w0 1 (.slice a2 n2 k2) n2 (S2.map (Value.int .i64))) (hn1 : n1 ≤ 9223372036854775807) (hn2 : n2 ≤ 9223372036854775807) (ad : Option Addr) (n c : Nat) (l : List Int) (hn : n ≤ 9223372036854775807) (hv : Sl w0 64 (.slice ad n c) n (l.map (Value.int .i64))) :
    Calls Tryd.prog 18 #[.agg (pcells [.ints C1, .val (.slice a1 n1 k1), .ints C2, .val (.slice a2 n2 k2)]).toArray, .slice ad n c] w0 (SegEnc w0 (segE C1 S1 C2 S2 l n) (segB C1 S1 C2 S2 l n)) := by
  have hl : l.length = n * 64 := by have := hv.1; simpa using this
  have HLl := hid hl
  have hS := St.start w0
  by_cases hT : tbE C1 S1 C2 S2 = 0
  case neg =>
    obtain ⟨E, hE⟩ : ∃ E, tbE C1 S1 C2 S2 = E := ⟨_, rfl⟩
    have h0 : E ≠ 0 := by rw [← hE]; exact hT
    have HE := hid hE
    have HR := hid (show segE C1 S1 C2 S2 l n = E by unfold segE; rw [if_neg hT]; exact hE)
    have HB := hid (show segB C1 S1 C2 S2 l n = [] by unfold segB; rw [if_neg (by rw [HR.out]; exact h0)])
    clear hE hT hl
    go_enter Tryd.func18, Tryd.ntmps18
    repeat' (first
      | ((with_reducible apply gt9 (some 11) _); refine wpl_call (f := 37) Tryd.call37 (by kernel_rfl) ?_; refine ⟨_, (made_bad _ C1 C2 S1 S2 a1 a2 n1 n2 k1 k2 hC1 hC2 (hs1.ext hS.1) (hs2.ext hS.1) hn1 hn2 E HE.out h0), ?_⟩; rintro e w ⟨rfl, hE2⟩; replace hS := hS.ext hE2; clear hE2; refine ⟨_, rfl, ?_⟩; refine put_move ?_; go_step) | ((with_reducible apply gt9 _ (.move _)); (first | go_big_want | go_step); go_step) | ((with_reducible apply gt9 _ (.assign _)); (first | go_big_want | go_step); go_step) | ((with_reducible apply gt9 _ (.extract _ _)); (refine wvv9 (V.extract rfl rfl) ?_; go_step)) | ((with_reducible apply gt9 _ (.binOp .neq 25 _ _ _)); (refine wvv9 (V.neq rfl rfl) ?_; go_step)) | ((with_reducible apply gt9 (some 2) (.box 33 _)); (refine wpl (by kernel_rfl) ?_; apply wp_boxP (o := ⟨some 2, _, _, _, _, _⟩) hS 33 _ rfl _ rfl; clear hS; intro g2 w hS; refine put_move ?_; go_step)) | ((with_reducible apply gt9 _ (.load 33 _)); (refine wpl (by kernel_rfl) ?_; apply wp_loadPP hS 33 _ rfl _ _ rfl 34 (row_of rfl) _; (case hp => exact pl9); (case hi => (repeat (first | (apply AtP.head; (repeat (first | exact Pre.nil | (apply Pre.ints; (case hn => (first | (with_reducible assumption) | exact Len.rep | exact Len.set (by with_reducible assumption) | exact Len.set Len.rep | exact Len.set (Len.set Len.rep))); (case h => omega); (case hm => rfl)) | apply Pre.val))) | (apply AtP.skipI; (case hn => (first | (with_reducible assumption) | exact Len.rep | exact Len.set (by with_reducible assumption) | exact Len.set Len.rep | exact Len.set (Len.set Len.rep))); (case h => omega); (case ho => rfl)) | apply AtP.skipV))); refine put_move ?_; go_step)) | ((with_reducible apply gt9 (some 6) (.alloc 72)); (refine wpl (by kernel_rfl) ?_; apply wp_alloc (o := ⟨some 6, _, _, _, _, _⟩) hS 72 rfl (.pointer none) [.pointer none] (fun w => Tryd.zeroValue72 w) rfl; clear hS; intro g6 w hS; refine put_move ?_; go_step)) | ((with_reducible apply gt9 _ (.store 72 _ _)); (refine wpl (by kernel_rfl) ?_; apply wp_store1 hS 72 _ _ rfl _ _ rfl (one_of rfl) _ _; (case hp => exact pl9); (case hy => exact isv9); (case hv => rfl); (case hc => (repeat (first | with_reducible exact SetAt.head | apply SetAt.tail))); (case hd => exact rfl); clear hS; intro w hS)) | ((fail_if_success with_reducible apply ga9); go_step))
    all_goals (try (have hF : False := (by omega); cases hF))
    refine ret_all (xs := [_, _]) rfl (.cons (OneRes.tmp rfl) (.cons (OneRes.tmp rfl) (.nil))) (by simp) rfl ?_
    exact enc_err E HR.out HB.out hS.1
  have hT1 : tabE C1 S1 = 0 := by
    unfold tbE at hT
    split at hT
    · assumption
    · assumption
  have hT2 : tabE C2 S2 = 0 := by
    unfold tbE at hT
    rw [if_pos hT1] at hT; exact hT
  obtain ⟨⟨E, bs⟩, hech⟩ : ∃ y, (if blkE l n = 0 then ech (encStep (wds C1 S1) (wds C2 S2)) (tfl l 0 n) [] else (blkE l n, [])) = y := ⟨_, rfl⟩
  have HA := hid (show blkE l n = 0 → ech (encStep (wds C1 S1) (wds C2 S2)) (tfl l 0 n) [] = (E, bs) from fun h => by rw [if_pos h] at hech; exact hech)
  have HA2 := hid (show blkE l n ≠ 0 → blkE l n = E from fun h => by rw [if_neg h] at hech; exact congrArg Prod.fst hech)
  have HR := hid (show segE C1 S1 C2 S2 l n = E by
    unfold segE
    rw [if_pos hT]
    by_cases h0 : blkE l n = 0
    · rw [if_pos h0, HA.out h0]
    · rw [if_neg h0]; exact HA2.out h0)
  have HG1 := hid (wds_good hT1)
  have HG2 := hid (wds_good hT2)
  have HT1 := hid hT1
  have HT2 := hid hT2
  clear hT hech
  by_cases h0 : E = 0
  case neg =>
    have HB := hid (show segB C1 S1 C2 S2 l n = [] by unfold segB; rw [if_neg (by rw [HR.out]; exact h0)])
    clear hl hT1 hT2
    go_enter Tryd.func18, Tryd.ntmps18
    repeat' (first
      | ((with_reducible apply gt9 (some 11) _); refine wpl_call (f := 37) Tryd.call37 (by kernel_rfl) ?_; refine ⟨_, (made_ok _ C1 C2 S1 S2 a1 a2 n1 n2 k1 k2 hC1 hC2 (hs1.ext hS.1) (hs2.ext hS.1) hn1 hn2 HT1.out HT2.out), ?_⟩; rintro e w ⟨gc, rfl, hS2⟩; replace hS := hS.call1 hS2; clear hS2; refine ⟨_, rfl, ?_⟩; refine put_move ?_; go_step) | ((with_reducible apply gt9 _ (.move _)); (first | go_big_want | go_step); go_step) | ((with_reducible apply gt9 _ (.assign _)); (first | go_big_want | go_step); go_step) | ((with_reducible apply gt9 _ (.extract _ _)); (refine wvv9 (V.extract rfl rfl) ?_; go_step)) | ((with_reducible apply gt9 _ (.binOp .neq 25 _ _ _)); (refine wvv9 (V.neq rfl rfl) ?_; go_step)) | ((with_reducible apply gt9 (some 2) (.box 33 _)); (refine wpl (by kernel_rfl) ?_; apply wp_boxP (o := ⟨some 2, _, _, _, _, _⟩) hS 33 _ rfl _ rfl; clear hS; intro g2 w hS; refine put_move ?_; go_step)) | ((with_reducible apply gt9 _ (.load 33 _)); (refine wpl (by kernel_rfl) ?_; apply wp_loadPP hS 33 _ rfl _ _ rfl 34 (row_of rfl) _; (case hp => exact pl9); (case hi => (repeat (first | (apply AtP.head; (repeat (first | exact Pre.nil | (apply Pre.ints; (case hn => (first | (with_reducible assumption) | exact Len.rep | exact Len.set (by with_reducible assumption) | exact Len.set Len.rep | exact Len.set (Len.set Len.rep))); (case h => omega); (case hm => rfl)) | apply Pre.val))) | (apply AtP.skipI; (case hn => (first | (with_reducible assumption) | exact Len.rep | exact Len.set (by with_reducible assumption) | exact Len.set Len.rep | exact Len.set (Len.set Len.rep))); (case h => omega); (case ho => rfl)) | apply AtP.skipV))); refine put_move ?_; go_step)) | ((with_reducible apply gt9 (some 6) (.alloc 72)); (refine wpl (by kernel_rfl) ?_; apply wp_alloc (o := ⟨some 6, _, _, _, _, _⟩) hS 72 rfl (.pointer none) [.pointer none] (fun w => Tryd.zeroValue72 w) rfl; clear hS; intro g6 w hS; refine put_move ?_; go_step)) | ((with_reducible apply gt9 _ (.store 72 _ _)); (refine wpl (by kernel_rfl) ?_; apply wp_store1 hS 72 _ _ rfl _ _ rfl (one_of rfl) _ _; (case hp => exact pl9); (case hy => exact isv9); (case hv => rfl); (case hc => (repeat (first | with_reducible exact SetAt.head | apply SetAt.tail))); (case hd => exact rfl); clear hS; intro w hS)) | ((fail_if_success with_reducible apply ga9); go_step))
    all_goals (try (have hF : False := (by omega); cases hF))
    repeat' (first
      | ((with_reducible apply gt9 (some 20) _); refine wplV (.func (.func 38) #[] #[.pointer (some ⟨g6, 0, none⟩), .pointer (some ⟨g8, 0, none⟩)]) (V.makeFunc rfl) (by kernel_rfl) ?_; go_step) | ((with_reducible apply gt9 (some 21) _); refine wpl_call (f := 34) Tryd.call34 (by kernel_rfl) ?_; refine ⟨_, (encEach w0 w _ _ g6 g8 gc g18 _ _ HG1.out HG2.out ad n c l E bs HA.out HA2.out hn hv (enc_res hS sb9) Pull.head), ?_⟩; clear hS; rintro e w ⟨rfl, s', hs', hS⟩; clear hs'; refine ⟨_, rfl, ?_⟩; refine put_move ?_; go_step) | ((with_reducible apply gt9 _ (.move _)); (first | go_big_want | go_step); go_step) | ((with_reducible apply gt9 _ (.assign _)); (first | go_big_want | go_step); go_step) | ((with_reducible apply gt9 (some 17) (.build 78 _)); (refine wvv9 (V.build (vs := []) rfl (bl78_)) ?_; go_step)) | ((with_reducible apply gt9 _ (.binOp .neq 25 _ _ _)); (refine wvv9 (V.neq rfl rfl) ?_; go_step)) | ((with_reducible apply gt9 (some 18) (.box 78 _)); (refine wpl (by kernel_rfl) ?_; apply wp_boxG (o := ⟨some 18, _, _, _, _, _⟩) hS 78 _ rfl _ rfl; clear hS; intro g18 w hS; refine put_move ?_; go_step)) | ((with_reducible apply gt9 (some 8) (.alloc 75)); (refine wpl (by kernel_rfl) ?_; apply wp_alloc (o := ⟨some 8, _, _, _, _, _⟩) hS 75 rfl (.pointer none) [.pointer none] (fun w => Tryd.zeroValue75 w) rfl; clear hS; intro g8 w hS; refine put_move ?_; go_step)) | ((with_reducible apply gt9 _ (.store 75 _ _)); (refine wpl (by kernel_rfl) ?_; apply wp_store1 hS 75 _ _ rfl _ _ rfl (one_of rfl) _ _; (case hp => exact pl9); (case hy => exact isv9); (case hv => rfl); (case hc => (repeat (first | with_reducible exact SetAt.head | apply SetAt.tail))); (case hd => exact rfl); clear hS; intro w hS)) | ((fail_if_success with_reducible apply ga9); go_step))
    all_goals (try (have hF : False := (by omega); cases hF))
    refine ret_all (xs := [_, _]) rfl (.cons (OneRes.tmp rfl) (.cons (OneRes.tmp rfl) (.nil))) (by simp) rfl ?_
    exact enc_err E HR.out HB.out hS.1
  subst h0
  have hz : blkE l n = 0 := by
    by_cases h0 : blkE l n = 0
    · exact h0
    · exact HA2.out h0
  have hbs : segBits C1 S1 C2 S2 l n = bs := by unfold segBits; rw [HA.out hz]
  have hbl : bs.length ≤ 1000000 := by rw [← hbs]; exact segBits_len hT1 hT2 hl (blkE_400 hz)
  have HB := hid (show segB C1 S1 C2 S2 l n = stf (byI (bytesOf bs)) by unfold segB; rw [if_pos HR.out, hbs])
  have hbyl : (byI (bytesOf bs)).length = (bs.length + 7) / 8 := by unfold byI; rw [List.length_map, bytesOf_len]
  have HBI := hid (byI_in bs)
  have HBV := hid (bv_byI (bytesOf bs))
  clear hl hT1 hT2 hbs hz
  go_enter Tryd.func18, Tryd.ntmps18
  repeat' (first
    | ((with_reducible apply gt9 (some 11) _); refine wpl_call (f := 37) Tryd.call37 (by kernel_rfl) ?_; refine ⟨_, (made_ok _ C1 C2 S1 S2 a1 a2 n1 n2 k1 k2 hC1 hC2 (hs1.ext hS.1) (hs2.ext hS.1) hn1 hn2 HT1.out HT2.out), ?_⟩; rintro e w ⟨gc, rfl, hS2⟩; replace hS := hS.call1 hS2; clear hS2; refine ⟨_, rfl, ?_⟩; refine put_move ?_; go_step) | ((with_reducible apply gt9 _ (.move _)); (first | go_big_want | go_step); go_step) | ((with_reducible apply gt9 _ (.assign _)); (first | go_big_want | go_step); go_step) | ((with_reducible apply gt9 _ (.extract _ _)); (refine wvv9 (V.extract rfl rfl) ?_; go_step)) | ((with_reducible apply gt9 _ (.binOp .neq 25 _ _ _)); (refine wvv9 (V.neq rfl rfl) ?_; go_step)) | ((with_reducible apply gt9 (some 2) (.box 33 _)); (refine wpl (by kernel_rfl) ?_; apply wp_boxP (o := ⟨some 2, _, _, _, _, _⟩) hS 33 _ rfl _ rfl; clear hS; intro g2 w hS; refine put_move ?_; go_step)) | ((with_reducible apply gt9 _ (.load 33 _)); (refine wpl (by kernel_rfl) ?_; apply wp_loadPP hS 33 _ rfl _ _ rfl 34 (row_of rfl) _; (case hp => exact pl9); (case hi => (repeat (first | (apply AtP.head; (repeat (first | exact Pre.nil | (apply Pre.ints; (case hn => (first | (with_reducible assumption) | exact Len.rep | exact Len.set (by with_reducible assumption) | exact Len.set Len.rep | exact Len.set (Len.set Len.rep))); (case h => omega); (case hm => rfl)) | apply Pre.val))) | (apply AtP.skipI; (case hn => (first | (with_reducible assumption) | exact Len.rep | exact Len.set (by with_reducible assumption) | exact Len.set Len.rep | exact Len.set (Len.set Len.rep))); (case h => omega); (case ho => rfl)) | apply AtP.skipV))); refine put_move ?_; go_step)) | ((with_reducible apply gt9 (some 6) (.alloc 72)); (refine wpl (by kernel_rfl) ?_; apply wp_alloc (o := ⟨some 6, _, _, _, _, _⟩) hS 72 rfl (.pointer none) [.pointer none] (fun w => Tryd.zeroValue72 w) rfl; clear hS; intro g6 w hS; refine put_move ?_; go_step)) | ((with_reducible apply gt9 _ (.store 72 _ _)); (refine wpl (by kernel_rfl) ?_; apply wp_store1 hS 72 _ _ rfl _ _ rfl (one_of rfl) _ _; (case hp => exact pl9); (case hy => exact isv9); (case hv => rfl); (case hc => (repeat (first | with_reducible exact SetAt.head | apply SetAt.tail))); (case hd => exact rfl); clear hS; intro w hS)) | ((fail_if_success with_reducible apply ga9); go_step))
  all_goals (try (have hF : False := (by omega); cases hF))
  repeat' (first
    | ((with_reducible apply gt9 (some 20) _); refine wplV (.func (.func 38) #[] #[.pointer (some ⟨g6, 0, none⟩), .pointer (some ⟨g8, 0, none⟩)]) (V.makeFunc rfl) (by kernel_rfl) ?_; go_step) | ((with_reducible apply gt9 (some 21) _); refine wpl_call (f := 34) Tryd.call34 (by kernel_rfl) ?_; refine ⟨_, (encEach w0 w _ _ g6 g8 gc g18 _ _ HG1.out HG2.out ad n c l 0 bs HA.out HA2.out hn hv (enc_res hS sb9) Pull.head), ?_⟩; clear hS; rintro e w ⟨rfl, s', hs', hS⟩; obtain rfl := hs' rfl; clear hs'; obtain ⟨_, hS⟩ := hS.open; dsimp only [List.cons_append, List.nil_append] at hS; refine ⟨_, rfl, ?_⟩; refine put_move ?_; go_step) | ((with_reducible apply gt9 _ (.move _)); (first | go_big_want | go_step); go_step) | ((with_reducible apply gt9 _ (.assign _)); (first | go_big_want | go_step); go_step) | ((with_reducible apply gt9 (some 17) (.build 78 _)); (refine wvv9 (V.build (vs := []) rfl (bl78_)) ?_; go_step)) | ((with_reducible apply gt9 _ (.binOp .neq 25 _ _ _)); (refine wvv9 (V.neq rfl rfl) ?_; go_step)) | ((with_reducible apply gt9 (some 18) (.box 78 _)); (refine wpl (by kernel_rfl) ?_; apply wp_boxG (o := ⟨some 18, _, _, _, _, _⟩) hS 78 _ rfl _ rfl; clear hS; intro g18 w hS; refine put_move ?_; go_step)) | ((with_reducible apply gt9 (some 8) (.alloc 75)); (refine wpl (by kernel_rfl) ?_; apply wp_alloc (o := ⟨some 8, _, _, _, _, _⟩) hS 75 rfl (.pointer none) [.pointer none] (fun w => Tryd.zeroValue75 w) rfl; clear hS; intro g8 w hS; refine put_move ?_; go_step)) | ((with_reducible apply gt9 _ (.store 75 _ _)); (refine wpl (by kernel_rfl) ?_; apply wp_store1 hS 75 _ _ rfl _ _ rfl (one_of rfl) _ _; (case hp => exact pl9); (case hy => exact isv9); (case hv => rfl); (case hc => (repeat (first | with_reducible exact SetAt.head | apply SetAt.tail))); (case hd => exact rfl); clear hS; intro w hS)) | ((fail_if_success with_reducible apply ga9); go_step))
  all_goals (try (have hF : False := (by omega); cases hF))
  repeat' (first
    | ((with_reducible apply gt9 (some 26) _); refine wpl_call (f := 42) Tryd.call42 (by kernel_rfl) ?_; refine ⟨_, (bytes_any w0 _ _ _ g18 s' hS pl9 (by omega)), ?_⟩; clear hS; rintro e w ⟨ab, cb, rfl, hS⟩; rw [HBV.out] at hS; refine ⟨_, rfl, ?_⟩; refine put_move ?_; go_step) | ((with_reducible apply gt9 (some 27) _); refine wpl_call (f := 33) Tryd.call33 (by kernel_rfl) ?_; refine ⟨_, (stuff_any _ ab _ cb (byI (bytesOf s')) (hS.sl pl9) (fun h => own_nil hS Pull.head h) HBI.out (by omega)), ?_⟩; rintro e w ⟨ao, co, rfl, hS2⟩; replace hS := hS.call1 hS2; clear hS2; refine ⟨_, rfl, ?_⟩; refine put_move ?_; go_step) | ((with_reducible apply gt9 _ (.assign _)); (first | go_big_want | go_step); go_step) | ((with_reducible apply gt9 _ (.load 75 _)); (refine wpl (by kernel_rfl) ?_; apply wp_load1 hS 75 _ rfl _ _ rfl (one_of rfl) _; (case hp => exact pl9); (case hc => rfl); refine put_move ?_; go_step)) | ((fail_if_success with_reducible apply ga9); go_step))
  refine ret_all (xs := [_, _]) rfl (.cons (OneRes.tmp rfl) (.cons (OneRes.tmp rfl) (.nil))) (by simp) rfl ?_
  refine ⟨ao, co, _, by rw [HB.out], by rw [HR.out]; rfl, ?_⟩
  rw [HB.out]
  exact hS.sub sb9
end Go.Proofs.YtehbjhocgnfpmaaDoor

/- The walk of seg.Counts. -/
namespace Go.Proofs.YtehbjhocgnfpmaaDoor
open Go.RowKit
set_option maxRecDepth 100000
set_option linter.unusedVariables false
section
variable {P : Program} {Q : Exit → Act → World → Prop} {a : Act} {W w : World} {c : Code}
end
end Go.Proofs.YtehbjhocgnfpmaaDoor

/- The walk of fitting, and the closed fact on segments. -/
namespace Go.Proofs.YtehbjhocgnfpmaaDoor
open Go.RowKit
set_option maxRecDepth 100000
set_option linter.unusedVariables false
theorem tabsRaw (m0 m1 m2 m3 m4 m5 m6 m7 m8 m9 m10 m11 m12 m13 m14 m15 q0 q1 q2 q3 q4 q5 q6 q7 q8 q9 q10 q11 q12 q13 q14 q15 : Int) (a b : Option Addr) (n c k d : Nat) (w : World) : (Instr.build 33 #[(0, tv [m0, m1, m2, m3, m4, m5, m6, m7, m8, m9, m10, m11, m12, m13, m14, m15] (.slice a n c)), (1, tv [q0, q1, q2, q3, q4, q5, q6, q7, q8, q9, q10, q11, q12, q13, q14, q15] (.slice b k d))]).run Tryd.prog w = .ok (.agg (pcells [.ints [m0, m1, m2, m3, m4, m5, m6, m7, m8, m9, m10, m11, m12, m13, m14, m15], .val (.slice a n c), .ints [q0, q1, q2, q3, q4, q5, q6, q7, q8, q9, q10, q11, q12, q13, q14, q15], .val (.slice b k d)]).toArray) w := by kernel_rfl
theorem tabsBuild (l l2 : List Int) (hl : l.length = 16) (hl2 : l2.length = 16) (a b : Option Addr) (n c k d : Nat) (w : World) : (Instr.build 33 #[(0, tv l (.slice a n c)), (1, tv l2 (.slice b k d))]).run Tryd.prog w = .ok (.agg (pcells [.ints l, .val (.slice a n c), .ints l2, .val (.slice b k d)]).toArray) w := by
  match l, hl, l2, hl2 with
  | [m0, m1, m2, m3, m4, m5, m6, m7, m8, m9, m10, m11, m12, m13, m14, m15], _, [q0, q1, q2, q3, q4, q5, q6, q7, q8, q9, q10, q11, q12, q13, q14, q15], _ => exact tabsRaw _ _ _ _ _ _ _ _ _ _ _ _ _ _ _ _ _ _ _ _ _ _ _ _ _ _ _ _ _ _ _ _ a b n c k d w
/-- Tables that fit, or none. -/
def FitGives (w0 : World) (F R : List Int) (e : Ending) (w : World) : Prop :=
  ∃ (C1 S1 C2 S2 : List Int) (a1 a2 : Option Addr) (m1 k1 m2 k2 : Nat) (b : Bool), Len C1 16 ∧ Len C2 16 ∧ S1.length = m1 ∧ S2.length = m2 ∧ m1 ≤ 256 ∧ m2 ≤ 256 ∧ tabE C1 S1 = 0 ∧ tabE C2 S2 = 0 ∧ (bE (cnt F) = 0 → Mk (cnt F) 256 C1 S1) ∧ (bE (cnt R) = 0 → Mk (cnt R) 256 C2 S2) ∧ (b = true ↔ bE (cnt F) = 0 ∧ bE (cnt R) = 0) ∧
    e = .returned (.tuple #[.agg (pcells [.ints C1, .val (.slice a1 m1 k1), .ints C2, .val (.slice a2 m2 k2)]).toArray, .bool b]) ∧ St w0 w [own 3 1 a1 m1 k1 (S1.map (Value.int .i64)), own 3 1 a2 m2 k2 (S2.map (Value.int .i64))]
set_option maxHeartbeats 8000000 in
theorem fitting_any (w0 : World) (ad : Option Addr) (n c : Nat) (l : List Int) (every : Nat) (hn : n ≤ 1048576) (he : every ≤ 1048576) (hv : Sl w0 64 (.slice ad n c) n (l.map (Value.int .i64))) :
    Calls Tryd.prog 22 #[.slice ad n c, .int .i64 every] w0 (FitGives w0 (frF l (pts n every)) (frR l (pts n every))) := by
  have hS := St.start w0
  obtain ⟨F, hF⟩ : ∃ F, frF l (pts n every) = F := ⟨_, rfl⟩
  obtain ⟨R, hR⟩ : ∃ F, frR l (pts n every) = F := ⟨_, rfl⟩
  rw [hF, hR]
  have HF := hid hF
  have HR := hid hR
  clear hF hR
  obtain ⟨E1, hE1⟩ : ∃ E, bE (cnt F) = E := ⟨_, rfl⟩
  obtain ⟨E2, hE2⟩ : ∃ E, bE (cnt R) = E := ⟨_, rfl⟩
  have HE1 := hid hE1
  have HE2 := hid hE2
  clear hE1 hE2
  go_enter Tryd.func22, Tryd.ntmps22
  repeat' (first
    | ((with_reducible apply gt9 (some 15) _); refine wpl_call (f := 46) Tryd.call46 (by kernel_rfl) ?_; refine ⟨_, (frameCounts_any _ ad n c l every hn he (hv.ext hS.1)), ?_⟩; rintro e w ⟨g1, g2, rfl, hS2⟩; rw [HF.out, HR.out] at hS2; replace hS := call_two hS hS2; clear hS2; refine ⟨_, rfl, ?_⟩; refine put_move ?_; go_step) | ((with_reducible apply gt9 (some 20) _); refine wpl_call (f := 47) Tryd.call47 (by kernel_rfl) ?_; refine ⟨_, (make_both _ (cnt F) (some ⟨g1, 0, none⟩) 256 256 (hS.sl pl9) (by decide)), ?_⟩; rintro e w ⟨C1, S1, a1, m1, k1, hC1, hm1, hb1, ht1, hM1, rfl, hS2⟩; rw [HE1.out]; replace hS := hS.call1 hS2; clear hS2; have HM1 := hid hM1; have HT1 := hid ht1; clear hM1 ht1; refine ⟨_, rfl, ?_⟩; refine put_move ?_; go_step) | ((with_reducible apply gt9 (some 25) _); refine wpl_call (f := 47) Tryd.call47 (by kernel_rfl) ?_; refine ⟨_, (make_both _ (cnt R) (some ⟨g2, 0, none⟩) 256 256 (hS.sl pl9) (by decide)), ?_⟩; rintro e w ⟨C2, S2, a2, m2, k2, hC2, hm2, hb2, ht2, hM2, rfl, hS2⟩; rw [HE2.out]; replace hS := hS.call1 hS2; clear hS2; have HM2 := hid hM2; have HT2 := hid ht2; clear hM2 ht2; refine ⟨_, rfl, ?_⟩; refine put_move ?_; go_step) | ((with_reducible apply gt9 _ (.move _)); (first | go_big_want | go_step); go_step) | ((with_reducible apply gt9 _ (.assign _)); (first | go_big_want | go_step); go_step) | ((with_reducible apply gt9 _ (.extract _ _)); (refine wvv9 (V.extract rfl rfl) ?_; go_step)) | ((with_reducible apply gt9 (some 4) (.alloc 33)); (refine wpl (by kernel_rfl) ?_; apply wp_allocP (o := ⟨some 4, _, _, _, _, _⟩) hS 33 rfl _ zp33; clear hS; intro g4 w hS; refine put_move ?_; go_step)) | ((with_reducible apply gt9 (some 8) (.alloc 31)); (refine wpl (by kernel_rfl) ?_; apply wp_allocP (o := ⟨some 8, _, _, _, _, _⟩) hS 31 rfl _ zp31; clear hS; intro g8 w hS; refine put_move ?_; go_step)) | ((with_reducible apply gt9 _ (.store 31 _ _)); (refine wpl (by kernel_rfl) ?_; apply wp_storePP hS 31 _ _ rfl _ rfl 17 (row_of rfl) _ _; (case hp => exact pl9); (case hy => rfl); (case hn => (repeat (first | exact Pre.nil | (apply Pre.ints; (case hn => (first | (with_reducible assumption) | exact Len.rep | exact Len.set (by with_reducible assumption) | exact Len.set Len.rep | exact Len.set (Len.set Len.rep))); (case h => omega); (case hm => rfl)) | apply Pre.val))); (case hn' => (repeat (first | exact Pre.nil | (apply Pre.ints; (case hn => (first | (with_reducible assumption) | exact Len.rep | exact Len.set (by with_reducible assumption) | exact Len.set Len.rep | exact Len.set (Len.set Len.rep))); (case h => omega); (case hm => rfl)) | apply Pre.val))); (case hv => rfl); (case hd => exact rfl); clear hS; intro w hS)) | ((with_reducible apply gt9 (some 10) (.alloc 31)); (refine wpl (by kernel_rfl) ?_; apply wp_allocP (o := ⟨some 10, _, _, _, _, _⟩) hS 31 rfl _ zp31; clear hS; intro g10 w hS; refine put_move ?_; go_step)) | ((fail_if_success with_reducible apply ga9); go_step))
  repeat' (first
    | ((with_reducible apply gt9 (some 30) _); refine wplV (.agg (pcells [.ints C1, .val (.slice a1 m1 k1), .ints C2, .val (.slice a2 m2 k2)]).toArray) (V.build (vs := [(0, tv C1 (.slice a1 m1 k1)), (1, tv C2 (.slice a2 m2 k2))]) rfl (tabsBuild C1 C2 hC1.out hC2.out _ _ _ _ _ _)) (by kernel_rfl) ?_; go_step) | go_skip | ((with_reducible apply gt9 _ (.move _)); (first | go_big_want | go_step); go_step) | ((with_reducible apply gt9 _ (.assign _)); (first | go_big_want | go_step); go_step) | ((with_reducible apply gt9 _ (.pick _ _ _)); first | (refine wplPickT rfl (by kernel_rfl) ?_; go_step) | (refine wplPickF rfl (by kernel_rfl) ?_; go_step)) | ((with_reducible apply gt9 (some 32) (.binOp .eql 25 _ _ _)); (refine wplD _ (V.eql rfl rfl) (by kernel_rfl) (fun hB => ?_) (fun hB => ?_) <;> (try (have hF : False := (by omega); cases hF)) <;> go_step)) | ((with_reducible apply gt9 _ (.binOp .eql 25 _ _ _)); (refine wvv9 (V.eql rfl rfl) ?_; go_step)) | ((with_reducible apply gt9 _ (.load 31 _)); (refine wpl (by kernel_rfl) ?_; apply wp_loadPP hS 31 _ rfl _ _ rfl 17 (row_of rfl) _; (case hp => exact pl9); (case hi => (repeat (first | (apply AtP.head; (repeat (first | exact Pre.nil | (apply Pre.ints; (case hn => (first | (with_reducible assumption) | exact Len.rep | exact Len.set (by with_reducible assumption) | exact Len.set Len.rep | exact Len.set (Len.set Len.rep))); (case h => omega); (case hm => rfl)) | apply Pre.val))) | (apply AtP.skipI; (case hn => (first | (with_reducible assumption) | exact Len.rep | exact Len.set (by with_reducible assumption) | exact Len.set Len.rep | exact Len.set (Len.set Len.rep))); (case h => omega); (case ho => rfl)) | apply AtP.skipV))); refine put_move ?_; go_step)) | ((with_reducible apply gt9 _ (.store 33 _ _)); (refine wpl (by kernel_rfl) ?_; apply wp_storePP hS 33 _ _ rfl _ rfl 34 (row_of rfl) _ _; (case hp => exact pl9); (case hy => rfl); (case hn => (repeat (first | exact Pre.nil | (apply Pre.ints; (case hn => (first | (with_reducible assumption) | exact Len.rep | exact Len.set (by with_reducible assumption) | exact Len.set Len.rep | exact Len.set (Len.set Len.rep))); (case h => omega); (case hm => rfl)) | apply Pre.val))); (case hn' => (repeat (first | exact Pre.nil | (apply Pre.ints; (case hn => (first | (with_reducible assumption) | exact Len.rep | exact Len.set (by with_reducible assumption) | exact Len.set Len.rep | exact Len.set (Len.set Len.rep))); (case h => omega); (case hm => rfl)) | apply Pre.val))); (case hv => rfl); (case hd => exact rfl); clear hS; intro w hS)) | ((fail_if_success with_reducible apply ga9); go_step))
  all_goals
    refine ret_all (xs := [_, _]) rfl (.cons (OneRes.prt hS rfl (row_of (n := 34) rfl) pl9 (by (repeat (first | exact Pre.nil | (apply Pre.ints; (case hn => (first | (with_reducible assumption) | exact Len.rep | exact Len.set (by with_reducible assumption) | exact Len.set Len.rep | exact Len.set (Len.set Len.rep))); (case h => omega); (case hm => rfl)) | apply Pre.val)))) (.cons (OneRes.tmp rfl) (.nil))) (by simp) rfl ?_
    refine ⟨C1, S1, C2, S2, a1, a2, m1, k1, m2, k2, _, hC1, hC2, hm1, hm2, hb1, hb2, HT1.out, HT2.out, HM1.out, HM2.out, ?_, rfl, hS.sub sb9⟩
    rw [HE1.out, HE2.out]
    simp <;> omega
end Go.Proofs.YtehbjhocgnfpmaaDoor

/- Encoding, in plain Lean: all tokens have words, or not. -/
namespace Go.Proofs.YtehbjhocgnfpmaaDoor
open Go.RowKit
set_option maxRecDepth 100000
set_option linter.unusedVariables false
/-- All have words. -/
def words (L1 L2 : List (Int × Nat × Nat)) (T : List (Tok × Bool)) : Prop := ∀ x ∈ T, (symW (if x.2 then L1 else L2) x.1.1).isSome = true
/-- Encoding: all have words, or not. -/
theorem enc_all (L1 L2 : List (Int × Nat × Nat)) : ∀ (T : List (Tok × Bool)) (bs : List Bool), words L1 L2 T → ech (encStep L1 L2) T bs = (0, bs ++ T.flatMap (tkBits L1 L2))
  | [], bs, _ => by simp [ech]
  | x :: T, bs, h => by
    have h1 : encStep L1 L2 bs x.1 x.2 = (0, bs ++ tkBits L1 L2 x) := by unfold encStep; rw [if_pos (h x (by simp))]
    rw [ech, h1, if_pos rfl, enc_all L1 L2 T _ (fun y hy => h y (by simp [hy])), List.flatMap_cons, List.append_assoc]
end Go.Proofs.YtehbjhocgnfpmaaDoor
