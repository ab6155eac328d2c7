/- The law ScanMended: what its proof needs, part 2. -/
import Derived.Test.YtehbjhocgnfpmaaDoorScanMendedZ1
import Derived.Laws.Bits64b
import Derived.Laws.CopyRow
import Derived.Laws.IdiomCopy
import Derived.Shelf.Small.Bits
import Derived.Shelf.Strconv.Itoa0
import Derived.Shelf.Strings.Search1
import Derived.Shelf.Bytes.SlIndexSmall
import Derived.Ground.SlbNamesProg
import Derived.Shelf.Bytes.SlCountOne
import Derived.Shelf.Bytes.SlIndexAt
import Derived.Shelf.Bytes.SlSearch0
import Derived.Shelf.Bytes.SlSearch1
import Derived.Shelf.Bytes.SlSearch2
import Derived.Shelf.Bytes.SlIndexWhole
import Derived.Shelf.LaysM
import Derived.Shelf.Bytes.SlCountWhole
import Derived.Shelf.Bytes.SlSplit
import Derived.Shelf.Bytes.SlEqualAll
import Derived.Shelf.Bytes.Small
import Derived.Shelf.Bytes.IndexByte
import Derived.Test.YtehbjhocgnfpmaaDoorProg
import Derived.Lib.ItoaNum
/- The writer of bits: what it holds, and the walks of its methods. -/
namespace Go.Proofs.YtehbjhocgnfpmaaDoor
set_option maxRecDepth 100000
open Go.RowKit
theorem pow_lt (n m : Nat) (h : n ≤ m) : 2 ^ n ≤ 2 ^ m := Nat.pow_le_pow_right (by omega) h
theorem or_num (A v width : Nat) (hA : A < 128) (hw : width ≤ 24) (hv : v < 2 ^ width) : bits .or .u64 (IntKind.u64.wrap ((A : Int) * 2 ^ width)) (v : Int) = ((A * 2 ^ width + v : Nat) : Int) := by
 have h1 : A * 2 ^ width < 128 * 16777216 := by
  have h2 := pow_lt width 24 hw
  have h3 : A * 2 ^ width ≤ 127 * 2 ^ 24 := Nat.mul_le_mul (by omega) h2
  omega
 have h4 := Nat.lt_of_lt_of_le hv (pow_lt width 24 hw)
 have e1 : IntKind.u64.wrap ((A : Int) * 2 ^ width) = ((A * 2 ^ width : Nat) : Int) := by
  rw [show (A : Int) * 2 ^ width = ((A * 2 ^ width : Nat) : Int) by push_cast; rfl]
  generalize A * 2 ^ width = x at h1
  simp [IntKind.wrap, IntKind.signed, IntKind.bits]
  omega
 rw [e1, bits_or_u64_nat _ _ (by omega) (by omega)]
 congr 1
 rw [← Nat.shiftLeft_eq, Nat.shiftLeft_add_eq_or_of_lt hv]
theorem and_num (N R : Nat) (hN : N < 18446744073709551616) (hR : R < 64) : bits .and .u64 (N : Int) (IntKind.u64.wrap (IntKind.u64.wrap ((2 : Int) ^ R) - 1)) = ((N % 2 ^ R : Nat) : Int) := by
 have h1 : 2 ^ R ≤ 2 ^ 63 := pow_lt R 63 (by omega)
 have h0 : 0 < 2 ^ R := Nat.two_pow_pos R
 have e1 : IntKind.u64.wrap (IntKind.u64.wrap ((2 : Int) ^ R) - 1) = ((2 ^ R - 1 : Nat) : Int) := by
  rw [show (2 : Int) ^ R = ((2 ^ R : Nat) : Int) by push_cast; rfl]
  generalize 2 ^ R = x at h1 h0
  simp [IntKind.wrap, IntKind.signed, IntKind.bits]
  omega
 rw [e1, bits_and_u64_nat _ _ hN (by omega), Nat.and_two_pow_sub_one_eq_mod]
def wr (g : Nat) (bs : List Bool) : Res := bag fun x : Option Addr × Nat =>
 [blk g [.slice x.1 (bs.length / 8) x.2, .int .u64 (num (bs.drop (8 * (bs.length / 8))) : Nat), .int .i64 (bs.length % 8 : Nat)],
  own 5 1 x.1 (bs.length / 8) x.2 (bv (packs (bs.length / 8) bs))]
set_option maxHeartbeats 2000000 in
theorem put_any (W w : World) (rs rs' : List Res) (g : Nat) (bs : List Bool) (width value : Nat) (hS : St W w rs) (hp : Pull (wr g bs) rs rs') (hw : width ≤ 24) (hv : value < 2 ^ width) (hb : bs.length + width ≤ 1099511627776) :
 Calls Tryd.prog 41 #[.pointer (some ⟨g, 0, none⟩), .int .i64 width, .int .i64 value] w fun e w' => e = .returned (.tuple #[]) ∧ St W w' (wr g (bs ++ bitsOf width value) :: rs') := by
 obtain ⟨⟨ad, c⟩, hS⟩ := (hS.pull hp).open
 have hv24 : value < 16777216 := Nat.lt_of_lt_of_le hv (Nat.pow_le_pow_right (n := 2) (by omega) hw)
 have hrl : (bs.drop (8 * (bs.length / 8))).length = bs.length % 8 := by simp; omega
 have hr8 : num (bs.drop (8 * (bs.length / 8))) < 128 := by
  have h1 := num_lt (bs.drop (8 * (bs.length / 8)))
  rw [hrl] at h1
  exact Nat.lt_of_lt_of_le h1 (Nat.pow_le_pow_right (n := 2) (j := 7) (by omega) (by omega))
 dsimp only [List.cons_append, List.nil_append] at hS
 generalize hA : num (bs.drop (8 * (bs.length / 8))) = A at *
 generalize hM : bs.length % 8 = M at *
 have hm8 : M < 8 := by omega
 have HOR := hid (or_num A value width (by omega) hw hv)
 go_enter Tryd.func41, Tryd.ntmps41
 go_wp2_with (first
  | ((with_reducible refine gt9 _ (.load 76 _) ?_); first | (refine wpl rfl (wp_load1 hS 76 _ rfl _ _ rfl (one_of rfl) _ pl9 _ (by rfl) ?_); refine wpl_put (by (simp only [Act.put, List.setIfInBounds_toArray, List.set_cons_zero, List.set_cons_succ]); exact rfl) ?_) | (refine wpl rfl (wp_load1O hS 76 _ rfl _ _ rfl (one_of rfl) _ _ _ _ _ pl9 _ (by with_reducible assumption) ?_); refine wpl_put (by (simp only [Act.put, List.setIfInBounds_toArray, List.set_cons_zero, List.set_cons_succ]); exact rfl) ?_) | (refine wpl rfl (wp_loadW hS 76 _ rfl _ rfl (one_of rfl) _ (by with_reducible assumption) ?_); refine wpl_put (by (simp only [Act.put, List.setIfInBounds_toArray, List.set_cons_zero, List.set_cons_succ]); exact rfl) ?_)) | ((with_reducible refine gt9 _ (.store 76 _ _) ?_); first | (refine wpl rfl (wp_store1 hS 76 _ _ rfl _ _ rfl (one_of rfl) _ _ pl9 _ isv9 (by rfl) (by (repeat (first | with_reducible exact SetAt.head | apply SetAt.tail))) rfl ?_); clear hS; intro w hS)) | ((with_reducible refine gt9 _ (.load 3 _) ?_); first | (refine wpl rfl (wp_load1A hS 3 _ rfl _ _ rfl (one_of rfl) _ _ pl9 (by omega) ?_); refine wpl_put (by (simp only [Act.put, List.setIfInBounds_toArray, List.set_cons_zero, List.set_cons_succ]); exact rfl) ?_) | (refine wpl rfl (wp_load1 hS 3 _ rfl _ _ rfl (one_of rfl) _ pl9 _ (by rfl) ?_); refine wpl_put (by (simp only [Act.put, List.setIfInBounds_toArray, List.set_cons_zero, List.set_cons_succ]); exact rfl) ?_) | (refine wpl rfl (wp_load1O hS 3 _ rfl _ _ rfl (one_of rfl) _ _ _ _ _ pl9 _ (by with_reducible assumption) ?_); refine wpl_put (by (simp only [Act.put, List.setIfInBounds_toArray, List.set_cons_zero, List.set_cons_succ]); exact rfl) ?_) | (refine wpl rfl (wp_loadW hS 3 _ rfl _ rfl (one_of rfl) _ (by with_reducible assumption) ?_); refine wpl_put (by (simp only [Act.put, List.setIfInBounds_toArray, List.set_cons_zero, List.set_cons_succ]); exact rfl) ?_)) | ((with_reducible refine gt9 _ (.store 3 _ _) ?_); first | (refine wpl rfl (wp_store1A hS 3 _ _ rfl _ _ rfl (one_of rfl) _ _ pl9 _ (by rfl) (by omega) rfl ?_); clear hS; intro w hS) | (refine wpl rfl (wp_store1 hS 3 _ _ rfl _ _ rfl (one_of rfl) _ _ pl9 _ isv9 (by rfl) (by (repeat (first | with_reducible exact SetAt.head | apply SetAt.tail))) rfl ?_); clear hS; intro w hS)) | ((with_reducible refine gt9 _ (.load 34 _) ?_); first | (refine wpl rfl (wp_load1 hS 34 _ rfl _ _ rfl (one_of rfl) _ pl9 _ (by rfl) ?_); refine wpl_put (by (simp only [Act.put, List.setIfInBounds_toArray, List.set_cons_zero, List.set_cons_succ]); exact rfl) ?_) | (refine wpl rfl (wp_load1O hS 34 _ rfl _ _ rfl (one_of rfl) _ _ _ _ _ pl9 _ (by with_reducible assumption) ?_); refine wpl_put (by (simp only [Act.put, List.setIfInBounds_toArray, List.set_cons_zero, List.set_cons_succ]); exact rfl) ?_) | (refine wpl rfl (wp_loadW hS 34 _ rfl _ rfl (one_of rfl) _ (by with_reducible assumption) ?_); refine wpl_put (by (simp only [Act.put, List.setIfInBounds_toArray, List.set_cons_zero, List.set_cons_succ]); exact rfl) ?_)) | ((with_reducible refine gs9 54 ?_); first | (refine wpl rfl (wp_buildSlice1 (o := ⟨some 54, _, _, _, _, _⟩) hS 34 1 _ rfl 5 1 1 el34 _ _ (by (repeat (first | exact Parts.nil | (apply Parts.agg; (rfl); (rfl)) | (apply Parts.one; exact isv9; (rfl); (rfl))))) (by rfl) (by decide) (by decide) ?_); clear hS; intro g54 w hS; refine wpl_put (by (simp only [Act.put, List.setIfInBounds_toArray, List.set_cons_zero, List.set_cons_succ]); exact rfl) ?_)) | ((with_reducible refine gt9 _ (.store 34 _ _) ?_); first | (refine wpl rfl (wp_store1 hS 34 _ _ rfl _ _ rfl (one_of rfl) _ _ pl9 _ isv9 (by rfl) (by (repeat (first | with_reducible exact SetAt.head | apply SetAt.tail))) rfl ?_); clear hS; intro w hS))
   | (first | refine stop_load ?_ | refine stop_store ?_ | refine stop_alloc ?_ | refine stop_box ?_))
 rw [HOR.out] at hS
 have HN := hid (show num (bs.drop (8 * (bs.length / 8)) ++ bitsOf width value) = A * 2 ^ width + value by rw [num_append, bitsOf_len, num_bitsOf_lt _ _ hv, hA])
 have HT := hid (show (bs.drop (8 * (bs.length / 8)) ++ bitsOf width value).length = M + width by rw [List.length_append, bitsOf_len, hrl])
 generalize hT : M + width = T at *
 generalize hN : A * 2 ^ width + value = N at *
 generalize hq : bs.length / 8 = q at *
 have hBl : bs.length = 8 * q + M := by omega
 have hX : packs (q + 0) (bs ++ bitsOf width value) = packs q bs := packs_append q bs _ (by omega)
 rw [← hX] at hS
 rw [show ((M : Int) + (width : Int)) = ((T : Nat) : Int) by omega] at hS
 clear hX
 go_loopg [] 4 (fun gk wr => ∃ (j : Nat) (ad' : Option Addr) (c' : Nat), gk + j = 4 ∧ 8 * j ≤ T ∧ St W wr (blk g [.slice ad' (q + j) c', .int .u64 (N : Nat), .int .i64 (T - 8 * j : Nat)] :: own 5 1 ad' (q + j) c' (bv (packs (q + j) (bs ++ bitsOf width value))) :: rs'))
 case atStart => exact ⟨0, ad, c, rfl, by omega, hS⟩
 case round =>
  clear hS
  obtain ⟨j, ad', c', hj, hjT, hS⟩ := hrel
  generalize hR : T - 8 * j = R at *
  by_cases h8 : 8 ≤ R
  · obtain ⟨r, hr⟩ : ∃ r, R = r + 8 := ⟨R - 8, by omega⟩
    have hb1 : IntKind.i64.wrap ((R : Int) - 8) = (r : Int) := by simp [IntKind.wrap, IntKind.signed, IntKind.bits]; omega
    have hb2 : (0 : Int) ≤ (r : Int) := by omega
    have hb3 : (r : Int) < 64 := by omega
    have HR := hid hr
    have HP := hid (show q + j + 1 ≤ maxLen ∧ (q + j + 1) * 1 ≤ 140737488355328 by unfold maxLen; omega)
    clear hr
    have HBy : Hid ((N : Int) / 2 ^ r % 256 = ((num (((bs ++ bitsOf width value).drop (8 * (q + j))).take 8) : Nat) : Int)) := by
     have h1 := num_window (bs.drop (8 * q) ++ bitsOf width value) (8 * j) 8 (by rw [HT.out]; omega)
     rw [HT.out, HN.out, show T - 8 * j - 8 = r by have := HR.out; omega] at h1
     have h2 : (bs ++ bitsOf width value).drop (8 * (q + j)) = (bs.drop (8 * q) ++ bitsOf width value).drop (8 * j) := by
      rw [Nat.mul_add, ← List.drop_drop, List.drop_append_of_le_length (by omega)]
     unfold Hid
     rw [h2, h1]
     have h3 : ((N : Int) / 2 ^ r) = ((N / 2 ^ r : Nat) : Int) := by push_cast; rfl
     rw [h3]
     generalize N / 2 ^ r = y
     simp
    go_wp2_with (first
     | ((with_reducible refine gt9 _ (.load 76 _) ?_); first | (refine wpl rfl (wp_load1 hS 76 _ rfl _ _ rfl (one_of rfl) _ pl9 _ (by rfl) ?_); refine wpl_put (by (simp only [Act.put, List.setIfInBounds_toArray, List.set_cons_zero, List.set_cons_succ]); exact rfl) ?_) | (refine wpl rfl (wp_load1O hS 76 _ rfl _ _ rfl (one_of rfl) _ _ _ _ _ pl9 _ (by with_reducible assumption) ?_); refine wpl_put (by (simp only [Act.put, List.setIfInBounds_toArray, List.set_cons_zero, List.set_cons_succ]); exact rfl) ?_) | (refine wpl rfl (wp_loadW hS 76 _ rfl _ rfl (one_of rfl) _ (by with_reducible assumption) ?_); refine wpl_put (by (simp only [Act.put, List.setIfInBounds_toArray, List.set_cons_zero, List.set_cons_succ]); exact rfl) ?_)) | ((with_reducible refine gt9 _ (.store 76 _ _) ?_); first | (refine wpl rfl (wp_store1 hS 76 _ _ rfl _ _ rfl (one_of rfl) _ _ pl9 _ isv9 (by rfl) (by (repeat (first | with_reducible exact SetAt.head | apply SetAt.tail))) rfl ?_); clear hS; intro w hS)) | ((with_reducible refine gt9 _ (.load 3 _) ?_); first | (refine wpl rfl (wp_load1A hS 3 _ rfl _ _ rfl (one_of rfl) _ _ pl9 (by omega) ?_); refine wpl_put (by (simp only [Act.put, List.setIfInBounds_toArray, List.set_cons_zero, List.set_cons_succ]); exact rfl) ?_) | (refine wpl rfl (wp_load1 hS 3 _ rfl _ _ rfl (one_of rfl) _ pl9 _ (by rfl) ?_); refine wpl_put (by (simp only [Act.put, List.setIfInBounds_toArray, List.set_cons_zero, List.set_cons_succ]); exact rfl) ?_) | (refine wpl rfl (wp_load1O hS 3 _ rfl _ _ rfl (one_of rfl) _ _ _ _ _ pl9 _ (by with_reducible assumption) ?_); refine wpl_put (by (simp only [Act.put, List.setIfInBounds_toArray, List.set_cons_zero, List.set_cons_succ]); exact rfl) ?_) | (refine wpl rfl (wp_loadW hS 3 _ rfl _ rfl (one_of rfl) _ (by with_reducible assumption) ?_); refine wpl_put (by (simp only [Act.put, List.setIfInBounds_toArray, List.set_cons_zero, List.set_cons_succ]); exact rfl) ?_)) | ((with_reducible refine gt9 _ (.store 3 _ _) ?_); first | (refine wpl rfl (wp_store1A hS 3 _ _ rfl _ _ rfl (one_of rfl) _ _ pl9 _ (by rfl) (by omega) rfl ?_); clear hS; intro w hS) | (refine wpl rfl (wp_store1 hS 3 _ _ rfl _ _ rfl (one_of rfl) _ _ pl9 _ isv9 (by rfl) (by (repeat (first | with_reducible exact SetAt.head | apply SetAt.tail))) rfl ?_); clear hS; intro w hS)) | ((with_reducible refine gt9 _ (.load 34 _) ?_); first | (refine wpl rfl (wp_load1 hS 34 _ rfl _ _ rfl (one_of rfl) _ pl9 _ (by rfl) ?_); refine wpl_put (by (simp only [Act.put, List.setIfInBounds_toArray, List.set_cons_zero, List.set_cons_succ]); exact rfl) ?_) | (refine wpl rfl (wp_load1O hS 34 _ rfl _ _ rfl (one_of rfl) _ _ _ _ _ pl9 _ (by with_reducible assumption) ?_); refine wpl_put (by (simp only [Act.put, List.setIfInBounds_toArray, List.set_cons_zero, List.set_cons_succ]); exact rfl) ?_) | (refine wpl rfl (wp_loadW hS 34 _ rfl _ rfl (one_of rfl) _ (by with_reducible assumption) ?_); refine wpl_put (by (simp only [Act.put, List.setIfInBounds_toArray, List.set_cons_zero, List.set_cons_succ]); exact rfl) ?_)) | ((with_reducible refine gs9 54 ?_); first | (refine wpl rfl (wp_buildSlice1 (o := ⟨some 54, _, _, _, _, _⟩) hS 34 1 _ rfl 5 1 1 el34 _ _ (by (repeat (first | exact Parts.nil | (apply Parts.agg; (rfl); (rfl)) | (apply Parts.one; exact isv9; (rfl); (rfl))))) (by rfl) (by decide) (by decide) ?_); clear hS; intro g54 w hS; refine wpl_put (by (simp only [Act.put, List.setIfInBounds_toArray, List.set_cons_zero, List.set_cons_succ]); exact rfl) ?_)) | ((with_reducible refine gt9 _ (.store 34 _ _) ?_); first | (refine wpl rfl (wp_store1 hS 34 _ _ rfl _ _ rfl (one_of rfl) _ _ pl9 _ isv9 (by rfl) (by (repeat (first | with_reducible exact SetAt.head | apply SetAt.tail))) rfl ?_); clear hS; intro w hS))
      | (first | refine stop_load ?_ | refine stop_store ?_ | refine stop_alloc ?_ | refine stop_box ?_))
    refine drawn_lit [17, 20] (fun w => St W w [blk g [.slice ad' (q + j) c', .int .u64 (N : Nat), .int .i64 (R : Nat)]]) kr9 ?_
    replace hS := hS.drew
    apply takeP 0 al9 kr9 kr9 kr9 (fun _ _ _ _ h => h)
    case hfr => intro w; go_wp2_with fail; exact ⟨rfl, rfl⟩
    case hd => rfl
    apply takeP 1 al9 kr9 kr9 kr9 (fun _ _ _ _ h => h)
    case hfr => intro w; go_wp2_with fail; exact ⟨rfl, rfl⟩
    case hd => rfl
    apply takeP 2 al9 kr9 kr9 kr9 (fun _ _ _ _ h => h)
    case hfr => intro w; go_wp2_with fail; exact ⟨rfl, rfl⟩
    case hd => rfl
    apply takeP 3 al9 kr9 kr9 kr9 (fun _ _ _ _ h => h)
    case hfr => intro w; go_wp2_with fail; exact ⟨rfl, rfl⟩
    case hd => rfl
    apply takeS 4 al9 kr9 kr9 kr9 (fun _ _ _ _ h => h) [17, 18, 19, 20] kr9 (hS.sub sb9)
    case hfr => intro w hS; go_wp2_with (first | (refine wpl rfl (wp_load1 hS 34 _ rfl _ _ rfl (one_of rfl) _ pl9 _ (by rfl) ?_); refine wpl_put (by (simp only [Act.put, List.setIfInBounds_toArray, List.set_cons_zero, List.set_cons_succ]); exact rfl) ?_) | (refine wpl rfl (wp_load1O hS 34 _ rfl _ _ rfl (one_of rfl) _ _ _ _ _ pl9 _ (by with_reducible assumption) ?_); refine wpl_put (by (simp only [Act.put, List.setIfInBounds_toArray, List.set_cons_zero, List.set_cons_succ]); exact rfl) ?_) | (refine wpl rfl (wp_loadW hS 34 _ rfl _ rfl (one_of rfl) _ (by with_reducible assumption) ?_); refine wpl_put (by (simp only [Act.put, List.setIfInBounds_toArray, List.set_cons_zero, List.set_cons_succ]); exact rfl) ?_)); exact ⟨rfl, rfl⟩
    case hd => rfl
    apply takeP 5 al9 kr9 kr9 kr9 (fun _ _ _ _ h => h)
    case hfr => intro w; go_wp2_with fail; exact ⟨rfl, rfl⟩
    case hd => rfl
    apply takeP 6 al9 kr9 kr9 kr9 (fun _ _ _ _ h => h)
    case hfr => intro w; go_wp2_with fail; exact ⟨rfl, rfl⟩
    case hd => rfl
    apply takeP 7 al9 kr9 kr9 kr9 (fun _ _ _ _ h => h)
    case hfr => intro w; go_wp2_with fail; exact ⟨rfl, rfl⟩
    case hd => rfl
    apply takeS 8 al9 kr9 kr9 kr9 (fun _ _ _ _ h => h) [14, 15, 16, 17, 18, 19, 20] kr9 (hS.sub sb9)
    case hfr => intro w hS; go_wp2_with (first | (refine wpl rfl (wp_load1 hS 76 _ rfl _ _ rfl (one_of rfl) _ pl9 _ (by rfl) ?_); refine wpl_put (by (simp only [Act.put, List.setIfInBounds_toArray, List.set_cons_zero, List.set_cons_succ]); exact rfl) ?_) | (refine wpl rfl (wp_load1O hS 76 _ rfl _ _ rfl (one_of rfl) _ _ _ _ _ pl9 _ (by with_reducible assumption) ?_); refine wpl_put (by (simp only [Act.put, List.setIfInBounds_toArray, List.set_cons_zero, List.set_cons_succ]); exact rfl) ?_) | (refine wpl rfl (wp_loadW hS 76 _ rfl _ rfl (one_of rfl) _ (by with_reducible assumption) ?_); refine wpl_put (by (simp only [Act.put, List.setIfInBounds_toArray, List.set_cons_zero, List.set_cons_succ]); exact rfl) ?_)); exact ⟨rfl, rfl⟩
    case hd => rfl
    apply takeP 9 al9 kr9 kr9 kr9 (fun _ _ _ _ h => h)
    case hfr => intro w; go_wp2_with fail; exact ⟨rfl, rfl⟩
    case hd => rfl
    apply takeP 10 al9 kr9 kr9 kr9 (fun _ _ _ _ h => h)
    case hfr => intro w; go_wp2_with fail; exact ⟨rfl, rfl⟩
    case hd => rfl
    apply takeP 11 al9 kr9 kr9 kr9 (fun _ _ _ _ h => h)
    case hfr => intro w; go_wp2_with fail; exact ⟨rfl, rfl⟩
    case hd => rfl
    apply takeS 12 al9 kr9 kr9 kr9 (fun _ _ _ _ h => h) [13, 14, 15, 16, 17, 18, 19, 20] kr9 (hS.sub sb9)
    case hfr => intro w hS; go_wp2_with (first | (refine wpl rfl (wp_load1A hS 3 _ rfl _ _ rfl (one_of rfl) _ _ pl9 (by omega) ?_); refine wpl_put (by (simp only [Act.put, List.setIfInBounds_toArray, List.set_cons_zero, List.set_cons_succ]); exact rfl) ?_) | (refine wpl rfl (wp_load1 hS 3 _ rfl _ _ rfl (one_of rfl) _ pl9 _ (by rfl) ?_); refine wpl_put (by (simp only [Act.put, List.setIfInBounds_toArray, List.set_cons_zero, List.set_cons_succ]); exact rfl) ?_) | (refine wpl rfl (wp_load1O hS 3 _ rfl _ _ rfl (one_of rfl) _ _ _ _ _ pl9 _ (by with_reducible assumption) ?_); refine wpl_put (by (simp only [Act.put, List.setIfInBounds_toArray, List.set_cons_zero, List.set_cons_succ]); exact rfl) ?_) | (refine wpl rfl (wp_loadW hS 3 _ rfl _ rfl (one_of rfl) _ (by with_reducible assumption) ?_); refine wpl_put (by (simp only [Act.put, List.setIfInBounds_toArray, List.set_cons_zero, List.set_cons_succ]); exact rfl) ?_)); exact ⟨rfl, rfl⟩
    case hd => rfl
    apply takeP 13 al9 kr9 kr9 kr9 (fun _ _ _ _ h => h)
    case hfr => intro w; go_wp2_with fail; exact ⟨rfl, rfl⟩
    case hd => rfl
    apply takeP 14 al9 kr9 kr9 kr9 (fun _ _ _ _ h => h)
    case hfr => intro w; go_wp2_with fail; exact ⟨rfl, rfl⟩
    case hd => rfl
    apply takeP 15 al9 kr9 kr9 kr9 (fun _ _ _ _ h => h)
    case hfr => intro w; go_wp2_with fail; exact ⟨rfl, rfl⟩
    case hd => rfl
    refine branch1 16 al9 rfl kr9 ?_
    (refine wp_buildSlice1 (o := ⟨some 54, _, _, _, _, _⟩) hS 34 1 _ rfl 5 1 1 el34 _ _ (by (repeat (first | exact Parts.nil | (apply Parts.agg; (rfl); (rfl)) | (apply Parts.one; exact isv9; (rfl); (rfl))))) (by rfl) (by decide) (by decide) ?_; clear hS; intro g54 w hS)
    refine ⟨fun _ _ => hS.sub sb9, ?_⟩
    refine drawn_put (by (simp only [Act.put, List.setIfInBounds_toArray, List.set_cons_zero, List.set_cons_succ]); exact rfl) ?_
    refine branch1 17 al9 rfl kr9 ?_
    refine wp_append hS _ _ 34 rfl _ 1 1 el34 _ _ _ _ rfl pl9 _ rfl 1 _ (hS.slBlk (n := 1) pl9 (by rfl) (by decide)) (by intro u hu; rw [List.mem_singleton] at hu; rw [hu]; rfl) HP.out.1 HP.out.2 ?_; clear hS; intro ad2 c2 w hS
    refine ⟨fun h => absurd (by decide) h, ?_⟩
    refine drawn_put (by (simp only [Act.put, List.setIfInBounds_toArray, List.set_cons_zero, List.set_cons_succ]); exact rfl) ?_
    apply takeP 18 al9 kr9 kr9 kr9 (fun _ _ _ _ h => h)
    case hfr => intro w; go_wp2_with fail; exact ⟨rfl, rfl⟩
    case hd => rfl
    apply takeP 19 al9 kr9 kr9 kr9 (fun _ _ _ _ h => h)
    case hfr => intro w; go_wp2_with fail; exact ⟨rfl, rfl⟩
    case hd => rfl
    refine branch1 20 al9 rfl kr9 ?_
    (refine wp_store1 hS 34 _ _ rfl _ _ rfl (one_of rfl) _ _ pl9 _ isv9 (by rfl) (by (repeat (first | with_reducible exact SetAt.head | apply SetAt.tail))) rfl ?_; clear hS; intro w hS)
    refine ⟨fun h => absurd (by decide) h, ?_⟩
    refine drawn_done kr9 ?_ _
    go_wp2_with (first
     | ((with_reducible refine gt9 _ (.load 76 _) ?_); first | (refine wpl rfl (wp_load1 hS 76 _ rfl _ _ rfl (one_of rfl) _ pl9 _ (by rfl) ?_); refine wpl_put (by (simp only [Act.put, List.setIfInBounds_toArray, List.set_cons_zero, List.set_cons_succ]); exact rfl) ?_) | (refine wpl rfl (wp_load1O hS 76 _ rfl _ _ rfl (one_of rfl) _ _ _ _ _ pl9 _ (by with_reducible assumption) ?_); refine wpl_put (by (simp only [Act.put, List.setIfInBounds_toArray, List.set_cons_zero, List.set_cons_succ]); exact rfl) ?_) | (refine wpl rfl (wp_loadW hS 76 _ rfl _ rfl (one_of rfl) _ (by with_reducible assumption) ?_); refine wpl_put (by (simp only [Act.put, List.setIfInBounds_toArray, List.set_cons_zero, List.set_cons_succ]); exact rfl) ?_)) | ((with_reducible refine gt9 _ (.store 76 _ _) ?_); first | (refine wpl rfl (wp_store1 hS 76 _ _ rfl _ _ rfl (one_of rfl) _ _ pl9 _ isv9 (by rfl) (by (repeat (first | with_reducible exact SetAt.head | apply SetAt.tail))) rfl ?_); clear hS; intro w hS)) | ((with_reducible refine gt9 _ (.load 3 _) ?_); first | (refine wpl rfl (wp_load1A hS 3 _ rfl _ _ rfl (one_of rfl) _ _ pl9 (by omega) ?_); refine wpl_put (by (simp only [Act.put, List.setIfInBounds_toArray, List.set_cons_zero, List.set_cons_succ]); exact rfl) ?_) | (refine wpl rfl (wp_load1 hS 3 _ rfl _ _ rfl (one_of rfl) _ pl9 _ (by rfl) ?_); refine wpl_put (by (simp only [Act.put, List.setIfInBounds_toArray, List.set_cons_zero, List.set_cons_succ]); exact rfl) ?_) | (refine wpl rfl (wp_load1O hS 3 _ rfl _ _ rfl (one_of rfl) _ _ _ _ _ pl9 _ (by with_reducible assumption) ?_); refine wpl_put (by (simp only [Act.put, List.setIfInBounds_toArray, List.set_cons_zero, List.set_cons_succ]); exact rfl) ?_) | (refine wpl rfl (wp_loadW hS 3 _ rfl _ rfl (one_of rfl) _ (by with_reducible assumption) ?_); refine wpl_put (by (simp only [Act.put, List.setIfInBounds_toArray, List.set_cons_zero, List.set_cons_succ]); exact rfl) ?_)) | ((with_reducible refine gt9 _ (.store 3 _ _) ?_); first | (refine wpl rfl (wp_store1A hS 3 _ _ rfl _ _ rfl (one_of rfl) _ _ pl9 _ (by rfl) (by omega) rfl ?_); clear hS; intro w hS) | (refine wpl rfl (wp_store1 hS 3 _ _ rfl _ _ rfl (one_of rfl) _ _ pl9 _ isv9 (by rfl) (by (repeat (first | with_reducible exact SetAt.head | apply SetAt.tail))) rfl ?_); clear hS; intro w hS)) | ((with_reducible refine gt9 _ (.load 34 _) ?_); first | (refine wpl rfl (wp_load1 hS 34 _ rfl _ _ rfl (one_of rfl) _ pl9 _ (by rfl) ?_); refine wpl_put (by (simp only [Act.put, List.setIfInBounds_toArray, List.set_cons_zero, List.set_cons_succ]); exact rfl) ?_) | (refine wpl rfl (wp_load1O hS 34 _ rfl _ _ rfl (one_of rfl) _ _ _ _ _ pl9 _ (by with_reducible assumption) ?_); refine wpl_put (by (simp only [Act.put, List.setIfInBounds_toArray, List.set_cons_zero, List.set_cons_succ]); exact rfl) ?_) | (refine wpl rfl (wp_loadW hS 34 _ rfl _ rfl (one_of rfl) _ (by with_reducible assumption) ?_); refine wpl_put (by (simp only [Act.put, List.setIfInBounds_toArray, List.set_cons_zero, List.set_cons_succ]); exact rfl) ?_)) | ((with_reducible refine gs9 54 ?_); first | (refine wpl rfl (wp_buildSlice1 (o := ⟨some 54, _, _, _, _, _⟩) hS 34 1 _ rfl 5 1 1 el34 _ _ (by (repeat (first | exact Parts.nil | (apply Parts.agg; (rfl); (rfl)) | (apply Parts.one; exact isv9; (rfl); (rfl))))) (by rfl) (by decide) (by decide) ?_); clear hS; intro g54 w hS; refine wpl_put (by (simp only [Act.put, List.setIfInBounds_toArray, List.set_cons_zero, List.set_cons_succ]); exact rfl) ?_)) | ((with_reducible refine gt9 _ (.store 34 _ _) ?_); first | (refine wpl rfl (wp_store1 hS 34 _ _ rfl _ _ rfl (one_of rfl) _ _ pl9 _ isv9 (by rfl) (by (repeat (first | with_reducible exact SetAt.head | apply SetAt.tail))) rfl ?_); clear hS; intro w hS))
      | (first | refine stop_load ?_ | refine stop_store ?_ | refine stop_alloc ?_ | refine stop_box ?_))
    go_roundg (gk - 1)
    case measure => have := HR.out; omega
    case rel =>
     refine ⟨j + 1, ad2, c2, by omega, by have := HR.out; omega, ?_⟩
     rw [show T - 8 * (j + 1) = r by have := HR.out; omega, ← Nat.add_assoc q j 1, packs_succ, bv_append, show (bv [num (((bs ++ bitsOf width value).drop (8 * (q + j))).take 8)] = [Value.int .u8 ((N : Int) / 2 ^ r % 256)]) by rw [HBy.out]; rfl]
     exact hS.sub sb9
  · have hlen : (bs ++ bitsOf width value).length = 8 * (q + j) + R := by rw [List.length_append, bitsOf_len]; omega
    have hd1 := hid (show (bs ++ bitsOf width value).length / 8 = q + j by omega)
    have hd2 := hid (show (bs ++ bitsOf width value).length % 8 = R by omega)
    have hval : Hid (num ((bs ++ bitsOf width value).drop (8 * (q + j))) = N % 2 ^ R) := by
     have h1 := num_window (bs.drop (8 * q) ++ bitsOf width value) (8 * j) R (by rw [HT.out]; omega)
     rw [HT.out, HN.out, show T - 8 * j - R = 0 by omega, Nat.pow_zero, Nat.div_one, List.take_of_length_le (by rw [List.length_drop, HT.out]; omega)] at h1
     unfold Hid
     rw [Nat.mul_add, ← List.drop_drop, List.drop_append_of_le_length (by omega)]
     exact h1
    have hNl : N < 18446744073709551616 := by
     have h1 := num_lt (bs.drop (8 * q) ++ bitsOf width value)
     rw [HN.out, HT.out] at h1
     exact Nat.lt_of_lt_of_le h1 (pow_lt T 64 (by omega))
    have HAND := hid (and_num N R hNl (by omega))
    clear hlen
    go_wp2_with (first
     | ((with_reducible refine gt9 _ (.load 76 _) ?_); first | (refine wpl rfl (wp_load1 hS 76 _ rfl _ _ rfl (one_of rfl) _ pl9 _ (by rfl) ?_); refine wpl_put (by (simp only [Act.put, List.setIfInBounds_toArray, List.set_cons_zero, List.set_cons_succ]); exact rfl) ?_) | (refine wpl rfl (wp_load1O hS 76 _ rfl _ _ rfl (one_of rfl) _ _ _ _ _ pl9 _ (by with_reducible assumption) ?_); refine wpl_put (by (simp only [Act.put, List.setIfInBounds_toArray, List.set_cons_zero, List.set_cons_succ]); exact rfl) ?_) | (refine wpl rfl (wp_loadW hS 76 _ rfl _ rfl (one_of rfl) _ (by with_reducible assumption) ?_); refine wpl_put (by (simp only [Act.put, List.setIfInBounds_toArray, List.set_cons_zero, List.set_cons_succ]); exact rfl) ?_)) | ((with_reducible refine gt9 _ (.store 76 _ _) ?_); first | (refine wpl rfl (wp_store1 hS 76 _ _ rfl _ _ rfl (one_of rfl) _ _ pl9 _ isv9 (by rfl) (by (repeat (first | with_reducible exact SetAt.head | apply SetAt.tail))) rfl ?_); clear hS; intro w hS)) | ((with_reducible refine gt9 _ (.load 3 _) ?_); first | (refine wpl rfl (wp_load1A hS 3 _ rfl _ _ rfl (one_of rfl) _ _ pl9 (by omega) ?_); refine wpl_put (by (simp only [Act.put, List.setIfInBounds_toArray, List.set_cons_zero, List.set_cons_succ]); exact rfl) ?_) | (refine wpl rfl (wp_load1 hS 3 _ rfl _ _ rfl (one_of rfl) _ pl9 _ (by rfl) ?_); refine wpl_put (by (simp only [Act.put, List.setIfInBounds_toArray, List.set_cons_zero, List.set_cons_succ]); exact rfl) ?_) | (refine wpl rfl (wp_load1O hS 3 _ rfl _ _ rfl (one_of rfl) _ _ _ _ _ pl9 _ (by with_reducible assumption) ?_); refine wpl_put (by (simp only [Act.put, List.setIfInBounds_toArray, List.set_cons_zero, List.set_cons_succ]); exact rfl) ?_) | (refine wpl rfl (wp_loadW hS 3 _ rfl _ rfl (one_of rfl) _ (by with_reducible assumption) ?_); refine wpl_put (by (simp only [Act.put, List.setIfInBounds_toArray, List.set_cons_zero, List.set_cons_succ]); exact rfl) ?_)) | ((with_reducible refine gt9 _ (.store 3 _ _) ?_); first | (refine wpl rfl (wp_store1A hS 3 _ _ rfl _ _ rfl (one_of rfl) _ _ pl9 _ (by rfl) (by omega) rfl ?_); clear hS; intro w hS) | (refine wpl rfl (wp_store1 hS 3 _ _ rfl _ _ rfl (one_of rfl) _ _ pl9 _ isv9 (by rfl) (by (repeat (first | with_reducible exact SetAt.head | apply SetAt.tail))) rfl ?_); clear hS; intro w hS)) | ((with_reducible refine gt9 _ (.load 34 _) ?_); first | (refine wpl rfl (wp_load1 hS 34 _ rfl _ _ rfl (one_of rfl) _ pl9 _ (by rfl) ?_); refine wpl_put (by (simp only [Act.put, List.setIfInBounds_toArray, List.set_cons_zero, List.set_cons_succ]); exact rfl) ?_) | (refine wpl rfl (wp_load1O hS 34 _ rfl _ _ rfl (one_of rfl) _ _ _ _ _ pl9 _ (by with_reducible assumption) ?_); refine wpl_put (by (simp only [Act.put, List.setIfInBounds_toArray, List.set_cons_zero, List.set_cons_succ]); exact rfl) ?_) | (refine wpl rfl (wp_loadW hS 34 _ rfl _ rfl (one_of rfl) _ (by with_reducible assumption) ?_); refine wpl_put (by (simp only [Act.put, List.setIfInBounds_toArray, List.set_cons_zero, List.set_cons_succ]); exact rfl) ?_)) | ((with_reducible refine gs9 54 ?_); first | (refine wpl rfl (wp_buildSlice1 (o := ⟨some 54, _, _, _, _, _⟩) hS 34 1 _ rfl 5 1 1 el34 _ _ (by (repeat (first | exact Parts.nil | (apply Parts.agg; (rfl); (rfl)) | (apply Parts.one; exact isv9; (rfl); (rfl))))) (by rfl) (by decide) (by decide) ?_); clear hS; intro g54 w hS; refine wpl_put (by (simp only [Act.put, List.setIfInBounds_toArray, List.set_cons_zero, List.set_cons_succ]); exact rfl) ?_)) | ((with_reducible refine gt9 _ (.store 34 _ _) ?_); first | (refine wpl rfl (wp_store1 hS 34 _ _ rfl _ _ rfl (one_of rfl) _ _ pl9 _ isv9 (by rfl) (by (repeat (first | with_reducible exact SetAt.head | apply SetAt.tail))) rfl ?_); clear hS; intro w hS))
      | (first | refine stop_load ?_ | refine stop_store ?_ | refine stop_alloc ?_ | refine stop_box ?_))
    refine drawn_lit [13] (fun w => St W w [blk g [.slice ad' (q + j) c', .int .u64 (N : Nat), .int .i64 (R : Nat)]]) kr9 ?_
    replace hS := hS.drew
    apply takeP 0 al9 kr9 kr9 kr9 (fun _ _ _ _ h => h)
    case hfr => intro w; go_wp2_with fail; exact ⟨rfl, rfl⟩
    case hd => rfl
    apply takeP 1 al9 kr9 kr9 kr9 (fun _ _ _ _ h => h)
    case hfr => intro w; go_wp2_with fail; exact ⟨rfl, rfl⟩
    case hd => rfl
    apply takeP 2 al9 kr9 kr9 kr9 (fun _ _ _ _ h => h)
    case hfr => intro w; go_wp2_with fail; exact ⟨rfl, rfl⟩
    case hd => rfl
    apply takeS 3 al9 kr9 kr9 kr9 (fun _ _ _ _ h => h) [10, 11, 12, 13] kr9 (hS.sub sb9)
    case hfr => intro w hS; go_wp2_with (first | (refine wpl rfl (wp_load1 hS 76 _ rfl _ _ rfl (one_of rfl) _ pl9 _ (by rfl) ?_); refine wpl_put (by (simp only [Act.put, List.setIfInBounds_toArray, List.set_cons_zero, List.set_cons_succ]); exact rfl) ?_) | (refine wpl rfl (wp_load1O hS 76 _ rfl _ _ rfl (one_of rfl) _ _ _ _ _ pl9 _ (by with_reducible assumption) ?_); refine wpl_put (by (simp only [Act.put, List.setIfInBounds_toArray, List.set_cons_zero, List.set_cons_succ]); exact rfl) ?_) | (refine wpl rfl (wp_loadW hS 76 _ rfl _ rfl (one_of rfl) _ (by with_reducible assumption) ?_); refine wpl_put (by (simp only [Act.put, List.setIfInBounds_toArray, List.set_cons_zero, List.set_cons_succ]); exact rfl) ?_)); exact ⟨rfl, rfl⟩
    case hd => rfl
    apply takeP 4 al9 kr9 kr9 kr9 (fun _ _ _ _ h => h)
    case hfr => intro w; go_wp2_with fail; exact ⟨rfl, rfl⟩
    case hd => rfl
    apply takeP 5 al9 kr9 kr9 kr9 (fun _ _ _ _ h => h)
    case hfr => intro w; go_wp2_with fail; exact ⟨rfl, rfl⟩
    case hd => rfl
    apply takeP 6 al9 kr9 kr9 kr9 (fun _ _ _ _ h => h)
    case hfr => intro w; go_wp2_with fail; exact ⟨rfl, rfl⟩
    case hd => rfl
    apply takeS 7 al9 kr9 kr9 kr9 (fun _ _ _ _ h => h) [8, 9, 10, 11, 12, 13] kr9 (hS.sub sb9)
    case hfr => intro w hS; go_wp2_with (first | (refine wpl rfl (wp_load1A hS 3 _ rfl _ _ rfl (one_of rfl) _ _ pl9 (by omega) ?_); refine wpl_put (by (simp only [Act.put, List.setIfInBounds_toArray, List.set_cons_zero, List.set_cons_succ]); exact rfl) ?_) | (refine wpl rfl (wp_load1 hS 3 _ rfl _ _ rfl (one_of rfl) _ pl9 _ (by rfl) ?_); refine wpl_put (by (simp only [Act.put, List.setIfInBounds_toArray, List.set_cons_zero, List.set_cons_succ]); exact rfl) ?_) | (refine wpl rfl (wp_load1O hS 3 _ rfl _ _ rfl (one_of rfl) _ _ _ _ _ pl9 _ (by with_reducible assumption) ?_); refine wpl_put (by (simp only [Act.put, List.setIfInBounds_toArray, List.set_cons_zero, List.set_cons_succ]); exact rfl) ?_) | (refine wpl rfl (wp_loadW hS 3 _ rfl _ rfl (one_of rfl) _ (by with_reducible assumption) ?_); refine wpl_put (by (simp only [Act.put, List.setIfInBounds_toArray, List.set_cons_zero, List.set_cons_succ]); exact rfl) ?_)); exact ⟨rfl, rfl⟩
    case hd => rfl
    apply takeP 8 al9 kr9 kr9 kr9 (fun _ _ _ _ h => h)
    case hfr => intro w; go_wp2_with fail; exact ⟨rfl, rfl⟩
    case hd => rfl
    apply takeP 9 al9 kr9 kr9 kr9 (fun _ _ _ _ h => h)
    case hfr => intro w; go_wp2_with fail; exact ⟨rfl, rfl⟩
    case hd => rfl
    apply takeP 10 al9 kr9 kr9 kr9 (fun _ _ _ _ h => h)
    case hfr => intro w; go_wp2_with fail; exact ⟨rfl, rfl⟩
    case hd => rfl
    apply takeP 11 al9 kr9 kr9 kr9 (fun _ _ _ _ h => h)
    case hfr => intro w; go_wp2_with fail; exact ⟨rfl, rfl⟩
    case hd => rfl
    apply takeP 12 al9 kr9 kr9 kr9 (fun _ _ _ _ h => h)
    case hfr => intro w; go_wp2_with fail; exact ⟨rfl, rfl⟩
    case hd => rfl
    refine branch1 13 al9 rfl kr9 ?_
    (refine wp_store1 hS 76 _ _ rfl _ _ rfl (one_of rfl) _ _ pl9 _ isv9 (by rfl) (by (repeat (first | with_reducible exact SetAt.head | apply SetAt.tail))) rfl ?_; clear hS; intro w hS)
    refine ⟨fun h => absurd (by decide) h, ?_⟩
    refine drawn_done kr9 ?_ _
    go_end0
    refine ⟨rfl, St.close (ad', c') ?_⟩
    simp only [List.cons_append, List.nil_append]
    rw [HAND.out] at hS
    rw [hd1.out, hd2.out, hval.out]
    exact hS.sub sb9

end Go.Proofs.YtehbjhocgnfpmaaDoor
/- And, or, exclusive or of ints that are not negative. -/
namespace Go
open Go.RowKit
theorem toNat_i64 (a : Nat) (ha : a < 9223372036854775808) : (BitVec.ofInt 64 (a : Int)).toNat = a := by
  rw [BitVec.ofInt_natCast, BitVec.toNat_ofNat]; exact Nat.mod_eq_of_lt (by omega)
theorem wrap_i64_nat (x : Nat) (h : x < 9223372036854775808) : IntKind.i64.wrap (x : Int) = (x : Int) := by
  simp [IntKind.wrap, IntKind.signed, IntKind.bits]; omega
theorem bits_and_i64_nat (a b : Nat) (ha : a < 9223372036854775808) (hb : b < 9223372036854775808) : bits .and .i64 (a : Int) (b : Int) = ((a &&& b : Nat) : Int) := by
  show IntKind.i64.wrap ((BitVec.ofInt 64 (a : Int) &&& BitVec.ofInt 64 (b : Int)).toNat : Int) = _
  rw [BitVec.toNat_and, toNat_i64 a ha, toNat_i64 b hb]
  exact wrap_i64_nat _ (Nat.lt_of_lt_of_le (Nat.and_lt_two_pow (n := 63) _ (by omega)) (by decide))
theorem bits_or_i64_nat (a b : Nat) (ha : a < 9223372036854775808) (hb : b < 9223372036854775808) : bits .or .i64 (a : Int) (b : Int) = ((a ||| b : Nat) : Int) := by
  show IntKind.i64.wrap ((BitVec.ofInt 64 (a : Int) ||| BitVec.ofInt 64 (b : Int)).toNat : Int) = _
  rw [BitVec.toNat_or, toNat_i64 a ha, toNat_i64 b hb]
  exact wrap_i64_nat _ (Nat.lt_of_lt_of_le (Nat.or_lt_two_pow (n := 63) (by omega) (by omega)) (by decide))
/-- Two to a small power, reckoned as ints are. -/
theorem pow_i64 (k : Nat) (h : k < 63) : wrap64 ((2 : Int) ^ k) = ((2 ^ k : Nat) : Int) := by
  have h1 : 2 ^ k ≤ 2 ^ 62 := Nat.pow_le_pow_right (by omega) (by omega)
  rw [show (2 : Int) ^ k = ((2 ^ k : Nat) : Int) by push_cast; rfl]
  generalize 2 ^ k = x at h1
  unfold wrap64
  omega
theorem mask_i64 (k : Nat) (h : k < 63) : wrap64 (wrap64 ((2 : Int) ^ k) - 1) = ((2 ^ k - 1 : Nat) : Int) := by
  have h1 : 2 ^ k ≤ 2 ^ 62 := Nat.pow_le_pow_right (by omega) (by omega)
  have h0 := Nat.two_pow_pos k
  rw [pow_i64 k h]
  generalize 2 ^ k = x at h1 h0
  unfold wrap64
  omega
end Go

/- The walks of the reader: NewReader, Left, Get, Read. -/
namespace Go.Proofs.YtehbjhocgnfpmaaDoor
set_option maxRecDepth 100000
open Go.RowKit
set_option linter.unusedVariables false
theorem bl140_0 (a0 : Option Addr) (n0 c0 : Nat) (w : World) : (Instr.build 140 #[(0, .slice a0 n0 c0)]).run Tryd.prog w = .ok (.agg #[.slice a0 n0 c0, .int .i64 0]) w := by kernel_rfl
def rd (g : Nat) (ad : Option Addr) (n c i : Nat) : Res := blk g [.slice ad n c, .int .i64 (i : Nat)]
theorem newReader_any (w0 : World) (ad : Option Addr) (n c : Nat) : Calls Tryd.prog 48 #[.slice ad n c] w0 fun e w => ∃ g, e = .returned (.pointer (some ⟨g, 0, none⟩)) ∧ St w0 w [rd g ad n c 0] := by
 have hS := St.start w0
 go_enter Tryd.func48, Tryd.ntmps48
 repeat' (first
  | (refine y91 ?_) | ((with_reducible refine gs9 4 ?_); (refine wvv9 (V.build (vs := [(0, _)]) rfl (bl140_0 _ _ _)) ?_; go_step)) | ((with_reducible refine gs9 5 ?_); (refine wl9 ?_; apply wp_boxG (o := ⟨some 5, _, _, _, _, _⟩) hS 140 _ rfl _ rfl; clear hS; intro g5 w hS; refine put_move ?_; go_step)) | ((fail_if_success with_reducible refine ga9 ?_); go_step))
 go_ret
 exact ⟨_, rfl, hS⟩
theorem left_any (w0 : World) (g n c at_ : Nat) (ad : Option Addr) (c0 : w0.cell? ⟨g, 0, none⟩ = some (.slice ad n c)) (c1 : w0.cell? ⟨g, 1, none⟩ = some (.int .i64 (at_ : Nat))) (hn : n ≤ 1000000000000000000) (ha : at_ ≤ 8 * n) :
 Calls Tryd.prog 50 #[.pointer (some ⟨g, 0, none⟩)] w0 fun e w => e = .returned (.int .i64 ((8 * n - at_ : Nat) : Int)) ∧ Ext w0 w := by
 have hS := St.start w0
 go_enter Tryd.func50, Tryd.ntmps50
 repeat' (first
  | (refine y92 ?_) | ((fail_if_success with_reducible refine ga9 ?_); go_step))
 refine drawn_lit [] (fun w => St w0 w []) kr9 ?_
 replace hS := hS.drew
 focus
  refine takeM 0 _ al9 kr9 kr9 kr9 hq9 rfl ?_
  go_step
  (refine takeV 1 _ al9 kr9 kr9 kr9 hq9 (V.nilCheck rfl) rfl ?_)
  go_step
  (refine takeV 2 _ al9 kr9 kr9 kr9 hq9 (V.fieldAddr fo140_0 rfl nq9) rfl ?_)
  go_step
  apply takeS 3 al9 kr9 kr9 kr9 hq9 [4, 5, 10, 11] kr9 (hS.sub sb9)
  case hfr => intro w hS; ((refine wl9 ?_; apply wp_loadW hS 34 _ rfl _ rfl (one_of rfl) _; (case hc => with_reducible assumption); refine put_move ?_; go_step)); refine wpList_nil ?_; exact ⟨rfl, rfl⟩
  case hd => rfl
  (refine takeV 4 _ al9 kr9 kr9 kr9 hq9 (V.len Tryd.underlying34 rfl) rfl ?_)
  go_step
  (refine takeV 5 _ al9 kr9 kr9 kr9 hq9 (V.mulI rfl rfl (by omega)) rfl ?_)
  go_step
  refine takeM 6 _ al9 kr9 kr9 kr9 hq9 rfl ?_
  go_step
  (refine takeV 7 _ al9 kr9 kr9 kr9 hq9 (V.nilCheck rfl) rfl ?_)
  go_step
  (refine takeV 8 _ al9 kr9 kr9 kr9 hq9 (V.fieldAddr fo140_1 rfl nq9) rfl ?_)
  go_step
  apply takeS 9 al9 kr9 kr9 kr9 hq9 [10, 11] kr9 (hS.sub sb9)
  case hfr => intro w hS; ((refine wl9 ?_; apply wp_loadW hS 3 _ rfl _ rfl (one_of rfl) _; (case hc => with_reducible assumption); refine put_move ?_; go_step)); refine wpList_nil ?_; exact ⟨rfl, rfl⟩
  case hd => rfl
  (refine takeV 10 (.int _ (((8 * n - at_ : Nat) : Int))) al9 kr9 kr9 kr9 hq9 (V.as (V.subI rfl rfl (by omega)) (by omega)) rfl ?_)
  go_step
  refine takeA 11 _ al9 kr9 kr9 kr9 hq9 rfl ?_
  go_step
  refine drawn_done kr9 ?_ _
 repeat' (first
  | ((fail_if_success with_reducible refine ga9 ?_); go_step))
 go_ret
 exact ⟨rfl, hS.1⟩
def bitAt (l : List Nat) (i : Nat) : Nat := l.getD (i / 8) 0 / 2 ^ (7 - i % 8) % 2
theorem unpack_bit (l : List Nat) (i : Nat) (h : i < 8 * l.length) : (unpack l)[i]? = some (bitAt l i == 1) := unpack_get l i h
def numAt (l : List Nat) (i m : Nat) : Nat := num (((unpack l).drop i).take m)
theorem numAt_succ (l : List Nat) (i m : Nat) (h : i + m < 8 * l.length) : numAt l i (m + 1) = 2 * numAt l i m + bitAt l (i + m) := by
 unfold numAt
 rw [List.take_add_one, List.getElem?_drop, unpack_bit _ _ h]
 simp only [Option.toList_some]
 rw [num_snoc]
 have : bitAt l (i + m) < 2 := Nat.mod_lt _ (by omega)
 congr 1
 rcases (show bitAt l (i + m) = 0 ∨ bitAt l (i + m) = 1 by omega) with h | h <;> rw [h] <;> rfl
theorem numAt_lt (l : List Nat) (i m : Nat) : numAt l i m < 2 ^ m := by
 unfold numAt
 refine Nat.lt_of_lt_of_le (num_lt _) (Nat.pow_le_pow_right (by omega) ?_)
 simp; omega
theorem or_bit (N b : Nat) (hN : N < 4611686018427387904) (hb : b < 2) : bits .or .i64 (IntKind.i64.wrap ((N : Int) * 2 ^ 1)) (b : Int) = ((2 * N + b : Nat) : Int) := by
 have e1 : IntKind.i64.wrap ((N : Int) * 2 ^ 1) = ((2 * N : Nat) : Int) := by rw [show ((N : Int) * 2 ^ 1) = ((2 * N : Nat) : Int) by push_cast; omega]; exact wrap_i64_nat _ (by omega)
 rw [e1, bits_or_i64_nat _ _ (by omega) (by omega)]
 congr 1
 rw [show 2 * N = 2 ^ 1 * N by omega]
 exact (Nat.two_pow_add_eq_or_of_lt (i := 1) (by omega) N).symm
theorem or_bit2 (N b : Nat) (hN : N < 4611686018427387904) (hb : b < 2) : bits .or .i64 ((N : Int) * 2 ^ 1) (b : Int) = ((2 * N + b : Nat) : Int) := by
 have := or_bit N b hN hb
 rwa [IntWalk.i64_in _ (by omega)] at this
theorem and_one : ∀ b : Nat, b < 256 → bits .and .u8 (b : Int) 1 = ((b % 2 : Nat) : Int) := by decide +kernel
theorem bit_and (l : List Nat) (i : Nat) (hl : ∀ x ∈ l, x < 256) : bits .and .u8 (((l.getD (i / 8) 0 : Nat) : Int) / 2 ^ (7 - i % 8)) 1 = ((bitAt l i : Nat) : Int) := by
 have h1 : l.getD (i / 8) 0 < 256 := by
  by_cases h : i / 8 < l.length
  · have := hl _ (List.getElem_mem h); simpa [List.getD, h] using this
  · simp [List.getD, List.getElem?_eq_none (show l.length ≤ i / 8 by omega)]
 have h2 : l.getD (i / 8) 0 / 2 ^ (7 - i % 8) < 256 := Nat.lt_of_le_of_lt (Nat.div_le_self _ _) h1
 have e : ((l.getD (i / 8) 0 : Nat) : Int) / 2 ^ (7 - i % 8) = ((l.getD (i / 8) 0 / 2 ^ (7 - i % 8) : Nat) : Int) := by push_cast; rfl
 rw [e, and_one _ h2]
 rfl

set_option maxRecDepth 100000
open Go.RowKit
set_option linter.unusedVariables false
theorem bl125_0_1 (a0 : Option Nat) (a1 : Option Nat) (w : World) : (Instr.build 125 #[(0, .map a0), (1, .map a1)]).run Tryd.prog w = .ok (.agg #[.map a0, .map a1]) w := by kernel_rfl
theorem bl154_0_1 (m0 : Int) (m1 : Int) (w : World) : (Instr.build 154 #[(0, .int .i64 m0), (1, .int .i64 m1)]).run Tryd.prog w = .ok (.agg #[.int .i64 m0, .int .i64 m1]) w := by kernel_rfl
def wv (s : Int) (y : Nat × Nat) : Value := .agg #[.int .i64 s, .int .i64 (y.1 : Int), .int .i64 (y.2 : Int)]
def symF (L : List (Int × Nat × Nat)) (s : Int) : Option Value := (symW L s).map (wv s)
def codF (L : List (Int × Nat × Nat)) (p : Int × Int) : Option Value := (codW L p).map (Value.int .i64)
theorem symF_snoc (L : List (Int × Nat × Nat)) (s : Int) (l c : Nat) : (fun j => if j = s then some (Value.agg ([s, (l : Int), (c : Int)].map (Value.int .i64)).toArray) else symF L j) = symF (L ++ [(s, l, c)]) := by
 funext j
 unfold symF
 rw [symW_snoc]
 by_cases h : j = s
 · rw [if_pos h, if_pos h, h]; rfl
 · rw [if_neg h, if_neg h]
theorem codF_snoc (L : List (Int × Nat × Nat)) (s : Int) (l c : Nat) : (fun j => if j = ((l : Int), (c : Int)) then some (Value.int .i64 s) else codF L j) = codF (L ++ [(s, l, c)]) := by
 funext j
 unfold codF
 rw [codW_snoc]
 by_cases h : j = ((l : Int), (c : Int))
 · rw [if_pos h, if_pos h]; rfl
 · rw [if_neg h, if_neg h]
def cod (g : Nat) (L : List (Int × Nat × Nat)) : Res := bag fun x : Nat × Nat => [blk g [.map (some x.1), .map (some x.2)], mp ik x.1 (symF L), mp pk x.2 (codF L)]
set_option maxRecDepth 100000 in
set_option maxHeartbeats 4000000 in
theorem newCoder_any (w0 : World) (C S : List Int) (ad : Option Addr) (n c : Nat) (hC : Len C 16) (hv : Sl w0 1 (.slice ad n c) n (S.map (Value.int .i64))) (hn : n ≤ 9223372036854775807) (hok : tabE C S = 0) :
 Calls Tryd.prog 59 #[tv C (.slice ad n c)] w0 fun e w => ∃ g, e = .returned (.pointer (some ⟨g, 0, none⟩)) ∧ St w0 w [cod g (wds C S)] := by
 have hSl : S.length = n := by have := hv.1; simpa using this
 have hn256 : n ≤ 256 := by have := (tabE_ok hok).2.2.1; omega
 obtain ⟨L, hL⟩ : ∃ L, wds C S = L := ⟨_, rfl⟩
 have HL := hid hL
 have HLl : Hid (L.length = n) := hid (by rw [← hL, wds_len _ _ (tabE_ok hok).2.1, hSl])
 have HOk := hid hok
 clear hSl hL hok
 have hS := St.start w0
 go_enter Tryd.func59, Tryd.ntmps59
 repeat' (first
  | ((with_reducible refine gt9 _ (.call ⟨.value (.func 61), _, _⟩) ?_); refine wpl_call (f := 61) Tryd.call61 kr9 ?_; refine ⟨_, (wordsOf_any _ C S ad n c hC (hv.ext hS.1) hn HOk.out), ?_⟩; rintro e w ⟨a2, c2, rfl, hS2⟩; rw [HL.out] at hS2; replace hS := hS.call1 hS2; clear hS2; refine ⟨_, rfl, ?_⟩; refine put_move ?_; go_step) | (refine y91 ?_) | ((with_reducible refine gs9 8 ?_); (refine wvv9 (V.build (vs := [(0, _), (1, _)]) rfl (bl125_0_1 _ _)) ?_; go_step)) | (refine y9102 ?_) | ((with_reducible refine gs9 1 ?_); (refine wl9 ?_; apply wp_boxP (o := ⟨some 1, _, _, _, _, _⟩) hS 31 _ rfl _ rfl; clear hS; intro g1 w hS; refine put_move ?_; go_step)) | ((with_reducible refine gs9 6 ?_); (refine wl9 ?_; apply wp_makeMap (o := ⟨some 6, _, _, _, _, _⟩) ik hS 122 rfl; clear hS; intro g6 w hS; refine put_move ?_; go_step)) | ((with_reducible refine gs9 7 ?_); (refine wl9 ?_; apply wp_makeMap (o := ⟨some 7, _, _, _, _, _⟩) pk hS 123 rfl; clear hS; intro g7 w hS; refine put_move ?_; go_step)) | ((with_reducible refine gs9 9 ?_); (refine wl9 ?_; apply wp_boxG (o := ⟨some 9, _, _, _, _, _⟩) hS 125 _ rfl _ rfl; clear hS; intro g9 w hS; refine put_move ?_; go_step)) | (refine y9124 ?_) | ((fail_if_success with_reducible refine ga9 ?_); go_step))
 go_loopg [13] n (fun gk kv w => ∃ (i : Nat), gk + i = n ∧ kv = .int .i64 i ∧ St w0 w [own 91 3 a2 n c2 ((wfl L).map (Value.int .i64)), blk g9 [.map (some g6), .map (some g7)], mp ik g6 (symF (L.take i)), mp pk g7 (codF (L.take i))])
 case atStart => exact ⟨0, rfl, rfl, (by rw [show symF (L.take 0) = fun _ => none from rfl, show codF (L.take 0) = fun _ => none from rfl]; exact hS.sub sb9)⟩
 case round =>
  clear hS
  obtain ⟨i, hi, rfl, hS⟩ := hrel
  by_cases hlt : i < n
  · obtain ⟨b2, rfl⟩ := own_some hS pl9 (by omega)
    obtain ⟨⟨s, l, k⟩, hx⟩ : ∃ x, L[i]? = some x := ⟨_, List.getElem?_eq_getElem (by rw [HLl.out]; exact hlt)⟩
    have hseg := wfl_get L i _ hx
    dsimp only at hseg
    have ht : L.take (i + 1) = L.take i ++ [(s, l, k)] := by rw [List.take_add_one, hx]; rfl
    have H1 := hid (symF_snoc (L.take i) s l k)
    have H2 := hid (codF_snoc (L.take i) s l k)
    rw [← ht] at H1 H2
    clear hx ht
    repeat' (first
     | (refine y989 ?_) | ((with_reducible refine gs9 15 ?_); (refine wvv9 (V.indexSl Tryd.underlying85 isz91 rfl rfl isn9 (by omega) rfl nq9) ?_; go_step)) | ((with_reducible refine gt9 _ (.load 91 _) ?_); (refine wl9 ?_; apply wp_loadROE hS 91 _ rfl _ _ rfl 3 (row_of rfl) _ _ _ _ _; (case hp => exact pl9); (case hi => omega); (case hl' => with_reducible assumption); refine put_move ?_; go_step)) | ((with_reducible refine gs9 5 ?_); (refine wl9 ?_; apply wp_alloc (o := ⟨some 5, _, _, _, _, _⟩) hS 91 rfl (.agg #[.int .i64 0, .int .i64 0, .int .i64 0]) [.int .i64 0, .int .i64 0, .int .i64 0] (fun w => Tryd.zeroValue91 w) rfl; clear hS; intro g5 w hS; refine put_move ?_; go_step)) | ((with_reducible refine gt9 _ (.store 91 _ _) ?_); (refine wl9 ?_; apply wp_storeG hS 91 _ _ rfl _ rfl 3 (row_of rfl) _ _; (case hp => exact pl9); (case hy => rfl); (case hn => rfl); (case hn' => rfl); (case hv => rfl); (case hd => exact rfl); clear hS; intro w hS)) | ((fail_if_success with_reducible refine ga9 ?_); go_step))
    refine drawn_lit [7] (fun w => St w0 w [blk g5 ([s, (l : Int), (k : Int)].map (Value.int .i64)), blk g9 [.map (some g6), .map (some g7)]]) kr9 ?_
    replace hS := hS.drew
    focus
     refine takeM 0 _ al9 kr9 kr9 kr9 hq9 rfl ?_
     go_step
     (refine takeV 1 _ al9 kr9 kr9 kr9 hq9 (V.nilCheck rfl) rfl ?_)
     go_step
     (refine takeV 2 _ al9 kr9 kr9 kr9 hq9 (V.fieldAddr fo125_0 rfl nq9) rfl ?_)
     go_step
     apply takeS 3 al9 kr9 kr9 kr9 hq9 [7] kr9 (hS.sub sb9)
     case hfr => intro w hS; ((refine wl9 ?_; apply wp_load1 hS 122 _ rfl _ _ rfl (one_of rfl) _; (case hp => exact pl9); (case hc => rfl); refine put_move ?_; go_step)); refine wpList_nil ?_; exact ⟨rfl, rfl⟩
     case hd => rfl
     (refine takeV 4 _ al9 kr9 kr9 kr9 hq9 (V.fieldAddr fo91_0 rfl nq9) rfl ?_)
     go_step
     apply takeS 5 al9 kr9 kr9 kr9 hq9 [7] kr9 (hS.sub sb9)
     case hfr => intro w hS; ((refine wl9 ?_; apply wp_load1 hS 3 _ rfl _ _ rfl (one_of rfl) _; (case hp => exact pl9); (case hc => rfl); refine put_move ?_; go_step)); refine wpList_nil ?_; exact ⟨rfl, rfl⟩
     case hd => rfl
     apply takeS 6 al9 kr9 kr9 kr9 hq9 [7] kr9 (hS.sub sb9)
     case hfr => intro w hS; ((refine wl9 ?_; apply wp_loadG hS 91 _ rfl _ rfl 3 (row_of rfl) _; (case hp => exact pl9); (case hn => rfl); refine put_move ?_; go_step)); refine wpList_nil ?_; exact ⟨rfl, rfl⟩
     case hd => rfl
     refine branch1 7 al9 rfl kr9 ?_
     (refine wp_mapUpdate (enc := ik) hS 122 _ _ _ rfl _ rfl _ rfl Tryd.underlying122 (keyLaw_int Tryd.underlying3) _ pl9 _ (by (first | exact IsV.int rfl | exact IsV.bool rfl | exact IsV.slice rfl | exact IsV.pointer rfl | exact IsV.string rfl | exact IsV.map rfl | exact IsV.func rfl | exact IsV.agg rfl)) rfl ?_; clear hS; intro w hS)
     refine ⟨fun h => absurd (by decide) h, ?_⟩
     refine drawn_done kr9 ?_ _
    all_goals
     repeat' (first
      | ((fail_if_success with_reducible refine ga9 ?_); go_step))
     refine drawn_lit [11] (fun w => St w0 w [blk g5 ([s, (l : Int), (k : Int)].map (Value.int .i64)), blk g9 [.map (some g6), .map (some g7)]]) kr9 ?_
     replace hS := hS.drew
     focus
      refine takeM 0 _ al9 kr9 kr9 kr9 hq9 rfl ?_
      go_step
      (refine takeV 1 _ al9 kr9 kr9 kr9 hq9 (V.nilCheck rfl) rfl ?_)
      go_step
      (refine takeV 2 _ al9 kr9 kr9 kr9 hq9 (V.fieldAddr fo125_1 rfl nq9) rfl ?_)
      go_step
      apply takeS 3 al9 kr9 kr9 kr9 hq9 [11] kr9 (hS.sub sb9)
      case hfr => intro w hS; ((refine wl9 ?_; apply wp_load1 hS 123 _ rfl _ _ rfl (one_of rfl) _; (case hp => exact pl9); (case hc => rfl); refine put_move ?_; go_step)); refine wpList_nil ?_; exact ⟨rfl, rfl⟩
      case hd => rfl
      (refine takeV 4 _ al9 kr9 kr9 kr9 hq9 (V.fieldAddr fo91_1 rfl nq9) rfl ?_)
      go_step
      apply takeS 5 al9 kr9 kr9 kr9 hq9 [8, 11] kr9 (hS.sub sb9)
      case hfr => intro w hS; ((refine wl9 ?_; apply wp_load1 hS 3 _ rfl _ _ rfl (one_of rfl) _; (case hp => exact pl9); (case hc => rfl); refine put_move ?_; go_step)); refine wpList_nil ?_; exact ⟨rfl, rfl⟩
      case hd => rfl
      (refine takeV 6 _ al9 kr9 kr9 kr9 hq9 (V.fieldAddr fo91_2 rfl nq9) rfl ?_)
      go_step
      apply takeS 7 al9 kr9 kr9 kr9 hq9 [8, 11] kr9 (hS.sub sb9)
      case hfr => intro w hS; ((refine wl9 ?_; apply wp_load1 hS 3 _ rfl _ _ rfl (one_of rfl) _; (case hp => exact pl9); (case hc => rfl); refine put_move ?_; go_step)); refine wpList_nil ?_; exact ⟨rfl, rfl⟩
      case hd => rfl
      (refine takeV 8 _ al9 kr9 kr9 kr9 hq9 (V.build (vs := [(0, _), (1, _)]) rfl (bl154_0_1 _ _)) rfl ?_)
      go_step
      (refine takeV 9 _ al9 kr9 kr9 kr9 hq9 (V.fieldAddr fo91_0 rfl nq9) rfl ?_)
      go_step
      apply takeS 10 al9 kr9 kr9 kr9 hq9 [11] kr9 (hS.sub sb9)
      case hfr => intro w hS; ((refine wl9 ?_; apply wp_load1 hS 3 _ rfl _ _ rfl (one_of rfl) _; (case hp => exact pl9); (case hc => rfl); refine put_move ?_; go_step)); refine wpList_nil ?_; exact ⟨rfl, rfl⟩
      case hd => rfl
      refine branch1 11 al9 rfl kr9 ?_
      (refine wp_mapUpdate (enc := pk) hS 123 _ _ _ rfl _ rfl (_, _) rfl Tryd.underlying123 (keyLaw_pair Tryd.underlying154 Tryd.underlying3 isz3) _ pl9 _ (by (first | exact IsV.int rfl | exact IsV.bool rfl | exact IsV.slice rfl | exact IsV.pointer rfl | exact IsV.string rfl | exact IsV.map rfl | exact IsV.func rfl | exact IsV.agg rfl)) rfl ?_; clear hS; intro w hS)
      refine ⟨fun h => absurd (by decide) h, ?_⟩
      refine drawn_done kr9 ?_ _
     all_goals
      repeat' (first
       | (refine y9144 ?_) | (refine y983 ?_) | ((fail_if_success with_reducible refine ga9 ?_); go_step))
      go_roundg (gk - 1)
      case measure => omega
      case rel =>
       refine ⟨i + 1, by omega, by go_num, ?_⟩
       rw [← H1.out, ← H2.out]
       exact hS.sub sb9
  · obtain rfl : i = n := by omega
    rw [show L.take i = L by rw [← HLl.out]; exact List.take_length] at hS
    repeat' (first
     | (refine y91 ?_) | (refine y989 ?_) | ((fail_if_success with_reducible refine ga9 ?_); go_step))
    go_ret
    refine ⟨g9, rfl, St.close (g6, g7) ?_⟩
    rw [HL.out]
    exact hS.sub sb9
def wb (L : List (Int × Nat × Nat)) (s : Int) : List Bool := match symW L s with
 | some y => bitsOf y.1 y.2
 | none => []
set_option maxRecDepth 100000 in
set_option maxHeartbeats 4000000 in
theorem codPut_any (W w0 : World) (rs rs' rs2 : List Res) (g g2 : Nat) (L : List (Int × Nat × Nat)) (bs : List Bool) (s : Int) (hL : Good L) (hS : St W w0 rs) (hp : Pull (cod g L) rs rs') (hp2 : Pull (wr g2 bs) rs' rs2) (hb : bs.length ≤ 1000000000000) :
 Calls Tryd.prog 40 #[.pointer (some ⟨g, 0, none⟩), .pointer (some ⟨g2, 0, none⟩), .int .i64 s] w0 fun e w => e = .returned (.bool (symW L s).isSome) ∧ St W w (cod g L :: wr g2 (bs ++ wb L s) :: rs2) := by
 obtain ⟨⟨m1, m2⟩, hS⟩ := (hS.pull hp).open
 dsimp only [List.cons_append, List.nil_append] at hS
 have HG := hid hL
 clear hL
 have hp3 : Pull (wr g2 bs) (blk g [.map (some m1), .map (some m2)] :: mp ik m1 (symF L) :: mp pk m2 (codF L) :: rs') (blk g [.map (some m1), .map (some m2)] :: mp ik m1 (symF L) :: mp pk m2 (codF L) :: rs2) := .tail (.tail (.tail hp2))
 cases hs : symW L s with
 | none =>
  have hf : symF L s = none := by unfold symF; rw [hs]; rfl
  have HB := hid (show wb L s = [] by unfold wb; rw [hs])
  clear hs
  go_enter Tryd.func40, Tryd.ntmps40
  repeat' (first
   | (refine y91 ?_) | (refine y9136 ?_) | ((with_reducible refine gt9 _ (.fieldAddr 125 _ 0) ?_); (refine wvv9 (V.fieldAddr fo125_0 rfl nq9) ?_; go_step)) | (refine y9104 ?_) | (refine y9114 ?_) | ((with_reducible refine gs9 15 ?_); (refine wl9 ?_; apply wp_lookupN2 (enc := ik) hS 122 _ _ rfl _ rfl _ rfl Tryd.underlying122 (keyLaw_int Tryd.underlying3) (.agg #[.int .i64 0, .int .i64 0, .int .i64 0]) (fun w => Tryd.zeroValue91 w) _; (case hp => exact pl9); (case hf => with_reducible assumption); refine put_move ?_; go_step)) | ((with_reducible refine gs9 7 ?_); (refine wl9 ?_; apply wp_alloc (o := ⟨some 7, _, _, _, _, _⟩) hS 91 rfl (.agg #[.int .i64 0, .int .i64 0, .int .i64 0]) [.int .i64 0, .int .i64 0, .int .i64 0] (fun w => Tryd.zeroValue91 w) rfl; clear hS; intro g7 w hS; refine put_move ?_; go_step)) | ((with_reducible refine gt9 _ (.store 91 _ _) ?_); (refine wl9 ?_; apply wp_storeG hS 91 _ _ rfl _ rfl 3 (row_of rfl) _ _; (case hp => exact pl9); (case hy => rfl); (case hn => rfl); (case hn' => rfl); (case hv => rfl); (case hd => exact rfl); clear hS; intro w hS)) | ((fail_if_success with_reducible refine ga9 ?_); go_step))
  go_ret
  refine ⟨rfl, St.close (m1, m2) ?_⟩
  rw [HB.out, List.append_nil]
  exact (hS.pull (.tail hp3)).sub sb9
 | some y =>
  obtain ⟨l, k⟩ := y
  have hm := symW_mem hs
  obtain ⟨g1, g2', g3⟩ := HG.out.long _ hm
  dsimp only at g1 g2' g3
  have hf : symF L s = some (.agg #[.int .i64 s, .int .i64 (l : Int), .int .i64 (k : Int)]) := by unfold symF; rw [hs]; rfl
  have HB := hid (show wb L s = bitsOf l k by unfold wb; rw [hs])
  have HK := hid (show k < 2 ^ l by omega)
  clear hs hm g3
  go_enter Tryd.func40, Tryd.ntmps40
  repeat' (first
   | ((with_reducible refine gt9 _ (.call ⟨.value (.func 41), _, _⟩) ?_); refine wpl_call (f := 41) Tryd.call41 kr9 ?_; refine ⟨_, (put_any W _ _ _ g2 bs l k hS (.tail hp3) (by omega) HK.out (by omega)), ?_⟩; clear hS; rintro e w ⟨rfl, hS⟩; refine ⟨_, rfl, ?_⟩; refine put_move ?_; go_step) | (refine y91 ?_) | (refine y9136 ?_) | ((with_reducible refine gt9 _ (.fieldAddr 125 _ 0) ?_); (refine wvv9 (V.fieldAddr fo125_0 rfl nq9) ?_; go_step)) | (refine y9104 ?_) | ((with_reducible refine gt9 _ (.fieldAddr 91 _ 1) ?_); (refine wvv9 (V.fieldAddr fo91_1 rfl nq9) ?_; go_step)) | ((with_reducible refine gt9 _ (.fieldAddr 91 _ 2) ?_); (refine wvv9 (V.fieldAddr fo91_2 rfl nq9) ?_; go_step)) | (refine y9114 ?_) | ((with_reducible refine gs9 15 ?_); (refine wl9 ?_; apply wp_lookupS2 (enc := ik) hS 122 _ _ rfl _ rfl _ rfl Tryd.underlying122 (keyLaw_int Tryd.underlying3) (.agg #[.int .i64 0, .int .i64 0, .int .i64 0]) (fun w => Tryd.zeroValue91 w) _; (case hp => exact pl9); (case hf => with_reducible assumption); refine put_move ?_; go_step)) | ((with_reducible refine gs9 7 ?_); (refine wl9 ?_; apply wp_alloc (o := ⟨some 7, _, _, _, _, _⟩) hS 91 rfl (.agg #[.int .i64 0, .int .i64 0, .int .i64 0]) [.int .i64 0, .int .i64 0, .int .i64 0] (fun w => Tryd.zeroValue91 w) rfl; clear hS; intro g7 w hS; refine put_move ?_; go_step)) | ((with_reducible refine gt9 _ (.store 91 _ _) ?_); (refine wl9 ?_; apply wp_storeG hS 91 _ _ rfl _ rfl 3 (row_of rfl) _ _; (case hp => exact pl9); (case hy => rfl); (case hn => rfl); (case hn' => rfl); (case hv => rfl); (case hd => exact rfl); clear hS; intro w hS)) | (refine y9119 ?_) | ((fail_if_success with_reducible refine ga9 ?_); go_step))
  go_ret
  refine ⟨rfl, St.close (m1, m2) ?_⟩
  rw [HB.out]
  exact hS.sub sb9
def gtW (L : List (Int × Nat × Nat)) (l : List Nat) (i : Nat) : Nat → Nat → Int × Int × Nat
 | 0, d => (0, 4, i + d)
 | f + 1, d => if 8 * l.length < i + (d + 1) then (0, 3, i + d) else match codW L (((d + 1 : Nat) : Int), (numAt l i (d + 1) : Int)) with
  | some s => (s, 0, i + (d + 1))
  | none => gtW L l i f (d + 1)
theorem numAt_cat (l : List Nat) (i d : Nat) (h : i + d < 8 * l.length) : numAt l i (d + 1) = 2 * numAt l i d + numAt l (i + d) 1 := by
 rw [numAt_succ l i d h]
 congr 1
 have := numAt_succ l (i + d) 0 (by omega)
 rw [Nat.zero_add] at this
 rw [this, show numAt l (i + d) 0 = 0 by unfold numAt; rw [List.take_zero]; rfl]; simp

set_option maxRecDepth 100000
open Go.RowKit
theorem OneRes.prt {P : Program} {W w : World} {rs rs' : List Res} {tmps : Array Value} {p g n : Nat} {ty : TypeId} {ps : List Part} (hS : St W w rs) (hp : tmps.getD p undef = .pointer (some ⟨g, 0, none⟩)) (h1 : RowN P ty n) (pl : Pull (Go.Proofs.YtehbjhocgnfpmaaDoor.prt g ps) rs rs') (hn : Pre ps n ps) : OneRes P tmps w (.cell p ty) (.agg (pcells ps).toArray) :=
 OneRes.blk hS hp h1 pl hn.take.2

end Go.Proofs.YtehbjhocgnfpmaaDoor
/- The coders of seg: made and of. -/
namespace Go.Proofs.YtehbjhocgnfpmaaDoor
open Go.RowKit
set_option maxRecDepth 100000
set_option linter.unusedVariables false
section
variable {P : Program} {Q : Exit → Act → World → Prop} {a : Act} {W w : World} {c : Code}
theorem wp_join3 {F : Nat → Nat → Nat → Act} (rs : Nat → Nat → Nat → List Res) (h : c.wp P (fun e a w => e = .normal ∧ ∃ g g' g2, a = F g g' g2 ∧ St W w (rs g g' g2)) a w) (k : ∀ g g' g2 w, St W w (rs g g' g2) → Q .normal (F g g' g2) w) : c.wp P Q a w :=
 Code.wp_mono (fun e a w ⟨he, g, g', g2, ha, hS⟩ => by subst he; subst ha; exact k g g' g2 w hS) h
end
theorem bl120_0_1 (a0 : Option Addr) (a1 : Option Addr) (w : World) : (Instr.build 120 #[(0, .pointer a0), (1, .pointer a1)]).run Tryd.prog w = .ok (.agg #[.pointer a0, .pointer a1]) w := by kernel_rfl
theorem bl78_  (w : World) : (Instr.build 78 #[]).run Tryd.prog w = .ok (.agg #[.slice none 0 0, .int .u64 0, .int .i64 0]) w := by kernel_rfl
theorem bl99_0_1 (a0 : Option Addr) (a1 : Option Addr) (w : World) : (Instr.build 99 #[(0, .pointer a0), (1, .pointer a1)]).run Tryd.prog w = .ok (.agg #[.pointer a0, .pointer a1]) w := by kernel_rfl
theorem bl69_  (w : World) : (Instr.build 69 #[]).run Tryd.prog w = .ok (.agg #[.int .i64 0, .int .i64 0, .int .i64 0]) w := by kernel_rfl
theorem bl69_0_1 (m0 : Int) (m1 : Int) (w : World) : (Instr.build 69 #[(0, .int .i64 m0), (1, .int .i64 m1)]).run Tryd.prog w = .ok (.agg #[.int .i64 m0, .int .i64 m1, .int .i64 0]) w := by kernel_rfl
def cdr (g : Nat) (L1 L2 : List (Int × Nat × Nat)) : Res := bag fun x : Nat × Nat => [blk g [.pointer (some ⟨x.1, 0, none⟩), .pointer (some ⟨x.2, 0, none⟩)], cod x.1 L1, cod x.2 L2]
theorem tabLen2 (C : List Int) (v : Value) (h : Len C 16) : (pcells [.ints C, .val v]).length = 17 := by
 have := h.out
 simp [pcells, Part.cells, this]
theorem tabs3 (C1 C2 : List Int) (v1 v2 : Value) : pcells [.ints C1, .val v1] ++ (pcells [.ints C2, .val v2] ++ []) = pcells [.ints C1, .val v1, .ints C2, .val v2] := by
 simp [pcells, Part.cells]
theorem st_tabs3 {W w : World} {rs : List Res} {g : Nat} {C1 C2 : List Int} {v1 v2 : Value} (hS : St W w (blk g (pcells [.ints C1, .val v1] ++ (pcells [.ints C2, .val v2] ++ [])) :: rs)) : St W w (prt g [.ints C1, .val v1, .ints C2, .val v2] :: rs) := by
 rw [tabs3] at hS; exact hS
def tbE (C1 S1 C2 S2 : List Int) : Int := if tabE C1 S1 = 0 then tabE C2 S2 else tabE C1 S1
set_option maxHeartbeats 8000000 in
theorem made_bad (w0 : World) (C1 C2 S1 S2 : List Int) (a1 a2 : Option Addr) (n1 n2 k1 k2 : Nat) (hC1 : Len C1 16) (hC2 : Len C2 16) (hs1 : Sl w0 1 (.slice a1 n1 k1) n1 (S1.map (Value.int .i64))) (hs2 : Sl w0 1 (.slice a2 n2 k2) n2 (S2.map (Value.int .i64))) (hn1 : n1 ≤ 9223372036854775807) (hn2 : n2 ≤ 9223372036854775807) (E : Int) (hE : tbE C1 S1 C2 S2 = E) (h0 : E ≠ 0) :
 Calls Tryd.prog 37 #[.agg (pcells [.ints C1, .val (.slice a1 n1 k1), .ints C2, .val (.slice a2 n2 k2)]).toArray] w0 fun e w => e = .returned (.tuple #[.pointer none, .int .i64 E]) ∧ Ext w0 w := by
 have hS := St.start w0
 have hL1 := hid (tabLen2 C1 (.slice a1 n1 k1) hC1)
 have hL2 := hid (tabLen2 C2 (.slice a2 n2 k2) hC2)
 obtain ⟨E1, hE1⟩ : ∃ x, tabE C1 S1 = x := ⟨_, rfl⟩
 obtain ⟨E2, hE2⟩ : ∃ x, tabE C2 S2 = x := ⟨_, rfl⟩
 have HE1 := hid hE1
 have HE2 := hid hE2
 have he : (if E1 = 0 then E2 else E1) = E := by rw [← hE1, ← hE2]; exact hE
 have HE := hid he
 clear hE1 hE2 hE he
 go_enter Tryd.func37, Tryd.ntmps37
 repeat' (first
  | ((with_reducible refine gs9 11 ?_); refine wl9 ?_; refine wp_buildSlice1 (o := ⟨some 11, _, _, _, _, _⟩) hS 106 2 _ rfl 31 17 152 el106 _ _ (Parts.agg rfl hL1.out (Parts.agg rfl hL2.out Parts.nil)) rfl (by decide) (by decide) ?_; clear hS; intro g11 w hS; replace hS := st_tabs3 hS; refine put_move ?_; go_step) | (refine y91 ?_) | (refine y9107 ?_) | (refine y9108 ?_) | (refine y996 ?_) | ((with_reducible refine gs9 1 ?_); (refine wl9 ?_; apply wp_boxP (o := ⟨some 1, _, _, _, _, _⟩) hS 33 _ rfl _ rfl; clear hS; intro g1 w hS; refine put_move ?_; go_step)) | (refine y9124 ?_) | ((fail_if_success with_reducible refine ga9 ?_); go_step))
 clear hL1 hL2
 go_loopg [13] 2 (fun gk kv w => ∃ k : Nat, gk + k = 2 ∧ kv = .int .i64 k ∧ (1 ≤ k → E1 = 0) ∧ (2 ≤ k → E2 = 0) ∧ St w0 w [prt g1 [.ints C1, .val (.slice a1 n1 k1), .ints C2, .val (.slice a2 n2 k2)], prt g11 [.ints C1, .val (.slice a1 n1 k1), .ints C2, .val (.slice a2 n2 k2)]])
 case atStart => exact ⟨0, rfl, rfl, fun h => absurd h (by omega), fun h => absurd h (by omega), hS.sub sb9⟩
 case round =>
  clear hS
  obtain ⟨k, hk, rfl, HA, HB, hS⟩ := hrel
  by_cases hlt : k < 2
  · obtain rfl | rfl : k = 0 ∨ k = 1 := by omega
    · skip
      repeat' (first
       | ((with_reducible refine gt9 _ (.call ⟨.value (.func 52), _, _⟩) ?_); refine wpl_call (f := 52) Tryd.call52 kr9 ?_; refine ⟨_, (check_any _ C1 S1 a1 n1 k1 hC1 (hs1.ext hS.1) hn1), ?_⟩; rintro e w ⟨rfl, hE2⟩; rw [HE1.out]; replace hS := hS.ext hE2; clear hE2; refine ⟨_, rfl, ?_⟩; refine put_move ?_; go_step) | (refine y91 ?_) | (refine y989 ?_) | (refine y925 ?_) | (refine y990 ?_) | (refine y983 ?_) | (refine y9124 ?_) | ((with_reducible refine gs9 5 ?_); (refine wl9 ?_; apply wp_allocP (o := ⟨some 5, _, _, _, _, _⟩) hS 31 rfl _ zp31; clear hS; intro g5 w hS; refine put_move ?_; go_step)) | ((with_reducible refine gt9 _ (.store 31 _ _) ?_); (refine wl9 ?_; apply wp_storePP hS 31 _ _ rfl _ rfl 17 (row_of rfl) _ _; (case hp => exact pl9); (case hy => rfl); (case hn => (repeat (first | exact Pre.nil | (apply Pre.ints; (case hn => (first | (with_reducible assumption) | exact Len.rep | exact Len.set (by with_reducible assumption) | exact Len.set Len.rep | exact Len.set (Len.set Len.rep))); (case h => omega); (case hm => rfl)) | apply Pre.val))); (case hn' => (repeat (first | exact Pre.nil | (apply Pre.ints; (case hn => (first | (with_reducible assumption) | exact Len.rep | exact Len.set (by with_reducible assumption) | exact Len.set Len.rep | exact Len.set (Len.set Len.rep))); (case h => omega); (case hm => rfl)) | apply Pre.val))); (case hv => rfl); (case hd => exact rfl); clear hS; intro w hS)) | ((fail_if_success with_reducible refine ga9 ?_); go_step))
      · skip
        refine ret_all (xs := [_, _]) rfl (.cons (OneRes.tmp rfl) (.cons (OneRes.tmp rfl) (.nil))) (by simp) rfl ?_
        exact ⟨by have h := HE.out; rw [if_neg (by omega)] at h; rw [h]; rfl, hS.1⟩
      · go_roundg (gk - 1)
        case measure => omega
        case rel => exact ⟨1, by omega, rfl, fun _ => by omega, fun h => absurd h (by omega), hS.sub sb9⟩
    · have h1 := HA (by omega)
      subst h1
      repeat' (first
       | ((with_reducible refine gt9 _ (.call ⟨.value (.func 52), _, _⟩) ?_); refine wpl_call (f := 52) Tryd.call52 kr9 ?_; refine ⟨_, (check_any _ C2 S2 a2 n2 k2 hC2 (hs2.ext hS.1) hn2), ?_⟩; rintro e w ⟨rfl, hE2⟩; rw [HE2.out]; replace hS := hS.ext hE2; clear hE2; refine ⟨_, rfl, ?_⟩; refine put_move ?_; go_step) | (refine y91 ?_) | (refine y989 ?_) | (refine y925 ?_) | (refine y990 ?_) | (refine y983 ?_) | (refine y9124 ?_) | ((with_reducible refine gs9 5 ?_); (refine wl9 ?_; apply wp_allocP (o := ⟨some 5, _, _, _, _, _⟩) hS 31 rfl _ zp31; clear hS; intro g5 w hS; refine put_move ?_; go_step)) | ((with_reducible refine gt9 _ (.store 31 _ _) ?_); (refine wl9 ?_; apply wp_storePP hS 31 _ _ rfl _ rfl 17 (row_of rfl) _ _; (case hp => exact pl9); (case hy => rfl); (case hn => (repeat (first | exact Pre.nil | (apply Pre.ints; (case hn => (first | (with_reducible assumption) | exact Len.rep | exact Len.set (by with_reducible assumption) | exact Len.set Len.rep | exact Len.set (Len.set Len.rep))); (case h => omega); (case hm => rfl)) | apply Pre.val))); (case hn' => (repeat (first | exact Pre.nil | (apply Pre.ints; (case hn => (first | (with_reducible assumption) | exact Len.rep | exact Len.set (by with_reducible assumption) | exact Len.set Len.rep | exact Len.set (Len.set Len.rep))); (case h => omega); (case hm => rfl)) | apply Pre.val))); (case hv => rfl); (case hd => exact rfl); clear hS; intro w hS)) | ((fail_if_success with_reducible refine ga9 ?_); go_step))
      · skip
        refine ret_all (xs := [_, _]) rfl (.cons (OneRes.tmp rfl) (.cons (OneRes.tmp rfl) (.nil))) (by simp) rfl ?_
        exact ⟨by have h := HE.out; rw [if_pos rfl] at h; rw [h]; rfl, hS.1⟩
      · go_roundg (gk - 1)
        case measure => omega
        case rel => exact ⟨2, by omega, rfl, fun _ => rfl, fun _ => by omega, hS.sub sb9⟩
  · have h1 := HA (by omega)
    have h2 := HB (by omega)
    exact absurd (by have h := HE.out; rw [if_pos h1, h2] at h; exact h.symm) h0
set_option maxHeartbeats 8000000 in
theorem made_ok (w0 : World) (C1 C2 S1 S2 : List Int) (a1 a2 : Option Addr) (n1 n2 k1 k2 : Nat) (hC1 : Len C1 16) (hC2 : Len C2 16) (hs1 : Sl w0 1 (.slice a1 n1 k1) n1 (S1.map (Value.int .i64))) (hs2 : Sl w0 1 (.slice a2 n2 k2) n2 (S2.map (Value.int .i64))) (hn1 : n1 ≤ 9223372036854775807) (hn2 : n2 ≤ 9223372036854775807) (hE1 : tabE C1 S1 = 0) (hE2 : tabE C2 S2 = 0) :
 Calls Tryd.prog 37 #[.agg (pcells [.ints C1, .val (.slice a1 n1 k1), .ints C2, .val (.slice a2 n2 k2)]).toArray] w0 fun e w => ∃ g, e = .returned (.tuple #[.pointer (some ⟨g, 0, none⟩), .int .i64 0]) ∧ St w0 w [cdr g (wds C1 S1) (wds C2 S2)] := by
 have hS := St.start w0
 have hL1 := hid (tabLen2 C1 (.slice a1 n1 k1) hC1)
 have hL2 := hid (tabLen2 C2 (.slice a2 n2 k2) hC2)
 have HE1 := hid hE1
 have HE2 := hid hE2
 clear hE1 hE2
 go_enter Tryd.func37, Tryd.ntmps37
 repeat' (first
  | ((with_reducible refine gs9 11 ?_); refine wl9 ?_; refine wp_buildSlice1 (o := ⟨some 11, _, _, _, _, _⟩) hS 106 2 _ rfl 31 17 152 el106 _ _ (Parts.agg rfl hL1.out (Parts.agg rfl hL2.out Parts.nil)) rfl (by decide) (by decide) ?_; clear hS; intro g11 w hS; replace hS := st_tabs3 hS; refine put_move ?_; go_step) | (refine y91 ?_) | (refine y9107 ?_) | (refine y9108 ?_) | (refine y996 ?_) | ((with_reducible refine gs9 1 ?_); (refine wl9 ?_; apply wp_boxP (o := ⟨some 1, _, _, _, _, _⟩) hS 33 _ rfl _ rfl; clear hS; intro g1 w hS; refine put_move ?_; go_step)) | (refine y9124 ?_) | ((fail_if_success with_reducible refine ga9 ?_); go_step))
 clear hL1 hL2
 go_loopg [13] 2 (fun gk kv w => ∃ k : Nat, gk + k = 2 ∧ kv = .int .i64 k ∧ St w0 w [prt g1 [.ints C1, .val (.slice a1 n1 k1), .ints C2, .val (.slice a2 n2 k2)], prt g11 [.ints C1, .val (.slice a1 n1 k1), .ints C2, .val (.slice a2 n2 k2)]])
 case atStart => exact ⟨0, rfl, rfl, hS.sub sb9⟩
 case round =>
  clear hS
  obtain ⟨k, hk, rfl, hS⟩ := hrel
  by_cases hlt : k < 2
  · obtain rfl | rfl : k = 0 ∨ k = 1 := by omega
    · skip
      repeat' (first
       | ((with_reducible refine gt9 _ (.call ⟨.value (.func 52), _, _⟩) ?_); refine wpl_call (f := 52) Tryd.call52 kr9 ?_; refine ⟨_, (check_any _ C1 S1 a1 n1 k1 hC1 (hs1.ext hS.1) hn1), ?_⟩; rintro e w ⟨rfl, hE2⟩; rw [HE1.out]; replace hS := hS.ext hE2; clear hE2; refine ⟨_, rfl, ?_⟩; refine put_move ?_; go_step) | (refine y91 ?_) | (refine y989 ?_) | (refine y925 ?_) | (refine y990 ?_) | (refine y9124 ?_) | ((with_reducible refine gs9 5 ?_); (refine wl9 ?_; apply wp_allocP (o := ⟨some 5, _, _, _, _, _⟩) hS 31 rfl _ zp31; clear hS; intro g5 w hS; refine put_move ?_; go_step)) | ((with_reducible refine gt9 _ (.store 31 _ _) ?_); (refine wl9 ?_; apply wp_storePP hS 31 _ _ rfl _ rfl 17 (row_of rfl) _ _; (case hp => exact pl9); (case hy => rfl); (case hn => (repeat (first | exact Pre.nil | (apply Pre.ints; (case hn => (first | (with_reducible assumption) | exact Len.rep | exact Len.set (by with_reducible assumption) | exact Len.set Len.rep | exact Len.set (Len.set Len.rep))); (case h => omega); (case hm => rfl)) | apply Pre.val))); (case hn' => (repeat (first | exact Pre.nil | (apply Pre.ints; (case hn => (first | (with_reducible assumption) | exact Len.rep | exact Len.set (by with_reducible assumption) | exact Len.set Len.rep | exact Len.set (Len.set Len.rep))); (case h => omega); (case hm => rfl)) | apply Pre.val))); (case hv => rfl); (case hd => exact rfl); clear hS; intro w hS)) | ((fail_if_success with_reducible refine ga9 ?_); go_step))
      repeat' (first
       | (refine y9144 ?_) | (refine y983 ?_) | ((fail_if_success with_reducible refine ga9 ?_); go_step))
      all_goals (try (have hF : False := (by omega); cases hF))
      go_roundg (gk - 1)
      case measure => omega
      case rel => exact ⟨1, by omega, rfl, hS.sub sb9⟩
    · skip
      repeat' (first
       | ((with_reducible refine gt9 _ (.call ⟨.value (.func 52), _, _⟩) ?_); refine wpl_call (f := 52) Tryd.call52 kr9 ?_; refine ⟨_, (check_any _ C2 S2 a2 n2 k2 hC2 (hs2.ext hS.1) hn2), ?_⟩; rintro e w ⟨rfl, hE2⟩; rw [HE2.out]; replace hS := hS.ext hE2; clear hE2; refine ⟨_, rfl, ?_⟩; refine put_move ?_; go_step) | (refine y91 ?_) | (refine y989 ?_) | (refine y925 ?_) | (refine y990 ?_) | (refine y9124 ?_) | ((with_reducible refine gs9 5 ?_); (refine wl9 ?_; apply wp_allocP (o := ⟨some 5, _, _, _, _, _⟩) hS 31 rfl _ zp31; clear hS; intro g5 w hS; refine put_move ?_; go_step)) | ((with_reducible refine gt9 _ (.store 31 _ _) ?_); (refine wl9 ?_; apply wp_storePP hS 31 _ _ rfl _ rfl 17 (row_of rfl) _ _; (case hp => exact pl9); (case hy => rfl); (case hn => (repeat (first | exact Pre.nil | (apply Pre.ints; (case hn => (first | (with_reducible assumption) | exact Len.rep | exact Len.set (by with_reducible assumption) | exact Len.set Len.rep | exact Len.set (Len.set Len.rep))); (case h => omega); (case hm => rfl)) | apply Pre.val))); (case hn' => (repeat (first | exact Pre.nil | (apply Pre.ints; (case hn => (first | (with_reducible assumption) | exact Len.rep | exact Len.set (by with_reducible assumption) | exact Len.set Len.rep | exact Len.set (Len.set Len.rep))); (case h => omega); (case hm => rfl)) | apply Pre.val))); (case hv => rfl); (case hd => exact rfl); clear hS; intro w hS)) | ((fail_if_success with_reducible refine ga9 ?_); go_step))
      repeat' (first
       | (refine y9144 ?_) | (refine y983 ?_) | ((fail_if_success with_reducible refine ga9 ?_); go_step))
      all_goals (try (have hF : False := (by omega); cases hF))
      go_roundg (gk - 1)
      case measure => omega
      case rel => exact ⟨2, by omega, rfl, hS.sub sb9⟩
  · obtain rfl : k = 2 := by omega
    repeat' (first
     | (refine y989 ?_) | ((fail_if_success with_reducible refine ga9 ?_); go_step))
    apply wp_join3 (rs := fun g25 g28 g30 => [cdr g30 (wds C1 S1) (wds C2 S2)])
    · skip
      refine drawn_lit [5, 7] (fun w => St w0 w [prt g1 [.ints C1, .val (.slice a1 n1 k1), .ints C2, .val (.slice a2 n2 k2)]]) kr9 ?_
      replace hS := hS.drew
      focus
       (refine takeV 0 _ al9 kr9 kr9 kr9 (fun _ _ _ _ h => nomatch h.1) (V.fieldAddr fo33_0 rfl nq9) rfl ?_)
       go_step
       apply takeS 1 al9 kr9 kr9 kr9 (fun _ _ _ _ h => nomatch h.1) [2, 5, 6, 7, 8, 9] kr9 (hS.sub sb9)
       case hfr => intro w hS; ((refine wl9 ?_; apply wp_loadPP hS 31 _ rfl _ _ rfl 17 (row_of rfl) _; (case hp => exact pl9); (case hi => (repeat (first | (apply AtP.head; (repeat (first | exact Pre.nil | (apply Pre.ints; (case hn => (first | (with_reducible assumption) | exact Len.rep | exact Len.set (by with_reducible assumption) | exact Len.set Len.rep | exact Len.set (Len.set Len.rep))); (case h => omega); (case hm => rfl)) | apply Pre.val))) | (apply AtP.skipI; (case hn => (first | (with_reducible assumption) | exact Len.rep | exact Len.set (by with_reducible assumption) | exact Len.set Len.rep | exact Len.set (Len.set Len.rep))); (case h => omega); (case ho => rfl)) | apply AtP.skipV))); refine put_move ?_; go_step)); refine wpList_nil ?_; exact ⟨rfl, rfl⟩
       case hd => rfl
       (refine takeV 3 _ al9 kr9 kr9 kr9 (fun _ _ _ _ h => nomatch h.1) (V.fieldAddr fo33_1 rfl nq9) rfl ?_)
       go_step
       apply takeS 4 al9 kr9 kr9 kr9 (fun _ _ _ _ h => nomatch h.1) [5, 6, 7, 8, 9] kr9 (hS.sub sb9)
       case hfr => intro w hS; ((refine wl9 ?_; apply wp_loadPP hS 31 _ rfl _ _ rfl 17 (row_of rfl) _; (case hp => exact pl9); (case hi => (repeat (first | (apply AtP.head; (repeat (first | exact Pre.nil | (apply Pre.ints; (case hn => (first | (with_reducible assumption) | exact Len.rep | exact Len.set (by with_reducible assumption) | exact Len.set Len.rep | exact Len.set (Len.set Len.rep))); (case h => omega); (case hm => rfl)) | apply Pre.val))) | (apply AtP.skipI; (case hn => (first | (with_reducible assumption) | exact Len.rep | exact Len.set (by with_reducible assumption) | exact Len.set Len.rep | exact Len.set (Len.set Len.rep))); (case h => omega); (case ho => rfl)) | apply AtP.skipV))); refine put_move ?_; go_step)); refine wpList_nil ?_; exact ⟨rfl, rfl⟩
       case hd => rfl
       refine branch1 2 al9 rfl kr9 ?_
       refine wp_callF (f := 59) rfl Tryd.call59 (newCoder_any _ C1 S1 a1 n1 k1 hC1 (hs1.ext hS.1) hn1 HE1.out) ?_; rintro e w ⟨g25, rfl, hS2⟩; replace hS := hS.call1 hS2; clear hS2; refine ⟨_, rfl, ?_⟩
       refine ⟨fun _ _ => hS.sub sb9, ?_⟩
       refine drawn_move ?_
       go_step
       refine branch1 5 al9 rfl kr9 ?_
       refine wp_callF (f := 59) rfl Tryd.call59 (newCoder_any _ C2 S2 a2 n2 k2 hC2 (hs2.ext hS.1) hn2 HE2.out) ?_; rintro e w ⟨g28, rfl, hS2⟩; replace hS := hS.call1 hS2; clear hS2; refine ⟨_, rfl, ?_⟩
       refine ⟨fun h => absurd (by decide) h, ?_⟩
       refine drawn_move ?_
       go_step
       (refine takeV 6 _ al9 kr9 kr9 kr9 (fun _ _ _ _ h => nomatch h.1) (V.build (vs := [(0, _), (1, _)]) rfl (bl120_0_1 _ _)) rfl ?_)
       go_step
       refine branch1 7 al9 rfl kr9 ?_
       (refine wp_boxG (o := ⟨some 30, _, _, _, _, _⟩) hS 120 _ rfl _ rfl ?_; clear hS; intro g30 w hS)
       refine ⟨fun h => absurd (by decide) h, ?_⟩
       refine drawn_move ?_
       go_step
       refine takeA 8 _ al9 kr9 kr9 kr9 (fun _ _ _ _ h => nomatch h.1) rfl ?_
       go_step
       refine takeA 9 _ al9 kr9 kr9 kr9 (fun _ _ _ _ h => nomatch h.1) rfl ?_
       go_step
       refine drawn_done kr9 ?_ _
       exact ⟨rfl, g25, g28, g30, rfl, St.close (g25, g28) (by dsimp only [List.cons_append, List.nil_append]; exact hS.sub sb9)⟩
    clear hS
    intro g25 g28 g30 w hS
    repeat' ((fail_if_success with_reducible refine ga9 ?_); go_step)
    refine ret_all (xs := [_, _]) rfl (.cons (OneRes.tmp rfl) (.cons (OneRes.tmp rfl) (.nil))) (by simp) rfl ?_
    exact ⟨g30, rfl, hS⟩

end Go.Proofs.YtehbjhocgnfpmaaDoor
/- copy into a row that the call owns. -/
namespace Go.Proofs.YtehbjhocgnfpmaaDoor
open Go.RowKit
set_option linter.unusedVariables false
section
variable {P : Program} {W w : World} {rs rs' : List Res} {Q : Exit → Act → World → Prop} {K : Act → World → Prop} {o : Oper} {a : Act}
theorem wp_copyO (hS : St W w rs) (d x : Operand) (tT : TypeId) (ho : o.op = .call { callee := .builtin .copy, args := #[d, x], argTypes := #[tT, tT] }) (e b : TypeId) (el : ElemT P tT e 1 b) (g q n c : Nat) (cs : List Value) (hd : a.eval d = .slice (cutAt (some ⟨g, 0, none⟩) c q 1) (n - q) (c - q)) (hp : Pull (own e 1 (some ⟨g, 0, none⟩) n c cs) rs rs')
 (v : Value) (hx : a.eval x = v) (m : Nat) (news : List Value) (hm : Sl w 1 v m news) (hq : q + m ≤ n) (h1 : ∀ u ∈ news, u.oneCell' = true)
 (h : ∀ w', St W w' (own e 1 (some ⟨g, 0, none⟩) n c (cs.take q ++ news ++ cs.drop (q + m)) :: rs') → K (a.put o.dst (.int .i64 m)) w') : o.wp P a w K Q := by
 obtain ⟨ht, ⟨i, z, hi, hz, hsz, hby, hzs⟩, hpos⟩ := el
 have hs1 : (P.info? e).map (·.size) = some 1 := by rw [hi]; simp [hsz]
 have hown := hS.own hp
 obtain ⟨hl, aa, cc, rfl, hmc, hcm, hor⟩ := hm
 have hlm : news.length = m := by simpa using hl
 by_cases hm0 : m = 0
 · subst hm0
   have hnil : news = [] := List.eq_nil_of_length_eq_zero hlm
   subst hnil
   have hr := run_copy_none (P := P) w tT tT o.type e (cutAt (some ⟨g, 0, none⟩) c q 1) aa (n - q) (c - q) 0 cc ht hs1 (Nat.zero_min _)
   have hk := h w (by
    have e1 : cs.take q ++ [] ++ cs.drop (q + 0) = cs := by simp
    rw [e1]; exact hS.pull hp)
   unfold Oper.wp execOp
   simp only [ho, resolve, invoke, builtin, Sem.run_bind, Sem.run_pure, Result.andThen_ok, List.map_toArray, List.map_cons, List.map_nil, hd, hx, hr]
   exact hk
 · rcases hor with h0 | ⟨bb, off, rfl, hcells⟩
   · exact absurd h0 hm0
   · rcases hown.2 with ⟨h2, _⟩ | ⟨g', cap, cur, h2, _, hg, hnc, hcm2, hcs, htake⟩
     · cases h2
     · cases h2
       have hcq : ¬ (c = q) := by omega
       have hd2 : a.eval d = .slice (some ⟨g, q, none⟩) (n - q) (c - q) := by
        rw [hd, cutAt, if_neg hcq]
        simp only [Option.map_some, Addr.add_mid, Nat.zero_add, Nat.mul_one]
       have hsrc : ∀ j u, news[j]? = some u → w.cell? ((⟨bb, off, none⟩ : Addr).add j) = some u := fun j u hu => by
        have hj : j < m * 1 := by rw [← hl]; exact (List.getElem?_eq_some_iff.1 hu).1
        rw [Addr.add_mid, hcells j hj, hu]
       have hr := run_copy_row (P := P) w tT tT o.type e g q (n - q) (c - q) ⟨bb, off, none⟩ m cc cur e news ht hs1 hg (by rw [hlm]; exact (Nat.min_eq_left (by omega)).symm) hsrc (by rw [hlm, hcs]; omega) h1
       have hxl : cs.length = n := by have := hown.1; simpa using this
       have htl : cur.toList.take n = cs := by have := htake; rwa [Nat.mul_one] at this
       have hcl : cur.toList.length = c := by rw [Array.length_toList, hcs, Nat.mul_one]
       have hnew : (cur.toList.take q ++ news ++ cur.toList.drop (q + m)).take n = cs.take q ++ news ++ cs.drop (q + m) := by
        have a1 : cur.toList.take q = cs.take q := by rw [← htl, List.take_take, Nat.min_eq_left (by omega)]
        have a2 : (cur.toList.drop (q + m)).take (n - (q + m)) = cs.drop (q + m) := by rw [← htl, List.drop_take]
        have a3 : (cur.toList.take q ++ news).length = q + m := by rw [List.length_append, hlm, List.length_take, hcl]; omega
        rw [List.take_append, List.take_of_length_le (by omega), a3, a2, a1]
       have hst : St W (w.setRow g (cur.toList.take q ++ news ++ cur.toList.drop (q + news.length)).toArray) ([own e 1 (some ⟨g, 0, none⟩) n c (cs.take q ++ news ++ cs.drop (q + m))] ++ rs') := by
        refine St.change (hS.pull hp) fun f1 k1 hf1 hn1 => ?_
        obtain ⟨rfl, k1⟩ := k1
        refine ⟨[g], ⟨[g], [], by simp, ⟨rfl, ?_, .inr ⟨g, c, _, rfl, Nat.zero_le _, setRow_heap w g cur _ e _ hg, hnc, hcm2, ?_, ?_⟩⟩, rfl⟩, by simp, fun b hb => .inl hb, Only.setRow w g _⟩
        · simp only [List.length_append, List.length_take, List.length_drop, hlm, hxl]; omega
        · simp only [List.size_toArray, List.length_append, List.length_take, List.length_drop, hlm, hcl]; omega
        · rw [hlm, Nat.mul_one]; simpa using hnew
       have hk := h _ hst
       unfold Oper.wp execOp
       simp only [ho, resolve, invoke, builtin, Sem.run_bind, Sem.run_pure, Result.andThen_ok, List.map_toArray, List.map_cons, List.map_nil, hd2, hx, hr, hlm]
       rw [hlm] at hk
       exact hk
end

end Go.Proofs.YtehbjhocgnfpmaaDoor
/-
  DERIVED: THE SHELF's CONTRACTS AT THIS DUMP, IN PLAIN WORDS (tools/lay-plain.mjs out of 'TrydShelf.lean', which tools/lay-shelf.mjs wrote): THE SAME DECLARATIONS UNDER THE SAME NAMES: 'import', 'namespace', 'open', 'def', 'theorem' AND NOTHING ELSE: no command of the shelf's: FOR A HAND-IN. Each laying: the table of numbers ('.._ren') and one theorem, a field a fact of the dump's own or the kernel's comparison; each contract: ONE APPLICATION.
-/
namespace Go.Proofs
open Go.Shelf
def Tryd.lays125_ren : Go.Shelf.Ren := ⟨fun | 125 => 110 | 128 => 113 | 129 => 114 | n => n, fun | 46 => 147 | 3 => 3 | 51 => 171 | 53 => 76 | 4 => 4 | 5 => 5 | 9 => 9 | n => n, fun | n => n⟩
theorem Tryd.lays125 : Go.Proofs.Lays.n125 Tryd.prog Tryd.lays125_ren := {
  mixed := by kernel_rfl
  f125 := Tryd.func110.trans (congrArg some (by kernel_rfl))
  f128 := Tryd.func113.trans (congrArg some (by kernel_rfl))
  f129 := Tryd.func114.trans (congrArg some (by kernel_rfl))
  t3 := Tryd.underlying3
  a3 := Tryd.isAgg3
  z3 := Tryd.sizeOf3
  v3 := Tryd.zeroValue3
  t4 := Tryd.underlying4
  a4 := Tryd.isAgg4
  z4 := Tryd.sizeOf4
  v4 := Tryd.zeroValue4
  t5 := Tryd.underlying5
  a5 := Tryd.isAgg5
  z5 := Tryd.sizeOf5
  v5 := Tryd.zeroValue5
  t9 := Tryd.underlying9
  a9 := Tryd.isAgg9
  z9 := Tryd.sizeOf9
  v9 := Tryd.zeroValue9
  t46 := Tryd.underlying147
  a46 := Tryd.isAgg147
  z46 := Tryd.sizeOf147
  v46 := Tryd.zeroValue147
  t51 := Tryd.underlying171
  a51 := Tryd.isAgg171
  z51 := Tryd.sizeOf171
  v51 := Tryd.zeroValue171
  t53 := Tryd.underlying76
  a53 := Tryd.isAgg76
  z53 := Tryd.sizeOf76
  v53 := Tryd.zeroValue76 }
/-- bits.Len: "Len returns the minimum number of bits required to represent x; the result is 0 for x == 0.": IT RETURNS 'Lib.bitLen x'; the world is as it was. (A uint has 64 bits in the model.) ITS CALLEE bits.Len64 IS MET BY ITS OWN CONTRACT OFF THE SHELF (lay that first). (LAID: no walk: one application.) -/
theorem Tryd.bits_Len (x : Int) (w : World) (h0 : 0 ≤ x) (h1 : x ≤ 18446744073709551615) :
    Calls Tryd.prog 110 #[.int .u64 x] w fun e w' => e = .returned (.int .i64 (Lib.bitLen x.toNat)) ∧ w' = w := Any.bits_Len Tryd.lays125 x w h0 h1
def Tryd.lays185_ren : Go.Shelf.Ren := ⟨fun | 185 => 80 | 187 => 92 | 115 => 93 | 253 => 94 | 224 => 95 | 254 => 96 | 255 => 105 | 291 => 106 | n => n, fun | 37 => 34 | 3 => 3 | 4 => 4 | 0 => 0 | 5 => 5 | 46 => 147 | 9 => 9 | 146 => 172 | 51 => 171 | n => n, fun | 1 => 0 | n => n⟩
theorem Tryd.lays185 : Go.Proofs.Lays.n185 Tryd.prog Tryd.lays185_ren := {
  mixed := by kernel_rfl
  f115 := Tryd.func93.trans (congrArg some (by kernel_rfl))
  f185 := Tryd.func80.trans (congrArg some (by kernel_rfl))
  f187 := Tryd.func92.trans (congrArg some (by kernel_rfl))
  f224 := Tryd.func95.trans (congrArg some (by kernel_rfl))
  f253 := Tryd.func94.trans (congrArg some (by kernel_rfl))
  f254 := Tryd.func96.trans (congrArg some (by kernel_rfl))
  f255 := Tryd.func105.trans (congrArg some (by kernel_rfl))
  f291 := Tryd.func106.trans (congrArg some (by kernel_rfl))
  t0 := Tryd.underlying0
  a0 := Tryd.isAgg0
  z0 := Tryd.sizeOf0
  v0 := Tryd.zeroValue0
  t3 := Tryd.underlying3
  a3 := Tryd.isAgg3
  z3 := Tryd.sizeOf3
  v3 := Tryd.zeroValue3
  t4 := Tryd.underlying4
  a4 := Tryd.isAgg4
  z4 := Tryd.sizeOf4
  v4 := Tryd.zeroValue4
  t5 := Tryd.underlying5
  a5 := Tryd.isAgg5
  z5 := Tryd.sizeOf5
  v5 := Tryd.zeroValue5
  t9 := Tryd.underlying9
  a9 := Tryd.isAgg9
  z9 := Tryd.sizeOf9
  v9 := Tryd.zeroValue9
  t37 := Tryd.underlying34
  a37 := Tryd.isAgg34
  z37 := Tryd.sizeOf34
  v37 := Tryd.zeroValue34
  t46 := Tryd.underlying147
  a46 := Tryd.isAgg147
  z46 := Tryd.sizeOf147
  v46 := Tryd.zeroValue147
  t51 := Tryd.underlying171
  a51 := Tryd.isAgg171
  z51 := Tryd.sizeOf171
  v51 := Tryd.zeroValue171
  t146 := Tryd.underlying172
  a146 := Tryd.isAgg172
  z146 := Tryd.sizeOf172
  v146 := Tryd.zeroValue172
  g1 := by kernel_rfl }
def Tryd.laysSlB13_ren : Go.Shelf.Ren := ⟨fun | 13 => 79 | 24 => 90 | 25 => 91 | 12 => 80 | 31 => 104 | 19 => 92 | 20 => 93 | 21 => 94 | 22 => 95 | 23 => 96 | 29 => 105 | 30 => 106 | n => n, fun | 22 => 34 | 3 => 3 | 4 => 4 | 0 => 0 | 5 => 5 | 9 => 9 | 33 => 147 | 40 => 172 | 39 => 171 | n => n, fun | 0 => 0 | n => n⟩
theorem Tryd.laysSlB13 : Go.Proofs.SlLaysB.n13 Tryd.prog Tryd.laysSlB13_ren := {
  mixed := by kernel_rfl
  f13 := Tryd.func79.trans (congrArg some (by kernel_rfl))
  f25 := Tryd.func91.trans (congrArg some (by kernel_rfl))
  t0 := Tryd.underlying0
  a0 := Tryd.isAgg0
  z0 := Tryd.sizeOf0
  v0 := Tryd.zeroValue0
  t3 := Tryd.underlying3
  a3 := Tryd.isAgg3
  z3 := Tryd.sizeOf3
  v3 := Tryd.zeroValue3
  t4 := Tryd.underlying4
  a4 := Tryd.isAgg4
  z4 := Tryd.sizeOf4
  v4 := Tryd.zeroValue4
  t5 := Tryd.underlying5
  a5 := Tryd.isAgg5
  z5 := Tryd.sizeOf5
  v5 := Tryd.zeroValue5
  t22 := Tryd.underlying34
  a22 := Tryd.isAgg34
  z22 := Tryd.sizeOf34
  v22 := Tryd.zeroValue34 }
open Go.RowKit Go.Lib in
/-- The same, s AT WHATEVER ADDRESS, its cells as 'open_ints' hands them ('a.add i'). (LAID: no walk: one application.) -/
theorem Tryd.bytes_Count_one_at (a : Addr) (n c b2 o2 d : Nat) (xs : List Int) (cv : Int) (w : World) (hx : xs.length = n) (hc : ∀ i, i < n → w.cell? (a.add i) = some (.int .u8 (xs.getD i 0))) (hc2 : w.cell? ⟨b2, o2, none⟩ = some (.int .u8 cv)) :
    Calls Tryd.prog 79 #[.slice (some a) n c, .slice (some ⟨b2, o2, none⟩) 1 d] w fun e w' => e = .returned (.int .i64 (Lib.countByte (Lib.bytesOf xs) cv.toNat.toUInt8)) ∧ w' = w := Any.bytes_Count_one_at Tryd.laysSlB13 a n c b2 o2 d xs cv w hx hc hc2
open Go.RowKit Go.Lib in
/-- The same where s is nil: 0. (LAID: no walk: one application.) -/
theorem Tryd.bytes_Count_one_nil (b2 o2 d : Nat) (cv : Int) (w : World) (hc2 : w.cell? ⟨b2, o2, none⟩ = some (.int .u8 cv)) :
    Calls Tryd.prog 79 #[.slice none 0 0, .slice (some ⟨b2, o2, none⟩) 1 d] w fun e w' => e = .returned (.int .i64 0) ∧ w' = w := Any.bytes_Count_one_nil Tryd.laysSlB13 b2 o2 d cv w hc2
open Go.RowKit Go.Lib in
/-- bytes.Index at a separator of one byte, s at whatever address. (LAID: no walk: one application.) -/
theorem Tryd.bytes_Index_one_at (a : Addr) (n c b2 o2 d : Nat) (xs : List Int) (cv : Int) (w : World) (hx : xs.length = n) (hc : ∀ i, i < n → w.cell? (a.add i) = some (.int .u8 (xs.getD i 0))) (hc2 : w.cell? ⟨b2, o2, none⟩ = some (.int .u8 cv)) :
    Calls Tryd.prog 80 #[.slice (some a) n c, .slice (some ⟨b2, o2, none⟩) 1 d] w fun e w' => e = .returned (.int .i64 (Lib.indexByte (Lib.bytesOf xs) cv.toNat.toUInt8)) ∧ w' = w := Any.bytes_Index_one_at Tryd.lays185 a n c b2 o2 d xs cv w hx hc hc2
open Go.Proofs Go.RowKit Go.Lib in
/-- bytes.Index, WHOLE: "Index returns the index of the first instance of sep in s, or -1 if sep is not present in s.": 'Lib.index' of the two lists of bytes. (LAID: no walk: one application.) -/
theorem Tryd.bytes_Index_at (a1 a2 : Addr) (n c1 k c2 : Nat) (xs ys : List Int) (m : Int) (w : World) (hx : xs.length = n) (hy : ys.length = k) (hr1 : ∀ x ∈ xs, 0 ≤ x ∧ x < 256) (hr2 : ∀ y ∈ ys, 0 ≤ y ∧ y < 256) (hc1 : ∀ i, i < n → w.cell? (a1.add i) = some (.int .u8 (xs.getD i 0))) (hc2 : ∀ i, i < k → w.cell? (a2.add i) = some (.int .u8 (ys.getD i 0))) (hcap : n ≤ c1) (hs : n < 4294967281) (hk : k ≤ 9223372036854775807) (hm : w.cell? ⟨0, 0, none⟩ = some (.int .i64 m)) :
    Calls Tryd.prog 80 #[.slice (some a1) n c1, .slice (some a2) k c2] w fun e w' => e = .returned (.int .i64 (Lib.index (Lib.bytesOf xs) (Lib.bytesOf ys))) ∧ ∃ q, w' = w.drewN q := Any.bytes_Index_at Tryd.lays185 a1 a2 n c1 k c2 xs ys m w hx hy hr1 hr2 hc1 hc2 hcap hs hk hm
def Tryd.laysM185_ren : Go.Shelf.Ren := ⟨fun | 185 => 80 | 187 => 92 | 115 => 93 | 253 => 94 | 224 => 95 | 254 => 96 | 255 => 105 | 291 => 106 | n => n, fun | 37 => 34 | 3 => 3 | 4 => 4 | 0 => 0 | 5 => 5 | 46 => 147 | 9 => 9 | 146 => 172 | 51 => 171 | n => n, fun | 1 => 0 | n => n⟩
theorem Tryd.laysM185 : Go.Proofs.LaysM.n185 Tryd.prog Tryd.laysM185_ren := {
  mixed := by kernel_rfl
  f115 := Tryd.func93.trans (congrArg some (by kernel_rfl))
  f185 := Tryd.func80.trans (congrArg some (by kernel_rfl))
  f187 := Tryd.func92.trans (congrArg some (by kernel_rfl))
  f224 := Tryd.func95.trans (congrArg some (by kernel_rfl))
  f253 := Tryd.func94.trans (congrArg some (by kernel_rfl))
  f254 := Tryd.func96.trans (congrArg some (by kernel_rfl))
  f255 := Tryd.func105.trans (congrArg some (by kernel_rfl))
  f291 := Tryd.func106.trans (congrArg some (by kernel_rfl))
  t0 := Tryd.underlying0
  a0 := Tryd.isAgg0
  z0 := Tryd.sizeOf0
  v0 := Tryd.zeroValue0
  t3 := Tryd.underlying3
  a3 := Tryd.isAgg3
  z3 := Tryd.sizeOf3
  v3 := Tryd.zeroValue3
  t4 := Tryd.underlying4
  a4 := Tryd.isAgg4
  z4 := Tryd.sizeOf4
  v4 := Tryd.zeroValue4
  t5 := Tryd.underlying5
  a5 := Tryd.isAgg5
  z5 := Tryd.sizeOf5
  v5 := Tryd.zeroValue5
  t9 := Tryd.underlying9
  a9 := Tryd.isAgg9
  z9 := Tryd.sizeOf9
  v9 := Tryd.zeroValue9
  t37 := Tryd.underlying34
  a37 := Tryd.isAgg34
  z37 := Tryd.sizeOf34
  v37 := Tryd.zeroValue34
  t46 := Tryd.underlying147
  a46 := Tryd.isAgg147
  z46 := Tryd.sizeOf147
  v46 := Tryd.zeroValue147
  t51 := Tryd.underlying171
  a51 := Tryd.isAgg171
  z51 := Tryd.sizeOf171
  v51 := Tryd.zeroValue171
  t146 := Tryd.underlying172
  a146 := Tryd.isAgg172
  z146 := Tryd.sizeOf172
  v146 := Tryd.zeroValue172
  g1 := by kernel_rfl
  i0 := by kernel_rfl
  i3 := by kernel_rfl
  i4 := by kernel_rfl
  i5 := by kernel_rfl
  i9 := by kernel_rfl
  i37 := by kernel_rfl
  i46 := by kernel_rfl
  i51 := by kernel_rfl
  i146 := by kernel_rfl
  m1 := by kernel_rfl
  s1_3 := fun w h => Go.Proofs.cell_of_shapedOpen_int (zero := #[.int .i64 0]) (t := 3) h (of_decide_eq_true (by kernel_rfl)) (by kernel_rfl) rfl (by kernel_rfl) (by kernel_rfl) Tryd.underlying3 }
def Tryd.laysSlC13_ren : Go.Shelf.Ren := ⟨fun | 13 => 79 | 24 => 90 | 25 => 91 | 12 => 80 | 31 => 104 | 19 => 92 | 20 => 93 | 21 => 94 | 22 => 95 | 23 => 96 | 29 => 105 | 30 => 106 | n => n, fun | 22 => 34 | 3 => 3 | 4 => 4 | 0 => 0 | 5 => 5 | 9 => 9 | 33 => 147 | 40 => 172 | 39 => 171 | n => n, fun | 0 => 0 | n => n⟩
theorem Tryd.laysSlC13 : Go.Proofs.SlLaysC.n13 Tryd.prog Tryd.laysSlC13_ren := {
  mixed := by kernel_rfl
  f12 := Tryd.func80.trans (congrArg some (by kernel_rfl))
  f13 := Tryd.func79.trans (congrArg some (by kernel_rfl))
  f19 := Tryd.func92.trans (congrArg some (by kernel_rfl))
  f20 := Tryd.func93.trans (congrArg some (by kernel_rfl))
  f21 := Tryd.func94.trans (congrArg some (by kernel_rfl))
  f22 := Tryd.func95.trans (congrArg some (by kernel_rfl))
  f23 := Tryd.func96.trans (congrArg some (by kernel_rfl))
  f25 := Tryd.func91.trans (congrArg some (by kernel_rfl))
  f29 := Tryd.func105.trans (congrArg some (by kernel_rfl))
  f30 := Tryd.func106.trans (congrArg some (by kernel_rfl))
  t0 := Tryd.underlying0
  a0 := Tryd.isAgg0
  z0 := Tryd.sizeOf0
  v0 := Tryd.zeroValue0
  t3 := Tryd.underlying3
  a3 := Tryd.isAgg3
  z3 := Tryd.sizeOf3
  v3 := Tryd.zeroValue3
  t4 := Tryd.underlying4
  a4 := Tryd.isAgg4
  z4 := Tryd.sizeOf4
  v4 := Tryd.zeroValue4
  t5 := Tryd.underlying5
  a5 := Tryd.isAgg5
  z5 := Tryd.sizeOf5
  v5 := Tryd.zeroValue5
  t9 := Tryd.underlying9
  a9 := Tryd.isAgg9
  z9 := Tryd.sizeOf9
  v9 := Tryd.zeroValue9
  t22 := Tryd.underlying34
  a22 := Tryd.isAgg34
  z22 := Tryd.sizeOf34
  v22 := Tryd.zeroValue34
  t33 := Tryd.underlying147
  a33 := Tryd.isAgg147
  z33 := Tryd.sizeOf147
  v33 := Tryd.zeroValue147
  t39 := Tryd.underlying171
  a39 := Tryd.isAgg171
  z39 := Tryd.sizeOf171
  v39 := Tryd.zeroValue171
  t40 := Tryd.underlying172
  a40 := Tryd.isAgg172
  z40 := Tryd.sizeOf172
  v40 := Tryd.zeroValue172
  g0 := by kernel_rfl }
open Go.RowKit Go.Lib in
/-- bytes.Count at a separator of two bytes or more: "Count counts the number of non-overlapping instances of sep in s.": 'Lib.count' of the two lists of bytes. (LAID: no walk: one application.) -/
theorem Tryd.bytes_Count_at (a1 a2 : Addr) (n c1 k c2 : Nat) (xs ys : List Int) (m : Int) (w : World) (hx : xs.length = n) (hy : ys.length = k) (hr1 : ∀ x ∈ xs, 0 ≤ x ∧ x < 256) (hr2 : ∀ y ∈ ys, 0 ≤ y ∧ y < 256) (hc1 : ∀ i, i < n → w.cell? (a1.add i) = some (.int .u8 (xs.getD i 0))) (hc2 : ∀ i, i < k → w.cell? (a2.add i) = some (.int .u8 (ys.getD i 0))) (hcap : n ≤ c1) (hs : n < 4294967281) (hk : k ≤ 9223372036854775807) (h2 : 2 ≤ k) (hm : w.cell? ⟨0, 0, none⟩ = some (.int .i64 m)) :
    Calls Tryd.prog 79 #[.slice (some a1) n c1, .slice (some a2) k c2] w fun e w' => e = .returned (.int .i64 (Lib.count (Lib.bytesOf xs) (Lib.bytesOf ys))) ∧ ∃ q, w' = w.drewN q := Any.bytes_Count_at Tryd.laysSlC13 a1 a2 n c1 k c2 xs ys m w hx hy hr1 hr2 hc1 hc2 hcap hs hk h2 hm
open Go.RowKit Go.Lib in
/-- bytes.Count at a separator of two bytes or more where s is nil: 0. (LAID: no walk: one application.) -/
theorem Tryd.bytes_Count_nil (p2 : Option Addr) (k c2 : Nat) (w : World) (h2 : 2 ≤ k) (hk : k ≤ 9223372036854775807) :
    Calls Tryd.prog 79 #[.slice none 0 0, .slice p2 k c2] w fun e w' => e = .returned (.int .i64 0) ∧ w' = w := Any.bytes_Count_nil Tryd.laysSlC13 p2 k c2 w h2 hk
end Go.Proofs

/- The walk of bytes.Replace, every piece replaced. -/
namespace Go.Proofs.YtehbjhocgnfpmaaDoor
open Go.RowKit
set_option linter.unusedVariables false
structure Veil3 (p : Prop) : Prop where
 out : p
def pre (sep : List Int) (ps : List (List Int)) (k : Nat) : List Int := (ps.take k).flatMap (· ++ sep)
theorem pre_succ (sep : List Int) (ps : List (List Int)) (k : Nat) (h : k < ps.length) : pre sep ps (k + 1) = pre sep ps k ++ (ps[k] ++ sep) := by
 simp only [pre, List.take_succ_eq_append_getElem h, List.flatMap_append, List.flatMap_cons, List.flatMap_nil, List.append_nil]
theorem pre_le (sep : List Int) (ps : List (List Int)) (j k : Nat) (h : j ≤ k) : (pre sep ps j).length ≤ (pre sep ps k).length := by
 have e : ps.take k = ps.take j ++ (ps.take k).drop j := by
  conv => lhs; rw [← List.take_append_drop j (ps.take k)]
  rw [List.take_take, Nat.min_eq_left h]
 simp only [pre]
 rw [e, List.flatMap_append, List.length_append]
 omega
theorem pre_len (old new : List Int) (ps : List (List Int)) : ∀ k, k ≤ ps.length → (pre new ps k).length + k * old.length = (pre old ps k).length + k * new.length
 | 0, _ => by simp [pre]
 | k + 1, h => by
  rw [pre_succ new ps k (by omega), pre_succ old ps k (by omega)]
  simp only [List.length_append]
  have := pre_len old new ps k (by omega)
  rw [Nat.add_mul, Nat.add_mul]
  omega
theorem pre_split (sep : List Int) (ps : List (List Int)) (k m : Nat) (hm : ps.length = m) (h : k < ps.length) : ∃ T, pre sep ps m = pre sep ps k ++ (ps[k] ++ (sep ++ T)) := by
 refine ⟨(ps.drop (k + 1)).flatMap (· ++ sep), ?_⟩
 have e : ps = ps.take k ++ (ps[k] :: ps.drop (k + 1)) := by rw [List.getElem_cons_drop, List.take_append_drop]
 unfold pre
 rw [← hm, List.take_length]
 conv => lhs; rw [e]
 rw [List.flatMap_append, List.flatMap_cons, List.append_assoc]
theorem seg_fill (X p : List Int) (L B z : Nat) (hX : X.length = B) (hp : p.length = z) (h : B + z ≤ L) : ((X ++ List.replicate (L - B) 0).map (Value.int .u8)).take B ++ p.map (Value.int .u8) ++ ((X ++ List.replicate (L - B) 0).map (Value.int .u8)).drop (B + z) = ((X ++ p) ++ List.replicate (L - (B + z)) 0).map (Value.int .u8) := by
 subst hX
 subst hp
 rw [← List.map_take, ← List.map_drop, ← List.map_append, ← List.map_append, List.take_left' rfl, ← List.drop_drop, List.drop_left' rfl, List.drop_replicate, Nat.sub_sub]
theorem cutAt_zeroR (g c : Nat) : cutAt (some ⟨g, 0, none⟩) c 0 1 = some ⟨g, 0, none⟩ := by
 unfold cutAt
 split
 · rfl
 · rw [Option.map_some, Addr.add_mid]
set_option maxRecDepth 100000 in
set_option maxHeartbeats 8000000 in
theorem replace_any (w0 : World) (a po pn : Option Addr) (n c lo co ln cn m : Nat) (ps : List (List Int)) (last old new : List Int) (hm : ps.length = m)
 (hs : Sl w0 1 (.slice a n c) n ((pre old ps m ++ last).map (Value.int .u8))) (ho : Sl w0 1 (.slice po lo co) lo (old.map (Value.int .u8))) (hw : Sl w0 1 (.slice pn ln cn) ln (new.map (Value.int .u8)))
 (hlo : 0 < lo) (hb1 : n ≤ 1000000000) (hb2 : lo ≤ 1000) (hb3 : ln ≤ 1000)
 (HC : Veil3 (∀ w, Ext w0 w → Calls Tryd.prog 79 #[.slice a n c, .slice po lo co] w fun e w' => e = .returned (.int .i64 m) ∧ Ext w w'))
 (HI : Veil3 (∀ k (h : k < ps.length) w, Ext w0 w → Calls Tryd.prog 80 #[.slice (cutAt a c (pre old ps k).length 1) (n - (pre old ps k).length) (c - (pre old ps k).length), .slice po lo co] w fun e w' => e = .returned (.int .i64 (ps[k].length : Nat)) ∧ Ext w w')) :
 Calls Tryd.prog 60 #[.slice a n c, .slice po lo co, .slice pn ln cn, .int .i64 (-1)] w0 fun e w => ∃ (ao : Option Addr) (c' : Nat), e = .returned (.slice ao (pre new ps m ++ last).length c') ∧ St w0 w [own 5 1 ao (pre new ps m ++ last).length c' ((pre new ps m ++ last).map (Value.int .u8))] := by
 have hS := St.start w0
 have hxl : (pre old ps m ++ last).length = n := by have := hs.1; simpa using this
 have hol : old.length = lo := by have := ho.1; simpa using this
 have hnl : new.length = ln := by have := hw.1; simpa using this
 have hnc : n ≤ c := by obtain ⟨_, _, _, h1, h2, _⟩ := hs; cases h1; exact h2
 have hc9 : c ≤ 9223372036854775807 := by obtain ⟨_, _, _, h1, _, h2, _⟩ := hs; cases h1; unfold maxLen at h2; exact h2
 have hpl := pre_len old new ps m (by omega)
 rw [hol, hnl] at hpl
 rw [List.length_append] at hxl
 obtain ⟨L, hL⟩ : ∃ L, (pre new ps m ++ last).length = L := ⟨_, rfl⟩
 have hL2 := hL
 rw [List.length_append] at hL2
 have hmlo : m ≤ m * lo := Nat.le_mul_of_pos_right m hlo
 have hmn : m ≤ n := by
  have : m * lo ≤ (pre old ps m).length := by
   have h0 := pre_len old [] ps m (by omega)
   rw [hol] at h0
   simp only [List.length_nil, Nat.mul_zero, Nat.add_zero] at h0
   omega
  omega
 by_cases h0 : m = 0
 · subst h0
   have e0 : pre old ps 0 ++ last = pre new ps 0 ++ last := by simp [pre]
   rw [e0] at hs
   obtain ⟨R, hR⟩ : ∃ R, pre new ps 0 ++ last = R := ⟨_, rfl⟩
   rw [hR] at hL hs ⊢
   rw [hL]
   have hLn : L = n := by have := hs.1; rw [← hL]; simpa using this
   subst hLn
   clear hpl hL2 HI hmlo hxl e0
   go_enter Tryd.func60, Tryd.ntmps60
   repeat' (first
    | ((with_reducible refine gt9 _ (.call ⟨.value (.func 79), _, _⟩) ?_); refine wpl_call (f := 79) Tryd.call79 kr9 ?_; refine ⟨_, (HC.out _ hS.1), ?_⟩; rintro e w ⟨rfl, hE2⟩; replace hS := hS.ext hE2; clear hE2; refine ⟨_, rfl, ?_⟩; refine put_move ?_; go_step) | (refine y91 ?_) | (refine y991 ?_) | (refine y985 ?_) | ((with_reducible refine gs9 25 ?_); (refine wl9 ?_; apply wp_append (o := ⟨some 25, _, _, _, _, _⟩) (hS.nilk 5 1 .u8) _ _ 34 rfl 5 1 1 el34 _ _ _ _ rfl; (case hp => exact pl9); (case hx => exact rfl); (case hm => (first | exact hS.slBlk pl9 (by rfl) (by decide) | exact hS.sl pl9 | with_reducible assumption | exact Sl.ext (by with_reducible assumption) hS.1 | exact Sl.nil _ _ | exact Sl.ext (by assumption) hS.1 | assumption)); (case h1 => (first | exact oneAll rfl | exact oneMap _ _ | (intro u hu; cases hu))); (case h63 => unfold maxLen; omega); (case hb => omega); clear hS; intro ad25 c25 w hS; (first | simp only [mapk1] at hS | simp only [mapk2] at hS | simp only [mapk3] at hS | simp only [mapk4] at hS | simp only [mapkl] at hS | skip); refine put_move ?_; go_step)) | ((fail_if_success with_reducible refine ga9 ?_); go_step))
   rw [Nat.zero_add, List.nil_append] at hS
   go_ret
   refine ⟨ad25, c25, ?_, hS.sub sb9⟩
   show Ending.returned (.slice ad25 (0 + L) c25) = _
   rw [Nat.zero_add]
 have hLb : L ≤ 2000000000000 := by
  have : m * ln ≤ 1000000000 * 1000 := Nat.mul_le_mul (by omega) hb3
  omega
 have hLe : (L : Int) = (n : Int) + (m : Int) * ((ln : Int) - (lo : Int)) := by
  have h1 : ((m : Int) * ((ln : Int) - (lo : Int))) = ((m * ln : Nat) : Int) - ((m * lo : Nat) : Int) := by push_cast; rw [Int.mul_sub]
  rw [h1]; omega
 have hmul : IntKind.i64.wrap ((m : Int) * ((ln : Int) - (lo : Int))) = (L : Int) - (n : Int) := by
  rw [show (m : Int) * ((ln : Int) - (lo : Int)) = (L : Int) - (n : Int) by omega]
  exact IntWalk.i64_in _ (by omega)
 have HMul := hid hmul
 have HXs : ∀ k, k ≤ m → (pre old ps k).length ≤ n := fun k hk => by have := pre_le old ps k m hk; omega
 have HWs : ∀ k, k ≤ m → (pre new ps k).length ≤ L := fun k hk => by have := pre_le new ps k m hk; omega
 have HXs2 : Veil3 _ := ⟨HXs⟩
 have HWs2 : Veil3 _ := ⟨HWs⟩
 have HL : Veil3 ((pre new ps m ++ last).length = L) := ⟨hL⟩
 obtain ⟨R, hR⟩ : ∃ R, pre new ps m ++ last = R := ⟨_, rfl⟩
 have HR : Veil3 (pre new ps m ++ last = R) := ⟨hR⟩
 rw [hR] at hL ⊢
 rw [hL]
 have HXL : Veil3 ((pre old ps m).length + last.length = n) := ⟨hxl⟩
 have HWL : Veil3 ((pre new ps m).length + last.length = L) := ⟨hL2⟩
 have HM : Veil3 (ps.length = m) := ⟨hm⟩
 have HPL : Veil3 _ := ⟨hpl⟩
 clear hpl hxl hL2 hmlo hLe hmul HXs HWs hR hm
 go_enter Tryd.func60, Tryd.ntmps60
 repeat' (first
  | ((with_reducible refine gt9 _ (.call ⟨.value (.func 79), _, _⟩) ?_); refine wpl_call (f := 79) Tryd.call79 kr9 ?_; refine ⟨_, (HC.out _ hS.1), ?_⟩; rintro e w ⟨rfl, hE2⟩; replace hS := hS.ext hE2; clear hE2; refine ⟨_, rfl, ?_⟩; refine put_move ?_; go_step) | ((with_reducible refine gs9 42 ?_); refine wplV (.int .i64 ((L : Int) - (n : Int))) (V.as (V.mul rfl rfl) (by have := HMul.out; first | exact this | (rw [IntWalk.i64_in _ (by omega)]; exact this))) kr9 ?_; go_step) | ((with_reducible refine gs9 43 ?_); (refine wplV (.int _ (((L : Nat) : Int))) (V.as (V.addI rfl rfl (by omega)) (by omega)) rfl ?_; go_step)) | go_skip | (refine y91 ?_) | (refine y9138 ?_) | ((with_reducible refine gs9 27 ?_); (refine wplD _ (V.lss rfl rfl) kr9 (fun hB => ?_) (fun hB => ?_) <;> (try (have hF : False := (by omega); cases hF)) <;> go_step)) | (refine y991 ?_) | (refine y985 ?_) | (refine y9100 ?_) | (refine y994 ?_) | (refine y987 ?_) | ((with_reducible refine gs9 44 ?_); (refine wl9 ?_; apply wp_make (o := ⟨some 44, _, _, _, _, _⟩) hS 34 _ _ rfl _ _ _ _ elz34 _ _ _ _ _ _ rfl rfl; (case hi => exact isn9); (case hj => exact isn9); (case hnm => omega); (case hb => omega); (case h63 => unfold maxLen; omega); clear hS; intro g44 w hS; refine put_move ?_; go_step)) | ((fail_if_success with_reducible refine ga9 ?_); go_step))
 go_loopg [11, 12, 49] m (fun gk wv sv iv w => ∃ k : Nat, gk + k = m ∧ iv = .int .i64 k ∧ sv = .int .i64 ((pre old ps k).length : Nat) ∧ wv = .int .i64 ((pre new ps k).length : Nat) ∧ St w0 w [own 5 1 (some ⟨g44, 0, none⟩) L L ((pre new ps k ++ List.replicate (L - (pre new ps k).length) 0).map (Value.int .u8))])
 case atStart =>
  refine ⟨0, rfl, rfl, rfl, rfl, ?_⟩
  rw [Nat.mul_one] at hS
  have e : pre new ps 0 = [] := rfl
  rw [e, List.nil_append, List.length_nil, Nat.sub_zero]
  exact hS.sub sb9
 case round =>
  clear hS
  obtain ⟨k, hk, rfl, rfl, rfl, hS⟩ := hrel
  by_cases hlt : k < m
  · have hkp : k < ps.length := by rw [HM.out]; exact hlt
    have hIk := HI.out k hkp
    have e1 := pre_succ old ps k hkp
    have e2 := pre_succ new ps k hkp
    have l1 := HXs2.out (k + 1) hlt
    have l2 := HWs2.out (k + 1) hlt
    obtain ⟨p, hp⟩ : ∃ p, ps[k] = p := ⟨_, rfl⟩
    rw [hp] at hIk e1 e2
    rw [e1] at l1
    rw [e2] at l2
    obtain ⟨T, hT⟩ := pre_split old ps k m HM.out hkp
    rw [hp] at hT
    have hxs : pre old ps m ++ last = pre old ps k ++ (p ++ (old ++ T ++ last)) := by rw [hT]; simp only [List.append_assoc]
    obtain ⟨A, hA⟩ : ∃ A, (pre old ps k).length = A := ⟨_, rfl⟩
    obtain ⟨X, hX⟩ : ∃ X, pre new ps k = X := ⟨_, rfl⟩
    rw [hX] at e2 l2 hS ⊢
    obtain ⟨B, hB⟩ : ∃ B, X.length = B := ⟨_, rfl⟩
    obtain ⟨z, hz⟩ : ∃ z, p.length = z := ⟨_, rfl⟩
    simp only [List.length_append, hA, hB, hz, hol, hnl] at l1 l2
    rw [hA, hz] at hIk
    rw [hA]
    rw [hB] at hS ⊢
    have hsp : ∀ w, Ext w0 w → Sl w 1 (.slice (cutAt a c A 1) (A + z - A) (c - A)) (A + z - A) (p.map (Value.int .u8)) := fun w hx => by
     have h1 := (hs.ext hx).cutAt A (A + z) (by omega) (by omega)
     have h2 : (((pre old ps m ++ last).map (Value.int .u8)).drop (A * 1)).take ((A + z - A) * 1) = p.map (Value.int .u8) := by
      rw [Nat.mul_one, Nat.mul_one, ← List.map_drop, ← List.map_take, hxs, List.drop_left' hA, Nat.add_sub_cancel_left, List.take_left' hz]
     rw [h2] at h1
     exact h1
    have HIK : Veil3 _ := ⟨hIk⟩
    have HSP : Veil3 _ := ⟨hsp⟩
    have F1 := hid (seg_fill X p L B z hB hz (by omega))
    have F2 := hid (seg_fill (X ++ p) new L (B + z) ln (by rw [List.length_append, hB, hz]) hnl (by omega))
    have N1 : Veil3 ((pre old ps (k + 1)).length = A + z + lo) := ⟨by rw [e1]; simp only [List.length_append, hA, hz, hol]; omega⟩
    have N2 : Veil3 (pre new ps (k + 1) = X ++ p ++ new) := ⟨by rw [e2, List.append_assoc]⟩
    have N3 : Veil3 ((X ++ p ++ new).length = B + z + ln) := ⟨by simp only [List.length_append, hB, hz, hnl]⟩
    clear hIk hsp e1 e2 hp hxs hT hA hX hB hz hkp
    repeat' (first
     | ((with_reducible refine gt9 _ (.call ⟨.value (.func 80), _, _⟩) ?_); refine wpl_call (f := 80) Tryd.call80 kr9 ?_; refine ⟨_, (HIK.out _ hS.1), ?_⟩; rintro e w ⟨rfl, hE2⟩; replace hS := hS.ext hE2; clear hE2; refine ⟨_, rfl, ?_⟩; refine put_move ?_; go_step) | ((with_reducible refine gs9 57 ?_); (refine wplV (.int _ (((A + z : Nat) : Int))) (V.as (V.addI rfl rfl (by omega)) (by omega)) rfl ?_; go_step)) | (refine y91 ?_) | (refine y989 ?_) | (refine y9140 ?_) | ((fail_if_success with_reducible refine ga9 ?_); go_step))
    refine drawn_lit [] (fun _ => True) kr9 ?_
    replace hS := hS.drew
    focus
     refine takeM 0 _ al9 kr9 kr9 kr9 hq9 rfl ?_
     go_step
     refine takeM 1 _ al9 kr9 kr9 kr9 hq9 rfl ?_
     go_step
     refine takeM 2 _ al9 kr9 kr9 kr9 hq9 rfl ?_
     go_step
     (refine takeV 3 _ al9 kr9 kr9 kr9 hq9 (V.slice Tryd.underlying34 isz5 rfl (by (first | exact Lo.none | exact Lo.some rfl isn9)) (by (first | exact Up.none | exact Up.some rfl isn9)) (by omega) (by omega)) rfl ?_)
     go_step
     refine takeM 4 _ al9 kr9 kr9 kr9 hq9 rfl ?_
     go_step
     refine takeM 5 _ al9 kr9 kr9 kr9 hq9 rfl ?_
     go_step
     refine takeM 6 _ al9 kr9 kr9 kr9 hq9 rfl ?_
     go_step
     (refine takeV 7 _ al9 kr9 kr9 kr9 hq9 (V.slice Tryd.underlying34 isz5 rfl (by (first | exact Lo.none | exact Lo.some rfl isn9)) (by (first | exact Up.none | exact Up.some rfl isn9)) (by omega) (by omega)) rfl ?_)
     go_step
     refine branch1 8 al9 rfl kr9 ?_
     refine wp_copyO (o := ⟨some 66, _, _, _, _, _⟩) hS _ _ 34 rfl 5 1 el34 g44 B L L _ rfl pl9 _ rfl (A + z - A) _ (HSP.out _ hS.1) (by omega) (by exact oneMap _ _) ?_; clear hS; intro w hS; rw [Nat.add_sub_cancel_left, F1.out] at hS
     refine ⟨fun _ h => h, ?_⟩
     refine drawn_move ?_
     go_step
     (refine takeV 9 (.int _ (((B + z : Nat) : Int))) al9 kr9 kr9 kr9 hq9 (V.as (V.addI rfl rfl (by omega)) (by omega)) rfl ?_)
     go_step
     refine takeA 10 _ al9 kr9 kr9 kr9 hq9 rfl ?_
     go_step
     refine drawn_done kr9 ?_ _
    repeat' (first
     | ((with_reducible refine gs9 73 ?_); refine wl9 ?_; refine wp_copyO (o := ⟨some 73, _, _, _, _, _⟩) hS _ _ 34 rfl 5 1 el34 g44 (B + z) L L _ rfl pl9 _ rfl ln _ (hw.ext hS.1) (by omega) (by exact oneMap _ _) ?_; clear hS; intro w hS; rw [F2.out] at hS; refine put_move ?_; go_step) | ((with_reducible refine gs9 74 ?_); (refine wplV (.int _ (((B + z + ln : Nat) : Int))) (V.as (V.addI rfl rfl (by omega)) (by omega)) rfl ?_; go_step)) | ((with_reducible refine gs9 78 ?_); (refine wplV (.int _ (((A + z + lo : Nat) : Int))) (V.as (V.addI rfl rfl (by omega)) (by omega)) rfl ?_; go_step)) | (refine y91 ?_) | (refine y9140 ?_) | (refine y983 ?_) | (refine y9100 ?_) | ((fail_if_success with_reducible refine ga9 ?_); go_step))
    go_roundg (gk - 1)
    case measure => omega
    case rel =>
     refine ⟨k + 1, by omega, by go_num, by rw [N1.out], by rw [N2.out, N3.out], ?_⟩
     rw [N2.out, N3.out]
     exact hS.sub sb9
  · obtain rfl : k = m := by omega
    have hA0 := HXL.out
    have hB0 := HWL.out
    obtain ⟨A, hA⟩ : ∃ A, (pre old ps k).length = A := ⟨_, rfl⟩
    obtain ⟨B, hB⟩ : ∃ B, (pre new ps k).length = B := ⟨_, rfl⟩
    obtain ⟨z, hz⟩ : ∃ z, last.length = z := ⟨_, rfl⟩
    rw [hA, hz] at hA0
    rw [hB, hz] at hB0
    rw [hA]
    rw [hB] at hS ⊢
    have hsp : ∀ w, Ext w0 w → Sl w 1 (.slice (cutAt a c A 1) (n - A) (c - A)) (n - A) (last.map (Value.int .u8)) := fun w hx => by
     have h1 := (hs.ext hx).cutAt A n (by omega) (Nat.le_refl _)
     have h2 : (((pre old ps k ++ last).map (Value.int .u8)).drop (A * 1)).take ((n - A) * 1) = last.map (Value.int .u8) := by
      rw [Nat.mul_one, Nat.mul_one, ← List.map_drop, ← List.map_take, List.drop_left' hA, List.take_of_length_le (by omega)]
     rw [h2] at h1
     exact h1
    have HSP : Veil3 _ := ⟨hsp⟩
    have hnA : n - A = z := by omega
    have HnA : Veil3 (n - A = z) := ⟨hnA⟩
    have F1 := hid (seg_fill (pre new ps k) last L B z hB hz (by omega))
    have F3 : Veil3 (pre new ps k ++ last ++ List.replicate (L - (B + z)) 0 = R) := ⟨by rw [HR.out, show L - (B + z) = 0 by omega]; simp⟩
    clear hsp hA hB hz hnA
    repeat' (first
     | (refine y989 ?_) | ((fail_if_success with_reducible refine ga9 ?_); go_step))
    refine drawn_lit [] (fun _ => True) kr9 ?_
    replace hS := hS.drew
    focus
     refine takeM 0 _ al9 kr9 kr9 kr9 hq9 rfl ?_
     go_step
     refine takeM 1 _ al9 kr9 kr9 kr9 hq9 rfl ?_
     go_step
     refine takeM 2 _ al9 kr9 kr9 kr9 hq9 rfl ?_
     go_step
     (refine takeV 3 _ al9 kr9 kr9 kr9 hq9 (V.slice Tryd.underlying34 isz5 rfl (by (first | exact Lo.none | exact Lo.some rfl isn9)) (by (first | exact Up.none | exact Up.some rfl isn9)) (by omega) (by omega)) rfl ?_)
     go_step
     refine takeM 4 _ al9 kr9 kr9 kr9 hq9 rfl ?_
     go_step
     refine takeM 5 _ al9 kr9 kr9 kr9 hq9 rfl ?_
     go_step
     (refine takeV 6 _ al9 kr9 kr9 kr9 hq9 (V.slice Tryd.underlying34 isz5 rfl (by (first | exact Lo.none | exact Lo.some rfl isn9)) (by (first | exact Up.none | exact Up.some rfl isn9)) (by omega) (by omega)) rfl ?_)
     go_step
     refine branch1 7 al9 rfl kr9 ?_
     refine wp_copyO (o := ⟨some 127, _, _, _, _, _⟩) hS _ _ 34 rfl 5 1 el34 g44 B L L _ rfl pl9 _ rfl (n - A) _ (HSP.out _ hS.1) (by omega) (by exact oneMap _ _) ?_; clear hS; intro w hS; rw [HnA.out, F1.out, F3.out] at hS
     refine ⟨fun _ h => h, ?_⟩
     refine drawn_move ?_
     go_step
     (refine takeV 8 (.int _ (((L : Nat) : Int))) al9 kr9 kr9 kr9 hq9 (V.as (V.addI rfl rfl (by omega)) (by omega)) rfl ?_)
     go_step
     refine takeA 9 _ al9 kr9 kr9 kr9 hq9 rfl ?_
     go_step
     refine drawn_done kr9 ?_ _
    repeat' (first
     | (refine y91 ?_) | (refine y9140 ?_) | ((fail_if_success with_reducible refine ga9 ?_); go_step))
    go_ret
    refine ⟨some ⟨g44, 0, none⟩, L, ?_, hS.sub sb9⟩
    show Ending.returned (.slice (cutAt (some ⟨g44, 0, none⟩) L 0 1) (L - 0) (L - 0)) = _
    rw [cutAt_zeroR]
    rfl

end Go.Proofs.YtehbjhocgnfpmaaDoor
/- stuff.Stuff: what it computes, and its walk. -/
namespace Go.Proofs.YtehbjhocgnfpmaaDoor
set_option maxRecDepth 100000
open Go.RowKit
set_option linter.unusedVariables false
def sp1 (b : Int) : List Int → List (List Int) × List Int
 | [] => ([], [])
 | x :: l => if x = b then ([] :: (sp1 b l).1, (sp1 b l).2) else
  match (sp1 b l).1 with
  | [] => ([], x :: (sp1 b l).2)
  | p :: ps => ((x :: p) :: ps, (sp1 b l).2)
def rep1 (b : Int) (new l : List Int) : List Int := l.flatMap fun x => if x = b then new else [x]
theorem pre_all (sep : List Int) (ps : List (List Int)) : pre sep ps ps.length = ps.flatMap (· ++ sep) := by simp [pre]
theorem sp1_spec (b : Int) (new : List Int) : ∀ l, (sp1 b l).1.flatMap (· ++ [b]) ++ (sp1 b l).2 = l ∧ (sp1 b l).1.flatMap (· ++ new) ++ (sp1 b l).2 = rep1 b new l ∧ (sp1 b l).1.length = l.count b ∧ (∀ p ∈ (sp1 b l).1, b ∉ p)
 | [] => by simp [sp1, rep1]
 | x :: l => by
  obtain ⟨h1, h2, h3, h4⟩ := sp1_spec b new l
  by_cases hx : x = b
  · subst hx
    refine ⟨?_, ?_, ?_, ?_⟩
    · simp only [sp1, if_true, List.flatMap_cons, List.nil_append, List.cons_append, h1]
    · simp only [sp1, if_true, List.flatMap_cons, List.nil_append, List.append_assoc, h2]; simp [rep1]
    · simp [sp1, h3]
    · intro p hp
      simp only [sp1, if_true, List.mem_cons] at hp
      rcases hp with rfl | hp
      · simp
      · exact h4 p hp
  · cases hs : (sp1 b l).1 with
    | nil =>
     rw [hs] at h1 h2 h3
     simp only [List.flatMap_nil, List.nil_append] at h1 h2
     refine ⟨?_, ?_, ?_, ?_⟩
     · simp [sp1, if_neg hx, hs, h1]
     · simp only [sp1, if_neg hx, hs, List.flatMap_nil, List.nil_append, h2]; simp [rep1, hx]
     · simp only [sp1, if_neg hx, hs, List.length_nil]; rw [List.count_cons_of_ne (by simpa using hx)]; simpa using h3
     · simp [sp1, if_neg hx, hs]
    | cons p ps =>
     rw [hs] at h1 h2 h3 h4
     refine ⟨?_, ?_, ?_, ?_⟩
     · simp only [sp1, if_neg hx, hs, List.flatMap_cons, List.cons_append] at h1 ⊢; rw [h1]
     · simp only [sp1, if_neg hx, hs, List.flatMap_cons, List.cons_append] at h2 ⊢; rw [h2]; simp [rep1, hx]
     · simp only [sp1, if_neg hx, hs, List.length_cons] at h3 ⊢; rw [List.count_cons_of_ne (by simpa using hx)]; exact h3
     · intro q hq
       simp only [sp1, if_neg hx, hs, List.mem_cons] at hq
       rcases hq with rfl | hq
       · have := h4 p (by simp); simp only [List.mem_cons, not_or]; exact ⟨fun e => hx e.symm, this⟩
       · exact h4 q (by simp [hq])
theorem u8_eq {x b : Int} (hx : 0 ≤ x ∧ x < 256) (hb : 0 ≤ b ∧ b < 256) : (UInt8.ofNat x.toNat == UInt8.ofNat b.toNat) = decide (x = b) := by
 by_cases h : x = b
 · subst h; simp
 · rw [decide_eq_false h, beq_eq_false_iff_ne]
   intro e
   have := congrArg UInt8.toNat e
   simp only [UInt8.toNat_ofNat'] at this
   omega
theorem count_bytes {b : Int} (hb : 0 ≤ b ∧ b < 256) : ∀ (l : List Int), (∀ x ∈ l, 0 ≤ x ∧ x < 256) → Lib.countByte (Lib.bytesOf l) (UInt8.ofNat b.toNat) = l.count b
 | [], _ => rfl
 | x :: l, h => by
  have ih := count_bytes hb l fun y hy => h y (by simp [hy])
  have hx := u8_eq (h x (by simp)) hb
  simp only [Lib.countByte, Lib.bytesOf, List.map_cons, List.count_cons] at ih ⊢
  rw [ih, hx]
  by_cases e : x = b <;> simp [e]
theorem index_bytes {b : Int} (hb : 0 ≤ b ∧ b < 256) : ∀ (p T : List Int), (∀ x ∈ p, 0 ≤ x ∧ x < 256) → b ∉ p → Lib.indexByte (Lib.bytesOf (p ++ b :: T)) (UInt8.ofNat b.toNat) = (p.length : Nat)
 | [], T, _, _ => by simp [Lib.bytesOf, Lib.indexByte]
 | x :: p, T, h, hn => by
  have ih := index_bytes hb p T (fun y hy => h y (by simp [hy])) (fun e => hn (by simp [e]))
  have hx := u8_eq (h x (by simp)) hb
  have hxb : x ≠ b := fun e => hn (by simp [e])
  rw [decide_eq_false hxb] at hx
  simp only [List.cons_append, Lib.bytesOf, List.map_cons, Lib.indexByte] at ih ⊢
  rw [hx, ih]
  simp only [Bool.false_eq_true, if_false, List.length_cons]
  rw [if_neg]
  · push_cast; omega
  · simp only [beq_iff_eq]; omega
theorem cell_at {w : World} {a : Addr} {n c : Nat} {xs : List Int} (hv : Sl w 1 (.slice (some a) n c) n (xs.map (Value.int .u8))) : ∀ i, i < n → w.cell? (a.add i) = some (.int .u8 (xs.getD i 0)) := fun i hi => by
 obtain ⟨hl, a1, c1, e1, hnc, hcm, hor⟩ := hv
 cases e1
 have hln : xs.length = n := by simpa using hl
 rcases hor with h0 | ⟨b, off, h, hc⟩
 · omega
 · cases h
   rw [Addr.add_mid, hc i (by omega)]
   simp [List.getD, hln, hi]
theorem one_cell {w : World} {po : Option Addr} {co : Nat} {b : Int} (hv : Sl w 1 (.slice po 1 co) 1 ([b].map (Value.int .u8))) : ∃ b2 o2, po = some ⟨b2, o2, none⟩ ∧ w.cell? ⟨b2, o2, none⟩ = some (.int .u8 b) := by
 obtain ⟨hl, a1, c1, e1, hnc, hcm, hor⟩ := hv
 cases e1
 rcases hor with h0 | ⟨b2, off, h, hc⟩
 · omega
 · exact ⟨b2, off, h, by have := hc 0 (by decide); simpa using this⟩
theorem u8_of {b : Int} : b.toNat.toUInt8 = UInt8.ofNat b.toNat := rfl
theorem count1_any (w : World) (a po : Option Addr) (n c co : Nat) (xs : List Int) (b : Int) (hs : Sl w 1 (.slice a n c) n (xs.map (Value.int .u8))) (hnil : a = none → c = 0) (ho : Sl w 1 (.slice po 1 co) 1 ([b].map (Value.int .u8))) (hb : 0 ≤ b ∧ b < 256) (hx : ∀ x ∈ xs, 0 ≤ x ∧ x < 256) :
 Calls Tryd.prog 79 #[.slice a n c, .slice po 1 co] w fun e w' => e = .returned (.int .i64 (xs.count b : Nat)) ∧ Ext w w' := by
 obtain ⟨b2, o2, rfl, hc2⟩ := one_cell ho
 have hln : xs.length = n := by have := hs.1; simpa using this
 cases a with
 | none =>
  have hc0 := hnil rfl
  subst hc0
  have hn0 : n = 0 := by obtain ⟨_, _, _, h1, h2, _⟩ := hs; cases h1; omega
  subst hn0
  have hxs : xs = [] := List.eq_nil_of_length_eq_zero hln
  subst hxs
  exact (Tryd.bytes_Count_one_nil b2 o2 co b w hc2).mono fun e w' ⟨h1, h2⟩ => ⟨h1, h2 ▸ Ext.refl _⟩
 | some a =>
  exact (Tryd.bytes_Count_one_at a n c b2 o2 co xs b w hln (cell_at hs) hc2).mono fun e w' ⟨h1, h2⟩ => ⟨by rw [h1, u8_of, count_bytes hb xs hx], h2 ▸ Ext.refl _⟩
theorem index1_any (w : World) (a po : Option Addr) (n c co : Nat) (p T : List Int) (b : Int) (hs : Sl w 1 (.slice a n c) n ((p ++ b :: T).map (Value.int .u8))) (ho : Sl w 1 (.slice po 1 co) 1 ([b].map (Value.int .u8))) (hb : 0 ≤ b ∧ b < 256) (hx : ∀ x ∈ p, 0 ≤ x ∧ x < 256) (hp : b ∉ p) :
 Calls Tryd.prog 80 #[.slice a n c, .slice po 1 co] w fun e w' => e = .returned (.int .i64 (p.length : Nat)) ∧ Ext w w' := by
 obtain ⟨b2, o2, rfl, hc2⟩ := one_cell ho
 have hln : (p ++ b :: T).length = n := by have := hs.1; simpa using this
 cases a with
 | none =>
  obtain ⟨_, _, _, h1, h2, h3, h4⟩ := hs
  cases h1
  rcases h4 with h4 | ⟨_, _, h4, _⟩
  · rw [List.length_append, List.length_cons] at hln; omega
  · cases h4
 | some a =>
  exact (Tryd.bytes_Index_one_at a n c b2 o2 co (p ++ b :: T) b w hln (cell_at hs) hc2).mono fun e w' ⟨h1, h2⟩ => ⟨by rw [h1, u8_of, index_bytes hb p T hx hp], h2 ▸ Ext.refl _⟩
theorem replaceAll_any (w0 : World) (a po pn : Option Addr) (n c co ln cn : Nat) (xs new : List Int) (b : Int) (hs : Sl w0 1 (.slice a n c) n (xs.map (Value.int .u8))) (hnil : a = none → c = 0) (ho : Sl w0 1 (.slice po 1 co) 1 ([b].map (Value.int .u8))) (hw : Sl w0 1 (.slice pn ln cn) ln (new.map (Value.int .u8)))
 (hb : 0 ≤ b ∧ b < 256) (hx : ∀ x ∈ xs, 0 ≤ x ∧ x < 256) (hb1 : n ≤ 1000000000) (hb3 : ln ≤ 1000) :
 Calls Tryd.prog 43 #[.slice a n c, .slice po 1 co, .slice pn ln cn] w0 fun e w => ∃ (ao : Option Addr) (c' : Nat), e = .returned (.slice ao (rep1 b new xs).length c') ∧ St w0 w [own 5 1 ao (rep1 b new xs).length c' ((rep1 b new xs).map (Value.int .u8))] := by
 obtain ⟨h1, h2, h3, h4⟩ := sp1_spec b new xs
 obtain ⟨ps, hps⟩ : ∃ ps, (sp1 b xs).1 = ps := ⟨_, rfl⟩
 obtain ⟨last, hlast⟩ : ∃ l, (sp1 b xs).2 = l := ⟨_, rfl⟩
 rw [hps, hlast] at h1 h2
 rw [hps] at h3 h4
 rw [← pre_all] at h1 h2
 have hmem : ∀ k (h : k < ps.length), ∃ T, xs.drop (pre [b] ps k).length = ps[k] ++ b :: T := fun k h => by
  obtain ⟨T, hT⟩ := pre_split [b] ps k ps.length rfl h
  refine ⟨T ++ last, ?_⟩
  rw [← h1, hT, List.append_assoc, List.drop_left' rfl]
  simp
 have HC : Veil3 (∀ w, Ext w0 w → Calls Tryd.prog 79 #[.slice a n c, .slice po 1 co] w fun e w' => e = .returned (.int .i64 (ps.length : Nat)) ∧ Ext w w') := ⟨fun w hE => h3 ▸ count1_any w a po n c co xs b (hs.ext hE) hnil (ho.ext hE) hb hx⟩
 have HI : Veil3 (∀ k (h : k < ps.length) w, Ext w0 w → Calls Tryd.prog 80 #[.slice (cutAt a c (pre [b] ps k).length 1) (n - (pre [b] ps k).length) (c - (pre [b] ps k).length), .slice po 1 co] w fun e w' => e = .returned (.int .i64 (ps[k].length : Nat)) ∧ Ext w w') := ⟨fun k h w hE => by
  obtain ⟨T, hT⟩ := hmem k h
  have hln : xs.length = n := by have := hs.1; simpa using this
  have hle : (pre [b] ps k).length ≤ n := by
   have := pre_le [b] ps k ps.length (by omega)
   have h5 := congrArg List.length h1
   rw [List.length_append] at h5
   omega
  have hsl := (hs.ext hE).cutAt (pre [b] ps k).length n hle (Nat.le_refl _)
  have h6 : ((xs.map (Value.int .u8)).drop ((pre [b] ps k).length * 1)).take ((n - (pre [b] ps k).length) * 1) = (ps[k] ++ b :: T).map (Value.int .u8) := by
   rw [Nat.mul_one, Nat.mul_one, ← List.map_drop, ← List.map_take, List.take_of_length_le (by rw [List.length_drop]; omega), hT]
  rw [h6] at hsl
  refine index1_any w _ po _ _ co ps[k] T b hsl (ho.ext hE) hb (fun x hxm => hx x ?_) (h4 _ (List.getElem_mem h))
  have : x ∈ xs.drop (pre [b] ps k).length := by rw [hT]; simp [hxm]
  exact List.mem_of_mem_drop this⟩
 have HR := replace_any w0 a po pn n c 1 co ln cn ps.length ps last [b] new rfl (h1.symm ▸ hs) ho hw (by decide) hb1 (by decide) hb3 HC HI
 rw [h2] at HR
 have HRv : Veil3 _ := ⟨HR⟩
 have hS := St.start w0
 clear HC HI HR hmem h1 h2 h3 h4 hps hlast
 obtain ⟨R, hR⟩ : ∃ R, rep1 b new xs = R := ⟨_, rfl⟩
 rw [hR] at HRv ⊢
 clear hR
 go_enter Tryd.func43, Tryd.ntmps43
 repeat' (first
  | ((with_reducible refine gt9 _ (.call ⟨.value (.func 60), _, _⟩) ?_); refine wpl_call (f := 60) Tryd.call60 kr9 ?_; refine ⟨_, (HRv.out), ?_⟩; rintro e w ⟨ao, c', rfl, hS2⟩; replace hS := hS2; clear hS2; refine ⟨_, rfl, ?_⟩; refine put_move ?_; go_step) | (refine y91 ?_) | ((fail_if_success with_reducible refine ga9 ?_); go_step))
 go_ret
 exact ⟨ao, c', rfl, hS⟩
def stf (l : List Int) : List Int := rep1 255 [255, 0] l
theorem stf_len (l : List Int) : (stf l).length = l.length + l.count 255 := by
 induction l with
 | nil => rfl
 | cons x l ih =>
  have e : stf (x :: l) = (if x = 255 then [255, 0] else [x]) ++ stf l := by simp [stf, rep1]
  rw [e, List.length_append, ih, List.length_cons, List.count_cons]
  by_cases h : x = 255
  · subst h; simp; omega
  · simp [h]; omega
theorem stuff_any (w0 : World) (a : Option Addr) (n c : Nat) (xs : List Int) (hs : Sl w0 1 (.slice a n c) n (xs.map (Value.int .u8))) (hnil : a = none → c = 0) (hx : ∀ x ∈ xs, 0 ≤ x ∧ x < 256) (hb1 : n ≤ 1000000000) :
 Calls Tryd.prog 33 #[.slice a n c] w0 fun e w => ∃ (ao : Option Addr) (c' : Nat), e = .returned (.slice ao (stf xs).length c') ∧ St w0 w [own 5 1 ao (stf xs).length c' ((stf xs).map (Value.int .u8))] := by
 have hS := St.start w0
 have HX : Veil3 _ := ⟨hx⟩
 clear hx
 go_enter Tryd.func33, Tryd.ntmps33
 repeat' (first
  | ((with_reducible refine gt9 _ (.call ⟨.value (.func 43), _, _⟩) ?_); refine wpl_call (f := 43) Tryd.call43 kr9 ?_; refine ⟨_, (replaceAll_any _ a (some ⟨g4, 0, none⟩) (some ⟨g5, 0, none⟩) n c 1 2 2 xs [255, 0] 255 (hs.ext hS.1) hnil (hS.slBlk (n := 1) (cs := [.int .u8 255]) pl9 (by rfl) (by decide)) (hS.slBlk (n := 2) (cs := [.int .u8 255, .int .u8 0]) pl9 (by rfl) (by decide)) (by decide) HX.out hb1 (by decide)), ?_⟩; rintro e w ⟨ao, c', rfl, hS2⟩; replace hS := hS.call1 hS2; clear hS2; refine ⟨_, rfl, ?_⟩; refine put_move ?_; go_step) | (refine y91 ?_) | ((with_reducible refine gs9 4 ?_); (refine wl9 ?_; apply wp_buildSlice1 (o := ⟨some 4, _, _, _, _, _⟩) hS 34 1 _ rfl 5 1 1 el34 _ _; (case hvs => (repeat (first | exact Parts.nil | (apply Parts.agg; (rfl); (rfl)) | (apply Parts.one; exact isv9; (rfl); (rfl))))); (case hn => rfl); (case hn0 => decide); (case hns => decide); clear hS; intro g4 w hS; refine put_move ?_; go_step)) | ((with_reducible refine gs9 5 ?_); (refine wl9 ?_; apply wp_buildSlice1 (o := ⟨some 5, _, _, _, _, _⟩) hS 34 2 _ rfl 5 1 1 el34 _ _; (case hvs => (repeat (first | exact Parts.nil | (apply Parts.agg; (rfl); (rfl)) | (apply Parts.one; exact isv9; (rfl); (rfl))))); (case hn => rfl); (case hn0 => decide); (case hns => decide); clear hS; intro g5 w hS; refine put_move ?_; go_step)) | ((fail_if_success with_reducible refine ga9 ?_); go_step))
 go_ret
 refine ⟨ao, c', rfl, ?_⟩
 unfold stf
 exact hS.sub sb9

end Go.Proofs.YtehbjhocgnfpmaaDoor
/- Things of the call's own, as one thing. -/
namespace Go.Proofs.YtehbjhocgnfpmaaDoor
open Go.RowKit
set_option linter.unusedVariables false
def star (rs : List Res) : Res := bag fun _ : Unit => rs
theorem St.star0 {W w : World} {rs : List Res} (h : St W w rs) : St W w (Go.Proofs.YtehbjhocgnfpmaaDoor.star [] :: rs) := St.close () h
theorem St.starPut {W w : World} {r : Res} {ss rs rs' : List Res} (h : St W w (Go.Proofs.YtehbjhocgnfpmaaDoor.star ss :: rs)) (p : Pull r rs rs') : St W w (Go.Proofs.YtehbjhocgnfpmaaDoor.star (ss ++ [r]) :: rs') := by
 have h1 : St W w (r :: Go.Proofs.YtehbjhocgnfpmaaDoor.star ss :: rs') := h.pull (.tail p)
 obtain ⟨_, h2⟩ := (h1.pull (.tail .head)).open
 refine St.close () ?_
 have h3 : St W w (ss ++ (r :: rs')) := h2
 simpa using h3
theorem Pull.mem {r : Res} : ∀ {ss : List Res} (rs : List Res), r ∈ ss → ∃ ss', Pull r (ss ++ rs) ss'
 | [], _, h => by cases h
 | x :: ss, rs, h => by
  by_cases hx : r = x
  · subst hx; exact ⟨_, .head⟩
  · obtain ⟨s, hs⟩ := Pull.mem (ss := ss) rs ((List.mem_cons.1 h).resolve_left hx); exact ⟨x :: s, .tail hs⟩
theorem St.starGet {W w : World} {ss rs rs' : List Res} (h : St W w rs) (p : Pull (Go.Proofs.YtehbjhocgnfpmaaDoor.star ss) rs rs') {r : Res} (hr : r ∈ ss) : ∃ rs'', St W w (r :: rs'') := by
 obtain ⟨_, h2⟩ := (h.pull p).open
 obtain ⟨s, hs⟩ := Pull.mem rs' hr
 exact ⟨s, h2.pull hs⟩
theorem own_nil {W w : World} {rs rs' : List Res} {e : TypeId} {s n c : Nat} {ad : Option Addr} {cs : List Value} (hS : St W w rs) (hp : Pull (own e s ad n c cs) rs rs') (h : ad = none) : c = 0 := by
 rcases (hS.own hp).2 with ⟨h1, _⟩ | ⟨g, cap, cur, h1, _⟩
 · cases h1; rfl
 · subst h; cases h1

structure Pc where
 ad : Option Addr
 c : Nat
 xs : List Int
def Pc.val (p : Pc) : Value := .slice p.ad p.xs.length p.c
def Pc.res (p : Pc) : Res := own 5 1 p.ad p.xs.length p.c (p.xs.map (Value.int .u8))
theorem pcs_get {W w : World} {pcs : List Pc} {rs rs' : List Res} (h : St W w rs) (p : Pull (star (pcs.map Pc.res)) rs rs') {x : Pc} (hx : x ∈ pcs) : Sl w 1 x.val x.xs.length (x.xs.map (Value.int .u8)) := by
 obtain ⟨s, hs⟩ := h.starGet p (List.mem_map.2 ⟨x, hx, rfl⟩)
 exact hs.sl (show Pull (own 5 1 x.ad x.xs.length x.c (x.xs.map (Value.int .u8))) (Pc.res x :: s) s from .head)
def spf : List Int → List (List Int) → List Int → List Int → Option (List (List Int) × List Int)
 | [], o, m, p => some (o ++ [p], m)
 | x :: l, o, m, p => if x = 255 then (match l with
  | [] => none
  | y :: l' => if y = 255 then none else if y = 0 then spf l' o m (p ++ [255, 0]) else spf l' (o ++ [p]) (m ++ [y]) []) else spf l o m (p ++ [x])
theorem spf_at (xs : List Int) (i : Nat) (o : List (List Int)) (m p : List Int) (h : i < xs.length) (hx : nth xs i ≠ 255) : spf (xs.drop i) o m p = spf (xs.drop (i + 1)) o m (p ++ [nth xs i]) := by
 have e : xs.drop i = nth xs i :: xs.drop (i + 1) := by rw [List.drop_eq_getElem_cons h]; simp [nth, List.getD, h]
 rw [e, spf.eq_def]; dsimp only; rw [if_neg hx]
theorem spf_end (xs : List Int) (i : Nat) (o : List (List Int)) (m p : List Int) (h : i + 1 = xs.length) (hx : nth xs i = 255) : spf (xs.drop i) o m p = none := by
 have e : xs.drop i = nth xs i :: xs.drop (i + 1) := by rw [List.drop_eq_getElem_cons (by omega)]; simp [nth, List.getD, show i < xs.length by omega]
 rw [e, List.drop_of_length_le (by omega)]; simp only [spf]; rw [if_pos hx]
theorem spf_two (xs : List Int) (i : Nat) (o : List (List Int)) (m p : List Int) (h : i + 1 < xs.length) (hx : nth xs i = 255) :
 spf (xs.drop i) o m p = if nth xs (i + 1) = 255 then none else if nth xs (i + 1) = 0 then spf (xs.drop (i + 2)) o m (p ++ [255, 0]) else spf (xs.drop (i + 2)) (o ++ [p]) (m ++ [nth xs (i + 1)]) [] := by
 have e : xs.drop i = nth xs i :: xs.drop (i + 1) := by rw [List.drop_eq_getElem_cons (by omega)]; simp [nth, List.getD, show i < xs.length by omega]
 have e2 : xs.drop (i + 1) = nth xs (i + 1) :: xs.drop (i + 2) := by rw [List.drop_eq_getElem_cons h]; simp [nth, List.getD, h]
 rw [e, e2]; simp only [spf]; rw [if_pos hx]
theorem spf_out (xs : List Int) (i : Nat) (o : List (List Int)) (m p : List Int) (h : xs.length ≤ i) : spf (xs.drop i) o m p = some (o ++ [p], m) := by
 rw [List.drop_of_length_le h, spf]
set_option maxRecDepth 100000 in
set_option maxHeartbeats 8000000 in
theorem split_any (w0 : World) (a : Option Addr) (n c : Nat) (xs : List Int) (hs : Sl w0 1 (.slice a n c) n (xs.map (Value.int .u8))) (hx : ∀ x ∈ xs, 0 ≤ x ∧ x < 256) (hb : n ≤ 1000000000) :
 Calls Tryd.prog 19 #[.slice a n c] w0 fun e w => (spf xs [] [] [] = none → e = .returned (.tuple #[.slice none 0 0, .slice none 0 0, .int .i64 4]) ∧ Ext w0 w) ∧
  (∀ ps ms, spf xs [] [] [] = some (ps, ms) → ∃ (pcs : List Pc) (ao am : Option Addr) (co cm lo lm : Nat), lo = ps.length ∧ lm = ms.length ∧ pcs.map (·.xs) = ps ∧ e = .returned (.tuple #[.slice ao lo co, .slice am lm cm, .int .i64 0]) ∧
   St w0 w [own 34 1 ao lo co (pcs.map Pc.val), own 3 1 am lm cm (ms.map (Value.int .i64)), star (pcs.map Pc.res)]) := by
 have hS := St.start w0
 have hln : xs.length = n := by have := hs.1; simpa using this
 have hcell : ∃ b0 o0, ∀ i, i < n → a = some ⟨b0, o0, none⟩ ∧ w0.cell? ⟨b0, o0 + i, none⟩ = some (.int .u8 (nth xs i)) := by
  obtain ⟨_, a1, c1, e1, _, _, hor⟩ := hs
  cases e1
  rcases hor with h0 | ⟨b0, o0, e2, hc⟩
  · exact ⟨0, 0, fun i hi => by omega⟩
  · refine ⟨b0, o0, fun i hi => ⟨e2, ?_⟩⟩
    rw [hc i (by omega), List.getElem?_map, get_nth xs i (by omega)]; rfl
 obtain ⟨b0, o0, hcell⟩ := hcell
 have hrng : ∀ i, i < n → 0 ≤ nth xs i ∧ nth xs i < 256 := fun i hi => hx _ (by simp [nth, List.getD, show i < xs.length by omega])
 have HC := hid hcell
 have HR := hid hrng
 have HT : Hid (∃ T, spf xs [] [] [] = T) := ⟨_, rfl⟩
 obtain ⟨T, hT⟩ := HT.out
 rw [hT]
 clear hcell hrng HT hx hs
 go_enter Tryd.func19, Tryd.ntmps19
 repeat' (first
  | (refine y92 ?_) | ((fail_if_success with_reducible refine ga9 ?_); go_step))
 go_loopg [5, 6, 7, 8] n (fun gk ov mv pv iv w => ∃ (i lo lm lp : Nat) (pcs : List Pc) (m p : List Int) (ao am ap : Option Addr) (co cm cp : Nat), gk + i = n ∧ lo = pcs.length ∧ lm = m.length ∧ lp = p.length ∧ lo ≤ i ∧ lm ≤ i ∧ lp ≤ i ∧ ov = .slice ao lo co ∧ mv = .slice am lm cm ∧ pv = .slice ap lp cp ∧ iv = .int .i64 i ∧
  spf (xs.drop i) (pcs.map (·.xs)) m p = T ∧ St w0 w [own 34 1 ao lo co (pcs.map Pc.val), own 3 1 am lm cm (m.map (Value.int .i64)), own 5 1 ap lp cp (p.map (Value.int .u8)), star (pcs.map Pc.res)])
 case atStart => exact ⟨0, 0, 0, 0, [], [], [], none, none, none, 0, 0, 0, by omega, rfl, rfl, rfl, by omega, by omega, by omega, rfl, rfl, rfl, rfl, hT, (((hS.star0).nilk 5 1 .u8).nilk 3 1 .i64).nil 34 1⟩
 case round =>
  clear hS hT
  obtain ⟨i, lo, lm, lp, pcs, m, p, ao, am, ap, co, cm, cp, hi, hlo, hlm, hlp, hlo2, hlm2, hlp2, rfl, rfl, rfl, rfl, hT, hS⟩ := hrel
  by_cases hlt : i < n
  · obtain ⟨rfl, hc0⟩ := HC.out i hlt
    by_cases hx : nth xs i = 255
    · by_cases hend : i + 1 = n
      · rw [spf_end xs i _ _ _ (by omega) hx] at hT
        have HT := hid hT
        rw [hx] at hc0
        clear hT hx
        repeat' (first
         | (refine y9144 ?_) | (refine y95 ?_) | (refine y911 ?_) | ((fail_if_success with_reducible refine ga9 ?_); go_step))
        repeat' (first
         | (refine y9144 ?_) | (refine y932 ?_) | (refine y937 ?_) | (refine y9126 ?_) | ((fail_if_success with_reducible refine ga9 ?_); go_step))
        repeat' (first
         | (refine y949 ?_) | (refine y91 ?_) | ((fail_if_success with_reducible refine ga9 ?_); go_step))
        repeat' (first
         | go_big_skip | ((first | (with_reducible refine mv9 ?_) | (with_reducible refine as9 ?_)); (first | go_big_want | go_step); go_step) | ((with_reducible refine gt9 _ (.pick _ _ _) ?_); (refine wplPickT rfl kr9 ?_; go_step)) | ((with_reducible refine gs9 45 ?_); (refine wplD _ (V.eql rfl rfl) kr9 (fun hB => ?_) (fun hB => ?_) <;> (try (have hF : False := (by omega); cases hF)) <;> go_step)) | ((with_reducible refine gs9 44 ?_); (refine wvv9 (V.len Tryd.underlying34 rfl) ?_; go_step)) | ((fail_if_success with_reducible refine ga9 ?_); go_step))
        refine ret_all (xs := [_, _, _]) rfl (.cons (OneRes.tmp rfl) (.cons (OneRes.tmp rfl) (.cons (OneRes.tmp rfl) (.nil)))) (by simp) rfl ?_
        exact ⟨fun _ => ⟨rfl, hS.1⟩, fun ps ms h => by rw [← HT.out] at h; cases h⟩
      · rw [spf_two xs i _ _ _ (by omega) hx] at hT
        obtain ⟨_, hc1⟩ := HC.out (i + 1) (by omega)
        have hr := HR.out (i + 1) (by omega)
        rw [hx] at hc0
        obtain ⟨y, hy⟩ : ∃ y, nth xs (i + 1) = y := ⟨_, rfl⟩
        rw [hy] at hT hc1 hr
        clear hx hy
        by_cases hy255 : y = 255
        · rw [if_pos hy255] at hT
          have HT := hid hT
          clear hT
          repeat' (first
           | (refine y9144 ?_) | (refine y95 ?_) | (refine y911 ?_) | ((fail_if_success with_reducible refine ga9 ?_); go_step))
          repeat' (first
           | (refine y9144 ?_) | (refine y932 ?_) | (refine y937 ?_) | (refine y9126 ?_) | ((fail_if_success with_reducible refine ga9 ?_); go_step))
          repeat' (first
           | (refine y949 ?_) | (refine y91 ?_) | ((fail_if_success with_reducible refine ga9 ?_); go_step))
          repeat' (first
           | (refine y91 ?_) | (refine y9137 ?_) | ((with_reducible refine gs9 45 ?_); (refine wplD _ (V.eql rfl rfl) kr9 (fun hB => ?_) (fun hB => ?_) <;> (try (have hF : False := (by omega); cases hF)) <;> go_step)) | (refine y961 ?_) | (refine y964 ?_) | (refine y967 ?_) | (refine y9126 ?_) | ((fail_if_success with_reducible refine ga9 ?_); go_step))
          refine ret_all (xs := [_, _, _]) rfl (.cons (OneRes.tmp rfl) (.cons (OneRes.tmp rfl) (.cons (OneRes.tmp rfl) (.nil)))) (by simp) rfl ?_
          exact ⟨fun _ => ⟨rfl, hS.1⟩, fun ps ms h => by rw [← HT.out] at h; cases h⟩
        · rw [if_neg hy255] at hT
          by_cases hy0 : y = 0
          · rw [if_pos hy0] at hT
            have HT := hid hT
            clear hT
            repeat' (first
             | (refine y9144 ?_) | (refine y95 ?_) | (refine y911 ?_) | ((fail_if_success with_reducible refine ga9 ?_); go_step))
            repeat' (first
             | (refine y9144 ?_) | (refine y932 ?_) | (refine y937 ?_) | (refine y9126 ?_) | ((fail_if_success with_reducible refine ga9 ?_); go_step))
            repeat' (first
             | (refine y949 ?_) | (refine y91 ?_) | ((fail_if_success with_reducible refine ga9 ?_); go_step))
            repeat' (first
             | (refine y91 ?_) | (refine y9137 ?_) | ((with_reducible refine gs9 45 ?_); (refine wplD _ (V.eql rfl rfl) kr9 (fun hB => ?_) (fun hB => ?_) <;> (try (have hF : False := (by omega); cases hF)) <;> go_step)) | (refine y961 ?_) | (refine y964 ?_) | (refine y967 ?_) | (refine y9126 ?_) | ((fail_if_success with_reducible refine ga9 ?_); go_step))
            repeat' (first
             | (refine y91 ?_) | (refine y975 ?_) | ((with_reducible refine gs9 58 ?_); (refine wvv9 (V.eql rfl rfl) ?_; go_step)) | (refine y9126 ?_) | ((with_reducible refine gs9 60 ?_); (refine wl9 ?_; apply wp_buildSlice1 (o := ⟨some 60, _, _, _, _, _⟩) hS 34 2 _ rfl 5 1 1 el34 _ _; (case hvs => (repeat (first | exact Parts.nil | (apply Parts.agg; (rfl); (rfl)) | (apply Parts.one; exact isv9; (rfl); (rfl))))); (case hn => rfl); (case hn0 => decide); (case hns => decide); clear hS; intro g60 w hS; refine put_move ?_; go_step)) | ((with_reducible refine gs9 61 ?_); (refine wl9 ?_; apply wp_append (o := ⟨some 61, _, _, _, _, _⟩) hS _ _ 34 rfl 5 1 1 el34 _ _ _ _ rfl; (case hp => exact pl9); (case hx => exact rfl); (case hm => (first | exact hS.slBlk pl9 (by rfl) (by decide) | exact hS.sl pl9 | with_reducible assumption | exact Sl.ext (by with_reducible assumption) hS.1 | exact Sl.nil _ _ | exact Sl.ext (by assumption) hS.1 | assumption)); (case h1 => (first | exact oneAll rfl | exact oneMap _ _ | (intro u hu; cases hu))); (case h63 => unfold maxLen; omega); (case hb => omega); clear hS; intro ad61 c61 w hS; (first | simp only [mapk1] at hS | simp only [mapk2] at hS | simp only [mapk3] at hS | simp only [mapk4] at hS | simp only [mapkl] at hS | skip); refine put_move ?_; go_step)) | ((fail_if_success with_reducible refine ga9 ?_); go_step))
            repeat' (first
             | (refine y922 ?_) | (refine y92 ?_) | ((fail_if_success with_reducible refine ga9 ?_); go_step))
            go_roundg (gk - 2)
            case measure => omega
            case rel => exact ⟨i + 2, lo, lm, lp + 2, pcs, m, p ++ [255, 0], _, _, _, _, _, _, by omega, hlo, hlm, by simp; omega, by omega, by omega, by omega, rfl, rfl, rfl, by go_num, HT.out, hS.sub sb9⟩
          · rw [if_neg hy0] at hT
            have HT := hid hT
            clear hT
            repeat' (first
             | (refine y9144 ?_) | (refine y95 ?_) | (refine y911 ?_) | ((fail_if_success with_reducible refine ga9 ?_); go_step))
            repeat' (first
             | (refine y9144 ?_) | (refine y932 ?_) | (refine y937 ?_) | (refine y9126 ?_) | ((fail_if_success with_reducible refine ga9 ?_); go_step))
            repeat' (first
             | (refine y949 ?_) | (refine y91 ?_) | ((fail_if_success with_reducible refine ga9 ?_); go_step))
            repeat' (first
             | (refine y91 ?_) | (refine y9137 ?_) | ((with_reducible refine gs9 45 ?_); (refine wplD _ (V.eql rfl rfl) kr9 (fun hB => ?_) (fun hB => ?_) <;> (try (have hF : False := (by omega); cases hF)) <;> go_step)) | (refine y961 ?_) | (refine y964 ?_) | (refine y967 ?_) | (refine y9126 ?_) | ((fail_if_success with_reducible refine ga9 ?_); go_step))
            repeat' (first
             | (refine y92 ?_) | (refine y975 ?_) | ((with_reducible refine gs9 58 ?_); (refine wvv9 (V.eql rfl rfl) ?_; go_step)) | (refine y9126 ?_) | ((fail_if_success with_reducible refine ga9 ?_); go_step))
            refine drawn_lit [10, 11] (fun w => St w0 w []) kr9 ?_
            replace hS := hS.drew
            focus
             refine takeM 0 _ al9 kr9 kr9 kr9 hq9 rfl ?_
             go_step
             refine takeM 1 _ al9 kr9 kr9 kr9 hq9 rfl ?_
             go_step
             refine takeM 4 _ al9 kr9 kr9 kr9 hq9 rfl ?_
             go_step
             refine takeM 5 _ al9 kr9 kr9 kr9 hq9 rfl ?_
             go_step
             refine takeM 6 _ al9 kr9 kr9 kr9 hq9 rfl ?_
             go_step
             (refine takeV 7 _ al9 kr9 kr9 kr9 hq9 (V.indexSl Tryd.underlying34 isz5 rfl rfl isn9 (by omega) (Nat.mul_one _) nq9) rfl ?_)
             go_step
             apply takeS 8 al9 kr9 kr9 kr9 hq9 [9, 10, 11, 12, 13, 14] kr9 (hS.sub sb9)
             case hfr => intro w hS; ((refine wl9 ?_; apply wp_loadW hS 5 _ rfl _ rfl (one_of rfl) _; (case hc => with_reducible assumption); refine put_move ?_; go_step)); refine wpList_nil ?_; exact ⟨rfl, rfl⟩
             case hd => rfl
             (refine takeV 9 _ al9 kr9 kr9 kr9 hq9 (V.convI (by rw [Tryd.underlying5]; rfl) Tryd.underlying3 rfl (IntWalk.i64_in _ (by omega))) rfl ?_)
             go_step
             refine branch [2, 10] kr9 (by simp) (.cons al9 rfl ?_ (.cons al9 rfl ?_ (.nil)))
             rotate_left 1
             focus
              (refine wp_buildSlice1 (o := ⟨some 39, _, _, _, _, _⟩) hS 24 1 _ rfl 3 1 8 el24 _ _ (by (repeat (first | exact Parts.nil | (apply Parts.agg; (rfl); (rfl)) | (apply Parts.one; exact isv9; (rfl); (rfl))))) (by rfl) (by decide) (by decide) ?_; clear hS; intro g39 w hS)
              refine ⟨fun h => absurd (by decide) h, ?_⟩
              refine drawn_move ?_
              go_step
              refine branch1 2 al9 rfl kr9 ?_
              (refine wp_buildSlice1 (o := ⟨some 31, _, _, _, _, _⟩) hS 37 1 _ rfl 34 1 24 el37 _ _ (by (repeat (first | exact Parts.nil | (apply Parts.agg; (rfl); (rfl)) | (apply Parts.one; exact isv9; (rfl); (rfl))))) (by rfl) (by decide) (by decide) ?_; clear hS; intro g31 w hS)
              refine ⟨fun _ _ => hS.sub sb9, ?_⟩
              refine drawn_move ?_
              go_step
              refine branch1 3 al9 rfl kr9 ?_
              (refine wp_append (o := ⟨some 32, _, _, _, _, _⟩) hS _ _ 37 rfl 34 1 24 el37 _ _ _ _ rfl pl9 _ rfl _ _ (by (first | exact hS.slBlk pl9 (by rfl) (by decide) | exact hS.sl pl9 | with_reducible assumption | exact Sl.ext (by with_reducible assumption) hS.1 | exact Sl.nil _ _ | exact Sl.ext (by assumption) hS.1 | assumption)) (by (first | exact oneAll rfl | exact oneMap _ _ | (intro u hu; cases hu))) (by unfold maxLen; omega) (by omega) ?_; clear hS; intro ad32 c32 w hS; (first | simp only [mapk1] at hS | simp only [mapk2] at hS | simp only [mapk3] at hS | simp only [mapk4] at hS | simp only [mapkl] at hS | skip))
              refine ⟨fun _ _ => hS.sub sb9, ?_⟩
              refine drawn_move ?_
              go_step
              refine branch1 11 al9 rfl kr9 ?_
              (refine wp_append (o := ⟨some 40, _, _, _, _, _⟩) hS _ _ 24 rfl 3 1 8 el24 _ _ _ _ rfl pl9 _ rfl _ _ (by (first | exact hS.slBlk pl9 (by rfl) (by decide) | exact hS.sl pl9 | with_reducible assumption | exact Sl.ext (by with_reducible assumption) hS.1 | exact Sl.nil _ _ | exact Sl.ext (by assumption) hS.1 | assumption)) (by (first | exact oneAll rfl | exact oneMap _ _ | (intro u hu; cases hu))) (by unfold maxLen; omega) (by omega) ?_; clear hS; intro ad40 c40 w hS; (first | simp only [mapk1] at hS | simp only [mapk2] at hS | simp only [mapk3] at hS | simp only [mapk4] at hS | simp only [mapkl] at hS | skip))
              refine ⟨fun h => absurd (by decide) h, ?_⟩
              refine drawn_move ?_
              go_step
              refine takeA 12 _ al9 kr9 kr9 kr9 hq9 rfl ?_
              go_step
              refine takeA 13 _ al9 kr9 kr9 kr9 hq9 rfl ?_
              go_step
              refine takeA 14 _ al9 kr9 kr9 kr9 hq9 rfl ?_
              go_step
              refine drawn_done kr9 ?_ _
             rotate_right 1
             focus
              (refine wp_buildSlice1 (o := ⟨some 31, _, _, _, _, _⟩) hS 37 1 _ rfl 34 1 24 el37 _ _ (by (repeat (first | exact Parts.nil | (apply Parts.agg; (rfl); (rfl)) | (apply Parts.one; exact isv9; (rfl); (rfl))))) (by rfl) (by decide) (by decide) ?_; clear hS; intro g31 w hS)
              refine ⟨fun _ _ => hS.sub sb9, ?_⟩
              refine drawn_move ?_
              go_step
              refine branch [3, 10] kr9 (by simp) (.cons al9 rfl ?_ (.cons al9 rfl ?_ (.nil)))
              rotate_left 1
              focus
               (refine wp_buildSlice1 (o := ⟨some 39, _, _, _, _, _⟩) hS 24 1 _ rfl 3 1 8 el24 _ _ (by (repeat (first | exact Parts.nil | (apply Parts.agg; (rfl); (rfl)) | (apply Parts.one; exact isv9; (rfl); (rfl))))) (by rfl) (by decide) (by decide) ?_; clear hS; intro g39 w hS)
               refine ⟨fun h => absurd (by decide) h, ?_⟩
               refine drawn_move ?_
               go_step
               refine branch1 3 al9 rfl kr9 ?_
               (refine wp_append (o := ⟨some 32, _, _, _, _, _⟩) hS _ _ 37 rfl 34 1 24 el37 _ _ _ _ rfl pl9 _ rfl _ _ (by (first | exact hS.slBlk pl9 (by rfl) (by decide) | exact hS.sl pl9 | with_reducible assumption | exact Sl.ext (by with_reducible assumption) hS.1 | exact Sl.nil _ _ | exact Sl.ext (by assumption) hS.1 | assumption)) (by (first | exact oneAll rfl | exact oneMap _ _ | (intro u hu; cases hu))) (by unfold maxLen; omega) (by omega) ?_; clear hS; intro ad32 c32 w hS; (first | simp only [mapk1] at hS | simp only [mapk2] at hS | simp only [mapk3] at hS | simp only [mapk4] at hS | simp only [mapkl] at hS | skip))
               refine ⟨fun _ _ => hS.sub sb9, ?_⟩
               refine drawn_move ?_
               go_step
               refine branch1 11 al9 rfl kr9 ?_
               (refine wp_append (o := ⟨some 40, _, _, _, _, _⟩) hS _ _ 24 rfl 3 1 8 el24 _ _ _ _ rfl pl9 _ rfl _ _ (by (first | exact hS.slBlk pl9 (by rfl) (by decide) | exact hS.sl pl9 | with_reducible assumption | exact Sl.ext (by with_reducible assumption) hS.1 | exact Sl.nil _ _ | exact Sl.ext (by assumption) hS.1 | assumption)) (by (first | exact oneAll rfl | exact oneMap _ _ | (intro u hu; cases hu))) (by unfold maxLen; omega) (by omega) ?_; clear hS; intro ad40 c40 w hS; (first | simp only [mapk1] at hS | simp only [mapk2] at hS | simp only [mapk3] at hS | simp only [mapk4] at hS | simp only [mapkl] at hS | skip))
               refine ⟨fun h => absurd (by decide) h, ?_⟩
               refine drawn_move ?_
               go_step
               refine takeA 12 _ al9 kr9 kr9 kr9 hq9 rfl ?_
               go_step
               refine takeA 13 _ al9 kr9 kr9 kr9 hq9 rfl ?_
               go_step
               refine takeA 14 _ al9 kr9 kr9 kr9 hq9 rfl ?_
               go_step
               refine drawn_done kr9 ?_ _
              rotate_right 1
              focus
               (refine wp_append (o := ⟨some 32, _, _, _, _, _⟩) hS _ _ 37 rfl 34 1 24 el37 _ _ _ _ rfl pl9 _ rfl _ _ (by (first | exact hS.slBlk pl9 (by rfl) (by decide) | exact hS.sl pl9 | with_reducible assumption | exact Sl.ext (by with_reducible assumption) hS.1 | exact Sl.nil _ _ | exact Sl.ext (by assumption) hS.1 | assumption)) (by (first | exact oneAll rfl | exact oneMap _ _ | (intro u hu; cases hu))) (by unfold maxLen; omega) (by omega) ?_; clear hS; intro ad32 c32 w hS; (first | simp only [mapk1] at hS | simp only [mapk2] at hS | simp only [mapk3] at hS | simp only [mapk4] at hS | simp only [mapkl] at hS | skip))
               refine ⟨fun _ _ => hS.sub sb9, ?_⟩
               refine drawn_move ?_
               go_step
               refine branch1 10 al9 rfl kr9 ?_
               (refine wp_buildSlice1 (o := ⟨some 39, _, _, _, _, _⟩) hS 24 1 _ rfl 3 1 8 el24 _ _ (by (repeat (first | exact Parts.nil | (apply Parts.agg; (rfl); (rfl)) | (apply Parts.one; exact isv9; (rfl); (rfl))))) (by rfl) (by decide) (by decide) ?_; clear hS; intro g39 w hS)
               refine ⟨fun h => absurd (by decide) h, ?_⟩
               refine drawn_move ?_
               go_step
               refine branch1 11 al9 rfl kr9 ?_
               (refine wp_append (o := ⟨some 40, _, _, _, _, _⟩) hS _ _ 24 rfl 3 1 8 el24 _ _ _ _ rfl pl9 _ rfl _ _ (by (first | exact hS.slBlk pl9 (by rfl) (by decide) | exact hS.sl pl9 | with_reducible assumption | exact Sl.ext (by with_reducible assumption) hS.1 | exact Sl.nil _ _ | exact Sl.ext (by assumption) hS.1 | assumption)) (by (first | exact oneAll rfl | exact oneMap _ _ | (intro u hu; cases hu))) (by unfold maxLen; omega) (by omega) ?_; clear hS; intro ad40 c40 w hS; (first | simp only [mapk1] at hS | simp only [mapk2] at hS | simp only [mapk3] at hS | simp only [mapk4] at hS | simp only [mapkl] at hS | skip))
               refine ⟨fun h => absurd (by decide) h, ?_⟩
               refine drawn_move ?_
               go_step
               refine takeA 12 _ al9 kr9 kr9 kr9 hq9 rfl ?_
               go_step
               refine takeA 13 _ al9 kr9 kr9 kr9 hq9 rfl ?_
               go_step
               refine takeA 14 _ al9 kr9 kr9 kr9 hq9 rfl ?_
               go_step
               refine drawn_done kr9 ?_ _
            all_goals
             repeat' (first
              | (refine y922 ?_) | (refine y91 ?_) | ((fail_if_success with_reducible refine ga9 ?_); go_step))
             subst hlp
             have h2 := (hS.sub (xs := [star (pcs.map Pc.res), own 5 1 ap p.length cp (p.map (Value.int .u8)), own 34 1 ad32 (lo + 1) c32 (pcs.map Pc.val ++ [.slice ap p.length cp]), own 3 1 ad40 (lm + 1) c40 ((m ++ [y]).map (Value.int .i64))]) sb9).starPut Pull.head
             go_roundg (gk - 2)
             case measure => omega
             case rel =>
              refine ⟨i + 2, lo + 1, lm + 1, 0, pcs ++ [⟨ap, cp, p⟩], m ++ [y], [], _, _, _, _, _, _, by omega, by simp; omega, by simp; omega, rfl, by omega, by omega, by omega, rfl, rfl, rfl, by go_num, by rw [List.map_append]; exact HT.out, ?_⟩
              rw [show (pcs ++ [(⟨ap, cp, p⟩ : Pc)]).map Pc.val = pcs.map Pc.val ++ [.slice ap p.length cp] by rw [List.map_append]; rfl, show (pcs ++ [(⟨ap, cp, p⟩ : Pc)]).map Pc.res = pcs.map Pc.res ++ [own 5 1 ap p.length cp (p.map (Value.int .u8))] by rw [List.map_append]; rfl]
              exact (h2.nilk 5 1 .u8).sub sb9
    · rw [spf_at xs i _ _ _ (by omega) hx] at hT
      have HT := hid hT
      obtain ⟨x, hxx⟩ : ∃ x, nth xs i = x := ⟨_, rfl⟩
      rw [hxx] at HT hc0 hx
      clear hT hxx
      repeat' (first
       | (refine y9144 ?_) | (refine y95 ?_) | (refine y911 ?_) | ((fail_if_success with_reducible refine ga9 ?_); go_step))
      repeat' (first
       | (refine y91 ?_) | (refine y932 ?_) | (refine y937 ?_) | ((with_reducible refine gs9 23 ?_); (refine wvv9 (V.indexSl Tryd.underlying34 isz5 rfl rfl isn9 (by omega) (Nat.mul_one _) nq9) ?_; go_step)) | (refine y9126 ?_) | ((with_reducible refine gs9 25 ?_); (refine wl9 ?_; apply wp_buildSlice1 (o := ⟨some 25, _, _, _, _, _⟩) hS 34 1 _ rfl 5 1 1 el34 _ _; (case hvs => (repeat (first | exact Parts.nil | (apply Parts.agg; (rfl); (rfl)) | (apply Parts.one; exact isv9; (rfl); (rfl))))); (case hn => rfl); (case hn0 => decide); (case hns => decide); clear hS; intro g25 w hS; refine put_move ?_; go_step)) | ((with_reducible refine gs9 26 ?_); (refine wl9 ?_; apply wp_append (o := ⟨some 26, _, _, _, _, _⟩) hS _ _ 34 rfl 5 1 1 el34 _ _ _ _ rfl; (case hp => exact pl9); (case hx => exact rfl); (case hm => (first | exact hS.slBlk pl9 (by rfl) (by decide) | exact hS.sl pl9 | with_reducible assumption | exact Sl.ext (by with_reducible assumption) hS.1 | exact Sl.nil _ _ | exact Sl.ext (by assumption) hS.1 | assumption)); (case h1 => (first | exact oneAll rfl | exact oneMap _ _ | (intro u hu; cases hu))); (case h63 => unfold maxLen; omega); (case hb => omega); clear hS; intro ad26 c26 w hS; (first | simp only [mapk1] at hS | simp only [mapk2] at hS | simp only [mapk3] at hS | simp only [mapk4] at hS | simp only [mapkl] at hS | skip); refine put_move ?_; go_step)) | ((fail_if_success with_reducible refine ga9 ?_); go_step))
      repeat' (first
       | ((with_reducible refine gs9 14 ?_); (refine wplV (.int _ (((i + 1 : Nat) : Int))) (V.as (V.addI rfl rfl (by omega)) (by omega)) rfl ?_; go_step)) | (refine y92 ?_) | ((fail_if_success with_reducible refine ga9 ?_); go_step))
      go_roundg (gk - 1)
      case measure => omega
      case rel => exact ⟨i + 1, lo, lm, lp + 1, pcs, m, p ++ [x], _, _, _, _, _, _, by omega, hlo, hlm, by simp; omega, by omega, by omega, by omega, rfl, rfl, rfl, by go_num, HT.out, hS.sub sb9⟩
  · rw [spf_out xs i _ _ _ (by omega)] at hT
    have HT := hid hT
    clear hT
    repeat' (first
     | (refine y9144 ?_) | (refine y95 ?_) | (refine y911 ?_) | ((fail_if_success with_reducible refine ga9 ?_); go_step))
    repeat' (first
     | (refine y91 ?_) | ((with_reducible refine gs9 64 ?_); (refine wl9 ?_; apply wp_buildSlice1 (o := ⟨some 64, _, _, _, _, _⟩) hS 37 1 _ rfl 34 1 24 el37 _ _; (case hvs => (repeat (first | exact Parts.nil | (apply Parts.agg; (rfl); (rfl)) | (apply Parts.one; exact isv9; (rfl); (rfl))))); (case hn => rfl); (case hn0 => decide); (case hns => decide); clear hS; intro g64 w hS; refine put_move ?_; go_step)) | ((with_reducible refine gs9 65 ?_); (refine wl9 ?_; apply wp_append (o := ⟨some 65, _, _, _, _, _⟩) hS _ _ 37 rfl 34 1 24 el37 _ _ _ _ rfl; (case hp => exact pl9); (case hx => exact rfl); (case hm => (first | exact hS.slBlk pl9 (by rfl) (by decide) | exact hS.sl pl9 | with_reducible assumption | exact Sl.ext (by with_reducible assumption) hS.1 | exact Sl.nil _ _ | exact Sl.ext (by assumption) hS.1 | assumption)); (case h1 => (first | exact oneAll rfl | exact oneMap _ _ | (intro u hu; cases hu))); (case h63 => unfold maxLen; omega); (case hb => omega); clear hS; intro ad65 c65 w hS; (first | simp only [mapk1] at hS | simp only [mapk2] at hS | simp only [mapk3] at hS | simp only [mapk4] at hS | simp only [mapkl] at hS | skip); refine put_move ?_; go_step)) | ((fail_if_success with_reducible refine ga9 ?_); go_step))
    refine ret_all (xs := [_, _, _]) rfl (.cons (OneRes.tmp rfl) (.cons (OneRes.tmp rfl) (.cons (OneRes.tmp rfl) (.nil)))) (by simp) rfl ?_
    subst hlp
    refine ⟨fun h => (by rw [← HT.out] at h; cases h), fun ps ms h => ?_⟩
    rw [← HT.out] at h
    cases h
    have h2 := (hS.sub (xs := [star (pcs.map Pc.res), own 5 1 ap p.length cp (p.map (Value.int .u8)), own 34 1 ad65 (lo + 1) c65 (pcs.map Pc.val ++ [.slice ap p.length cp]), own 3 1 am lm cm (m.map (Value.int .i64))]) sb9).starPut Pull.head
    refine ⟨pcs ++ [⟨ap, cp, p⟩], _, _, _, _, _, _, by simp; omega, hlm, by simp, rfl, ?_⟩
    rw [show (pcs ++ [(⟨ap, cp, p⟩ : Pc)]).map Pc.val = pcs.map Pc.val ++ [.slice ap p.length cp] by rw [List.map_append]; rfl, show (pcs ++ [(⟨ap, cp, p⟩ : Pc)]).map Pc.res = pcs.map Pc.res ++ [own 5 1 ap p.length cp (p.map (Value.int .u8))] by rw [List.map_append]; rfl]
    exact h2.sub sb9

theorem stf_nil : stf [] = [] := rfl
theorem stf_cons (x : Int) (l : List Int) : stf (x :: l) = (if x = 255 then [255, 0] else [x]) ++ stf l := by simp [stf, rep1]
theorem stf_inj : ∀ (a b : List Int), stf a = stf b → a = b
 | [], [], _ => rfl
 | [], y :: b, h => by rw [stf_nil, stf_cons] at h; split at h <;> simp at h
 | x :: a, [], h => by rw [stf_nil, stf_cons] at h; split at h <;> simp at h
 | x :: a, y :: b, h => by
  rw [stf_cons, stf_cons] at h
  by_cases hx : x = 255
  · by_cases hy : y = 255
    · rw [if_pos hx, if_pos hy] at h
      simp only [List.cons_append, List.nil_append, List.cons.injEq, true_and] at h
      rw [hx, hy, stf_inj a b h]
    · rw [if_pos hx, if_neg hy] at h
      simp only [List.cons_append, List.nil_append, List.cons.injEq] at h
      exact absurd h.1.symm hy
  · by_cases hy : y = 255
    · rw [if_neg hx, if_pos hy] at h
      simp only [List.cons_append, List.nil_append, List.cons.injEq] at h
      exact absurd h.1 hx
    · rw [if_neg hx, if_neg hy] at h
      simp only [List.cons_append, List.nil_append, List.cons.injEq] at h
      rw [h.1, stf_inj a b h.2]
theorem spf_stf : ∀ (c : List Int) (o : List (List Int)) (m p : List Int), spf (stf c) o m p = some (o ++ [p ++ stf c], m)
 | [], o, m, p => by rw [stf_nil, spf, List.append_nil]
 | x :: c, o, m, p => by
  rw [stf_cons]
  by_cases h : x = 255
  · subst h
    rw [if_pos rfl, spf.eq_def]
    simp only [List.cons_append, List.nil_append, if_true]
    rw [if_neg (by decide), spf_stf c]
    simp
  · rw [if_neg h, spf.eq_def]
    simp only [List.cons_append, List.nil_append]
    rw [if_neg h, spf_stf c]
    simp
theorem spf_spec : ∀ (k : Nat) (b : List Int) (o : List (List Int)) (m p : List Int) (ps : List (List Int)) (ms : List Int), b.length ≤ k → spf b o m p = some (ps, ms) →
 ∃ (q : List Int) (r : List (Int × List Int)), ps = o ++ ((p ++ q) :: r.map (·.2)) ∧ ms = m ++ r.map (·.1) ∧ b = q ++ r.flatMap (fun y => 255 :: y.1 :: y.2) ∧ (∃ c, q = stf c) ∧ ∀ y ∈ r, y.1 ≠ 0 ∧ y.1 ≠ 255 ∧ ∃ c, y.2 = stf c
 | k, [], o, m, p, ps, ms, hk, h => by
  rw [spf] at h
  cases h
  exact ⟨[], [], by simp, by simp, by simp, ⟨[], rfl⟩, fun y hy => by cases hy⟩
 | 0, x :: b, o, m, p, ps, ms, hk, h => by simp at hk
 | k + 1, x :: b, o, m, p, ps, ms, hk, h => by
  rw [spf.eq_def] at h
  dsimp only at h
  by_cases hx : x = 255
  · rw [if_pos hx] at h
    cases b with
    | nil => cases h
    | cons y b =>
     dsimp only at h
     by_cases h1 : y = 255
     · rw [if_pos h1] at h; cases h
     · rw [if_neg h1] at h
       by_cases h2 : y = 0
       · rw [if_pos h2] at h
         obtain ⟨q, r, e1, e2, e3, ⟨c, e4⟩, e5⟩ := spf_spec k b _ _ _ _ _ (by simp at hk; omega) h
         refine ⟨255 :: 0 :: q, r, by rw [e1]; simp, e2, by rw [hx, h2, e3]; simp, ⟨255 :: c, by rw [stf_cons, if_pos rfl, e4]; rfl⟩, e5⟩
       · rw [if_neg h2] at h
         obtain ⟨q, r, e1, e2, e3, e4, e5⟩ := spf_spec k b _ _ _ _ _ (by simp at hk; omega) h
         refine ⟨[], (y, q) :: r, by rw [e1]; simp, by rw [e2]; simp, by rw [hx, e3]; simp, ⟨[], rfl⟩, fun z hz => ?_⟩
         rcases List.mem_cons.1 hz with rfl | hz
         · exact ⟨h2, h1, e4⟩
         · exact e5 z hz
  · rw [if_neg hx] at h
    obtain ⟨q, r, e1, e2, e3, ⟨c, e4⟩, e5⟩ := spf_spec k b _ _ _ _ _ (by simp at hk; omega) h
    exact ⟨x :: q, r, by rw [e1]; simp, e2, by rw [e3]; simp, ⟨x :: c, by rw [stf_cons, if_neg hx, e4]; rfl⟩, e5⟩
theorem spf_plain {b : List Int} {ps : List (List Int)} (h : spf b [] [] [] = some (ps, [])) : ∃ c, b = stf c := by
 obtain ⟨q, r, e1, e2, e3, ⟨c, e4⟩, e5⟩ := spf_spec b.length b _ _ _ _ _ (Nat.le_refl _) h
 have hr : r = [] := by
  have := congrArg List.length e2
  simp at this
  exact List.eq_nil_of_length_eq_zero (by omega)
 subst hr
 exact ⟨c, by rw [e3, e4]; simp⟩
theorem byte_ne {x : Int} (hx : 0 ≤ x ∧ x < 256) (h : x ≠ 255) : ((255 : UInt8) == UInt8.ofNat x.toNat) = false := by
 rw [beq_eq_false_iff_ne]
 intro e
 have := congrArg UInt8.toNat e
 simp at this
 omega
theorem idx2 : ∀ (p T : List Int), (∀ x ∈ p, 0 ≤ x ∧ x < 256) → (255 : Int) ∉ p → Lib.index (Lib.bytesOf (p ++ 255 :: 0 :: T)) (Lib.bytesOf [255, 0]) = (p.length : Nat)
 | [], T, _, _ => by
  simp only [List.nil_append, Lib.bytesOf, List.map_cons, List.map_nil]
  unfold Lib.index
  rw [if_pos (by simp [List.isPrefixOf])]
  rfl
 | x :: p, T, h, hn => by
  have ih := idx2 p T (fun y hy => h y (by simp [hy])) (fun e => hn (by simp [e]))
  have hx : x ≠ 255 := fun e => hn (by simp [e])
  have hb := byte_ne (h x (by simp)) hx
  simp only [List.cons_append, Lib.bytesOf, List.map_cons, List.map_nil] at ih ⊢
  unfold Lib.index
  rw [if_neg, ih, if_neg]
  · simp
  · simp
  · simp only [List.isPrefixOf]
    have : (UInt8.ofNat (Int.toNat 255) == UInt8.ofNat x.toNat) = false := hb
    rw [this]; simp
theorem idx2_no : ∀ (p : List Int), (∀ x ∈ p, 0 ≤ x ∧ x < 256) → (255 : Int) ∉ p → Lib.index (Lib.bytesOf p) (Lib.bytesOf [255, 0]) = -1
 | [], _, _ => rfl
 | x :: p, h, hn => by
  have ih := idx2_no p (fun y hy => h y (by simp [hy])) (fun e => hn (by simp [e]))
  have hx : x ≠ 255 := fun e => hn (by simp [e])
  have hb := byte_ne (h x (by simp)) hx
  simp only [Lib.bytesOf, List.map_cons, List.map_nil] at ih ⊢
  unfold Lib.index
  rw [if_neg, ih]
  · rfl
  · simp only [List.isPrefixOf]
    have : (UInt8.ofNat (Int.toNat 255) == UInt8.ofNat x.toNat) = false := hb
    rw [this]; simp
theorem cnt2 : ∀ (ps : List (List Int)) (last : List Int) (f : Nat), (∀ p ∈ ps, (∀ x ∈ p, 0 ≤ x ∧ x < 256) ∧ (255 : Int) ∉ p) → (∀ x ∈ last, 0 ≤ x ∧ x < 256) → (255 : Int) ∉ last → ps.length < f →
 Lib.countFrom (Lib.bytesOf [255, 0]) f (Lib.bytesOf (ps.flatMap (· ++ [255, 0]) ++ last)) = ps.length
 | _, _, 0, _, _, _, hf => by omega
 | [], last, f + 1, _, h1, h2, _ => by
  simp only [List.flatMap_nil, List.nil_append]
  rw [Lib.countFrom, idx2_no last h1 h2]; rfl
 | p :: ps, last, f + 1, h, h1, h2, hf => by
  obtain ⟨k1, k2⟩ := h p (by simp)
  have e : (p :: ps).flatMap (· ++ [255, 0]) ++ last = p ++ 255 :: 0 :: (ps.flatMap (· ++ [255, 0]) ++ last) := by simp
  have e2 : (Lib.bytesOf (p ++ 255 :: 0 :: (ps.flatMap (· ++ [255, 0]) ++ last))).drop (((p.length : Nat) : Int).toNat + (Lib.bytesOf [255, 0]).length) = Lib.bytesOf (ps.flatMap (· ++ [255, 0]) ++ last) := by
   have e0 : p.length + 2 = (Lib.bytesOf (p ++ [255, 0])).length := by simp [Lib.bytesOf]
   have e3 : p ++ 255 :: 0 :: (ps.flatMap (· ++ [255, 0]) ++ last) = (p ++ [255, 0]) ++ (ps.flatMap (· ++ [255, 0]) ++ last) := by simp
   have e4 : ∀ a b : List Int, Lib.bytesOf (a ++ b) = Lib.bytesOf a ++ Lib.bytesOf b := fun a b => by simp [Lib.bytesOf]
   rw [Int.toNat_natCast, show (Lib.bytesOf [255, 0]).length = 2 from rfl, e0, e3, e4 (p ++ [255, 0]), List.drop_left' rfl]
  rw [e, Lib.countFrom, idx2 p _ k1 k2, e2, if_neg (by simp), cnt2 ps last f (fun q hq => h q (by simp [hq])) h1 h2 (by simp at hf; omega), List.length_cons]
  omega
theorem sp1_rng (b : Int) : ∀ (l : List Int), (∀ x ∈ l, 0 ≤ x ∧ x < 256) → (∀ p ∈ (sp1 b l).1, ∀ x ∈ p, 0 ≤ x ∧ x < 256) ∧ (∀ x ∈ (sp1 b l).2, 0 ≤ x ∧ x < 256) ∧ b ∉ (sp1 b l).2 := by
 intro l h
 obtain ⟨h1, _, h3, h4⟩ := sp1_spec b [] l
 have hm : ∀ p ∈ (sp1 b l).1, ∀ x ∈ p, x ∈ l := fun p hp x hx => by
  rw [← h1]; exact List.mem_append_left _ (List.mem_flatMap.2 ⟨p, hp, List.mem_append_left _ hx⟩)
 refine ⟨fun p hp x hx => h x (hm p hp x hx), fun x hx => h x (by rw [← h1]; exact List.mem_append_right _ hx), fun hb => ?_⟩
 have hc := congrArg (List.count b) h1
 rw [List.count_append] at hc
 have e : ∀ ps : List (List Int), (∀ p ∈ ps, b ∉ p) → (ps.flatMap (· ++ [b])).count b = ps.length := by
  intro ps
  induction ps with
  | nil => intro _; rfl
  | cons p ps ih =>
   intro hp
   rw [List.flatMap_cons, List.count_append, List.count_append, ih fun q hq => hp q (by simp [hq]), List.count_eq_zero.2 (hp p (by simp)), List.length_cons]
   simp; omega
 rw [e _ h4, h3] at hc
 have := List.count_pos_iff.2 hb
 omega
theorem ext_drewN {w w' : World} (h : ∃ q, w' = w.drewN q) : Ext w w' := by obtain ⟨q, rfl⟩ := h; exact (Ext.refl w).drewN
theorem cells_at {w : World} {a : Addr} {n c k : Nat} {xs : List Int} (hv : Sl w 1 (.slice (some a) n c) n (xs.map (Value.int .u8))) : n ≤ c ∧ c ≤ 9223372036854775807 := by
 obtain ⟨_, _, _, e, h1, h2, _⟩ := hv
 cases e
 unfold maxLen at h2
 exact ⟨h1, h2⟩
set_option maxRecDepth 100000 in
set_option maxHeartbeats 4000000 in
theorem unstuff_any (w0 : World) (a : Option Addr) (g1 g2 : Nat) (n c : Nat) (xs cc : List Int) (hs : Sl w0 1 (.slice a n c) n (xs.map (Value.int .u8))) (hnil : a = none → c = 0) (he : xs = stf cc)
 (ho : Sl w0 1 (.slice (some ⟨g1, 0, none⟩) 2 2) 2 (([255, 0] : List Int).map (Value.int .u8))) (hw : Sl w0 1 (.slice (some ⟨g2, 0, none⟩) 1 1) 1 (([255] : List Int).map (Value.int .u8)))
 (hx : ∀ x ∈ xs, 0 ≤ x ∧ x < 256) (hb1 : n ≤ 1000000000) (hml : ∃ m, w0.cell? ⟨0, 0, none⟩ = some (.int .i64 m)) :
 Calls Tryd.prog 43 #[.slice a n c, .slice (some ⟨g1, 0, none⟩) 2 2, .slice (some ⟨g2, 0, none⟩) 1 1] w0 fun e w => ∃ (ao : Option Addr) (c' : Nat), e = .returned (.slice ao cc.length c') ∧ St w0 w [own 5 1 ao cc.length c' (cc.map (Value.int .u8))] := by
 obtain ⟨ml, hml⟩ := hml
 have hxc : ∀ x ∈ cc, 0 ≤ x ∧ x < 256 := fun x hxm => by
  by_cases h : x = 255
  · omega
  · refine hx x ?_
    rw [he, stf, rep1, List.mem_flatMap]
    exact ⟨x, hxm, by rw [if_neg h]; simp⟩
 obtain ⟨h1, h2, h3, h4⟩ := sp1_spec 255 [255, 0] cc
 obtain ⟨r1, r2, r3⟩ := sp1_rng 255 cc hxc
 obtain ⟨ps, hps⟩ : ∃ ps, (sp1 255 cc).1 = ps := ⟨_, rfl⟩
 obtain ⟨last, hlast⟩ : ∃ l, (sp1 255 cc).2 = l := ⟨_, rfl⟩
 rw [hps, hlast] at h1 h2
 rw [hps] at h3 h4 r1
 rw [hlast] at r2 r3
 have h2' : ps.flatMap (· ++ [255, 0]) ++ last = xs := by rw [he]; exact h2
 have h5 := h2'
 rw [← pre_all] at h1 h2'
 have hln : xs.length = n := by have := hs.1; simpa using this
 have hadd : ∀ (g i : Nat), ((⟨g, 0, none⟩ : Addr).add i) = ⟨g, 0 + i, none⟩ := fun g i => Addr.add_mid ..
 have hmem : ∀ k (h : k < ps.length), ∃ T, xs.drop (pre [255, 0] ps k).length = ps[k] ++ 255 :: 0 :: T := fun k h => by
  obtain ⟨T, hT⟩ := pre_split [255, 0] ps k ps.length rfl h
  refine ⟨T ++ last, ?_⟩
  rw [← h2', hT, List.append_assoc, List.drop_left' rfl]
  simp
 have hpl : ps.length ≤ n := by
  have hq : ∀ qs : List (List Int), qs.length ≤ (qs.flatMap (· ++ [255, 0])).length := fun qs => by
   induction qs with
   | nil => exact Nat.le_refl _
   | cons q qs ih => rw [List.flatMap_cons, List.length_append, List.length_append, List.length_cons, List.length_cons]; omega
  have := hq ps
  have e := congrArg List.length h5
  rw [List.length_append] at e
  omega
 have HC : Veil3 (∀ w, Ext w0 w → Calls Tryd.prog 79 #[.slice a n c, .slice (some ⟨g1, 0, none⟩) 2 2] w fun e w' => e = .returned (.int .i64 (ps.length : Nat)) ∧ Ext w w') := ⟨fun w hE => by
  cases a with
  | none =>
   have hc0 := hnil rfl
   subst hc0
   have hn0 : n = 0 := by obtain ⟨_, _, _, h1, h2, _⟩ := hs; cases h1; omega
   subst hn0
   have : ps.length = 0 := by omega
   rw [this]
   exact (Tryd.bytes_Count_nil (some ⟨g1, 0, none⟩) 2 2 w (by decide) (by decide)).mono fun e w' ⟨e1, e2⟩ => ⟨e1, e2 ▸ Ext.refl _⟩
  | some a =>
   obtain ⟨c1, c2⟩ := cells_at (k := 0) (hs.ext hE)
   refine (Tryd.bytes_Count_at a ⟨g1, 0, none⟩ n c 2 2 xs [255, 0] ml w hln rfl hx (by intro y hy; simp at hy; rcases hy with rfl | rfl <;> omega) (cell_at (hs.ext hE)) (cell_at (ho.ext hE)) c1 (by omega) (by decide) (by decide) (hE.cell hml)).mono fun e w' ⟨e1, e2⟩ => ⟨?_, ext_drewN e2⟩
   rw [e1]
   have : Lib.count (Lib.bytesOf xs) (Lib.bytesOf [255, 0]) = ps.length := by
    rw [← h5, Lib.count]
    refine cnt2 ps last _ (fun p hp => ⟨r1 p hp, h4 p hp⟩) r2 r3 ?_
    rw [h5]; simp [Lib.bytesOf]; omega
   rw [this]⟩
 have HI : Veil3 (∀ k (h : k < ps.length) w, Ext w0 w → Calls Tryd.prog 80 #[.slice (cutAt a c (pre [255, 0] ps k).length 1) (n - (pre [255, 0] ps k).length) (c - (pre [255, 0] ps k).length), .slice (some ⟨g1, 0, none⟩) 2 2] w fun e w' => e = .returned (.int .i64 (ps[k].length : Nat)) ∧ Ext w w') := ⟨fun k h w hE => by
  obtain ⟨T, hT⟩ := hmem k h
  have hle : (pre [255, 0] ps k).length ≤ n := by
   have := pre_le [255, 0] ps k ps.length (by omega)
   have h6 := congrArg List.length h2'
   rw [List.length_append] at h6
   omega
  have hsl := (hs.ext hE).cutAt (pre [255, 0] ps k).length n hle (Nat.le_refl _)
  have h6 : ((xs.map (Value.int .u8)).drop ((pre [255, 0] ps k).length * 1)).take ((n - (pre [255, 0] ps k).length) * 1) = (ps[k] ++ 255 :: 0 :: T).map (Value.int .u8) := by
   rw [Nat.mul_one, Nat.mul_one, ← List.map_drop, ← List.map_take, List.take_of_length_le (by rw [List.length_drop]; omega), hT]
  rw [h6] at hsl
  have hlen := hsl.1
  have hrng : ∀ x ∈ ps[k] ++ 255 :: 0 :: T, 0 ≤ x ∧ x < 256 := fun x hxm => hx x (by rw [← hT] at hxm; exact List.mem_of_mem_drop hxm)
  cases hca : cutAt a c (pre [255, 0] ps k).length 1 with
  | none =>
   rw [hca] at hsl
   obtain ⟨_, _, _, k1, k2, k3, k4⟩ := hsl
   cases k1
   rcases k4 with k4 | ⟨_, _, k4, _⟩
   · simp at hlen; omega
   · cases k4
  | some a1 =>
   rw [hca] at hsl
   obtain ⟨c1, c2⟩ := cells_at (k := 0) hsl
   refine (Tryd.bytes_Index_at a1 ⟨g1, 0, none⟩ _ _ 2 2 (ps[k] ++ 255 :: 0 :: T) [255, 0] ml w (by simpa using hlen) rfl hrng (by intro y hy; simp at hy; rcases hy with rfl | rfl <;> omega) (cell_at hsl) (cell_at (ho.ext hE)) c1 (by omega) (by decide) (hE.cell hml)).mono fun e w' ⟨e1, e2⟩ => ⟨?_, ext_drewN e2⟩
   rw [e1, idx2 ps[k] T (fun x hxm => r1 _ (List.getElem_mem h) x hxm) (h4 _ (List.getElem_mem h))]⟩
 have HRp := replace_any w0 a (some ⟨g1, 0, none⟩) (some ⟨g2, 0, none⟩) n c 2 2 1 1 ps.length ps last [255, 0] [255] rfl (h2'.symm ▸ hs) ho hw (by decide) hb1 (by decide) (by decide) HC HI
 rw [h1] at HRp
 have HRv : Veil3 _ := ⟨HRp⟩
 have hS := St.start w0
 clear HC HI HRp hmem h1 h2 h2' h3 h4 h5 hps hlast r1 r2 r3 hx hxc he hpl
 go_enter Tryd.func43, Tryd.ntmps43
 repeat' (first
  | ((with_reducible refine gt9 _ (.call ⟨.value (.func 60), _, _⟩) ?_); refine wpl_call (f := 60) Tryd.call60 kr9 ?_; refine ⟨_, (HRv.out), ?_⟩; rintro e w ⟨ao, c', rfl, hS2⟩; replace hS := hS2; clear hS2; refine ⟨_, rfl, ?_⟩; refine put_move ?_; go_step) | (refine y91 ?_) | ((fail_if_success with_reducible refine ga9 ?_); go_step))
 go_ret
 exact ⟨ao, c', rfl, hS⟩
set_option maxRecDepth 100000 in
set_option maxHeartbeats 4000000 in
theorem plain_any (w0 : World) (a : Option Addr) (n c : Nat) (xs : List Int) (hs : Sl w0 1 (.slice a n c) n (xs.map (Value.int .u8))) (hnil : a = none → c = 0) (hx : ∀ x ∈ xs, 0 ≤ x ∧ x < 256) (hb1 : n ≤ 1000000000) (hml : ∃ m, w0.cell? ⟨0, 0, none⟩ = some (.int .i64 m)) :
 Calls Tryd.prog 20 #[.slice a n c] w0 fun e w => (∀ cc, xs = stf cc → ∃ (ao : Option Addr) (c' : Nat), e = .returned (.tuple #[.slice ao cc.length c', .int .i64 0]) ∧ St w0 w [own 5 1 ao cc.length c' (cc.map (Value.int .u8))]) ∧
  ((∀ cc, xs ≠ stf cc) → e = .returned (.tuple #[.slice none 0 0, .int .i64 4]) ∧ Ext w0 w) := by
 have hS := St.start w0
 have HSP := hid (split_any w0 a n c xs hs hx hb1)
 obtain ⟨T, hT⟩ : ∃ T, spf xs [] [] [] = T := ⟨_, rfl⟩
 rw [hT] at HSP
 have HX : Veil3 (∀ x ∈ xs, 0 ≤ x ∧ x < 256) := ⟨hx⟩
 have HML : Veil3 _ := ⟨hml⟩
 clear hx hml
 cases T with
 | none =>
  have hno : ∀ cc, xs ≠ stf cc := fun cc e => by rw [e, spf_stf] at hT; cases hT
  have HNO : Veil3 _ := ⟨hno⟩
  clear hno hT
  go_enter Tryd.func20, Tryd.ntmps20
  repeat' (first
   | ((with_reducible refine gt9 _ (.call ⟨.value (.func 19), _, _⟩) ?_); refine wpl_call (f := 19) Tryd.call19 kr9 ?_; refine ⟨_, (HSP.out), ?_⟩; rintro e w ⟨hR1, -⟩; obtain ⟨rfl, hE⟩ := hR1 rfl; clear hR1; replace hS := hS.ext hE; clear hE; refine ⟨_, rfl, ?_⟩; refine put_move ?_; go_step) | go_skip | (refine y91 ?_) | (refine y9137 ?_) | ((with_reducible refine gs9 14 ?_); (refine wplD _ (V.eql rfl rfl) kr9 (fun hB => ?_) (fun hB => ?_) <;> (try (have hF : False := (by omega); cases hF)) <;> go_step)) | (refine y93 ?_) | (refine y94 ?_) | (refine y910 ?_) | ((fail_if_success with_reducible refine ga9 ?_); go_step))
  all_goals
   repeat' (first
    | (refine y91 ?_) | (refine y943 ?_) | ((fail_if_success with_reducible refine ga9 ?_); go_step))
  all_goals
   refine ret_all (xs := [_, _]) rfl (.cons (OneRes.tmp rfl) (.cons (OneRes.tmp rfl) (.nil))) (by simp) rfl ?_
   exact ⟨fun cc e => absurd e (HNO.out cc), fun _ => ⟨rfl, hS.1⟩⟩
 | some T =>
  obtain ⟨ps, ms⟩ := T
  by_cases hm : ms = []
  · subst hm
    obtain ⟨cc, he⟩ := spf_plain hT
    have HE := hid he
    clear hT he
    go_enter Tryd.func20, Tryd.ntmps20
    repeat' (first
     | ((with_reducible refine gt9 _ (.call ⟨.value (.func 19), _, _⟩) ?_); refine wpl_call (f := 19) Tryd.call19 kr9 ?_; refine ⟨_, (HSP.out), ?_⟩; rintro e w ⟨-, hR1⟩; obtain ⟨pcs, ao, am, co, cm, lo, lm, hlo, hlm, -, rfl, hS2⟩ := hR1 ps [] rfl; clear hR1; rw [List.length_nil] at hlm; subst hlm; replace hS := hS.call hS2; clear hS2; simp only [List.cons_append, List.nil_append] at hS; refine ⟨_, rfl, ?_⟩; refine put_move ?_; go_step) | (refine y91 ?_) | (refine y9138 ?_) | ((with_reducible refine gs9 14 ?_); (refine wplD _ (V.eql rfl rfl) kr9 (fun hB => ?_) (fun hB => ?_) <;> (try (have hF : False := (by omega); cases hF)) <;> go_step)) | (refine y93 ?_) | (refine y94 ?_) | (refine y910 ?_) | (refine y933 ?_) | ((with_reducible refine gs9 18 ?_); (refine wvv9 (V.gtr rfl rfl) ?_; go_step)) | ((fail_if_success with_reducible refine ga9 ?_); go_step))
    all_goals
     repeat' (first
      | (refine y9144 ?_) | (refine y943 ?_) | ((fail_if_success with_reducible refine ga9 ?_); go_step))
    all_goals
     repeat' (first
      | ((with_reducible refine gt9 _ (.call ⟨.value (.func 43), _, _⟩) ?_); refine wpl_call (f := 43) Tryd.call43 kr9 ?_; refine ⟨_, (unstuff_any _ a _ _ n c xs cc (hs.ext hS.1) hnil HE.out (hS.slBlk (n := 2) (cs := [.int .u8 255, .int .u8 0]) pl9 (by rfl) (by decide)) (hS.slBlk (n := 1) (cs := [.int .u8 255]) pl9 (by rfl) (by decide)) HX.out hb1 (HML.out.imp fun m h => hS.1.cell h)), ?_⟩; rintro e w ⟨ao, c', rfl, hS2⟩; replace hS := hS.call1 hS2; clear hS2; refine ⟨_, rfl, ?_⟩; refine put_move ?_; go_step) | (refine y92 ?_) | ((with_reducible refine gs9 24 ?_); (refine wl9 ?_; apply wp_buildSlice1 (o := ⟨some 24, _, _, _, _, _⟩) hS 34 2 _ rfl 5 1 1 el34 _ _; (case hvs => (repeat (first | exact Parts.nil | (apply Parts.agg; (rfl); (rfl)) | (apply Parts.one; exact isv9; (rfl); (rfl))))); (case hn => rfl); (case hn0 => decide); (case hns => decide); clear hS; intro g24 w hS; refine put_move ?_; go_step)) | ((with_reducible refine gs9 25 ?_); (refine wl9 ?_; apply wp_buildSlice1 (o := ⟨some 25, _, _, _, _, _⟩) hS 34 1 _ rfl 5 1 1 el34 _ _; (case hvs => (repeat (first | exact Parts.nil | (apply Parts.agg; (rfl); (rfl)) | (apply Parts.one; exact isv9; (rfl); (rfl))))); (case hn => rfl); (case hn0 => decide); (case hns => decide); clear hS; intro g25 w hS; refine put_move ?_; go_step)) | ((fail_if_success with_reducible refine ga9 ?_); go_step))
    all_goals
     refine ret_all (xs := [_, _]) rfl (.cons (OneRes.tmp rfl) (.cons (OneRes.tmp rfl) (.nil))) (by simp) rfl ?_
     refine ⟨fun cc2 e => ?_, fun h => absurd HE.out (h cc)⟩
     obtain rfl := stf_inj _ _ (HE.out.symm.trans e)
     exact ⟨_, _, rfl, hS.sub sb9⟩
  · have hno : ∀ cc, xs ≠ stf cc := fun cc e => by rw [e, spf_stf] at hT; cases hT; exact hm rfl
    have HNO : Veil3 _ := ⟨hno⟩
    have hml2 : 0 < ms.length := List.length_pos_iff.2 hm
    clear hno hT hm
    go_enter Tryd.func20, Tryd.ntmps20
    repeat' (first
     | ((with_reducible refine gt9 _ (.call ⟨.value (.func 19), _, _⟩) ?_); refine wpl_call (f := 19) Tryd.call19 kr9 ?_; refine ⟨_, (HSP.out), ?_⟩; rintro e w ⟨-, hR1⟩; obtain ⟨pcs, ao, am, co, cm, lo, lm, hlo, hlm, -, rfl, hS2⟩ := hR1 ps ms rfl; clear hR1; replace hS := hS.call hS2; clear hS2; simp only [List.cons_append, List.nil_append] at hS; refine ⟨_, rfl, ?_⟩; refine put_move ?_; go_step) | (refine y91 ?_) | (refine y9138 ?_) | ((with_reducible refine gs9 14 ?_); (refine wplD _ (V.eql rfl rfl) kr9 (fun hB => ?_) (fun hB => ?_) <;> (try (have hF : False := (by omega); cases hF)) <;> go_step)) | (refine y93 ?_) | (refine y94 ?_) | (refine y910 ?_) | (refine y933 ?_) | ((with_reducible refine gs9 18 ?_); (refine wvv9 (V.gtr rfl rfl) ?_; go_step)) | ((fail_if_success with_reducible refine ga9 ?_); go_step))
    all_goals
     repeat' (first
      | (refine y91 ?_) | (refine y943 ?_) | ((fail_if_success with_reducible refine ga9 ?_); go_step))
    all_goals
     refine ret_all (xs := [_, _]) rfl (.cons (OneRes.tmp rfl) (.cons (OneRes.tmp rfl) (.nil))) (by simp) rfl ?_
     exact ⟨fun cc e => absurd e (HNO.out cc), fun _ => ⟨rfl, hS.1⟩⟩

end Go.Proofs.YtehbjhocgnfpmaaDoor
/- The walk of scan.Pieces. -/
namespace Go.Proofs.YtehbjhocgnfpmaaDoor
open Go.RowKit
set_option maxRecDepth 100000
set_option linter.unusedVariables false
def okNE (n every : Int) : Prop := 0 ≤ every ∧ every ≤ 100 ∧ 0 ≤ n ∧ n ≤ 400
instance (n every : Int) : Decidable (okNE n every) := by unfold okNE; infer_instance
def spE (b : List Int) : Int := match spf b [] [] [] with
 | none => 4
 | some _ => 0
def pcE (C1 S1 C2 S2 b : List Int) (n every : Int) : Int := if okNE n every then if tbE C1 S1 C2 S2 = 0 then spE b else tbE C1 S1 C2 S2 else 1
def SpGives (w0 : World) (b : List Int) (e : Ending) (w : World) : Prop :=
 ∀ ps ms, spf b [] [] [] = some (ps, ms) → ∃ (pcs : List Pc) (ao am : Option Addr) (co cm lo lm : Nat), lo = ps.length ∧ lm = ms.length ∧ pcs.map (·.xs) = ps ∧ e = .returned (.tuple #[.slice ao lo co, .slice am lm cm, .int .i64 0]) ∧
  St w0 w [own 34 1 ao lo co (pcs.map Pc.val), own 3 1 am lm cm (ms.map (Value.int .i64)), star (pcs.map Pc.res)]
def PcGives (w0 : World) (E : Int) (b : List Int) (e : Ending) (w : World) : Prop :=
 (E ≠ 0 → e = .returned (.tuple #[.slice none 0 0, .slice none 0 0, .int .i64 E]) ∧ Ext w0 w) ∧ (E = 0 → SpGives w0 b e w)
theorem pc_no {w0 w : World} {E : Int} {b : List Int} (E' : Int) (h : E = E') (h0 : E' ≠ 0) (hE : Ext w0 w) : PcGives w0 E b (.returned (.tuple #[.slice none 0 0, .slice none 0 0, .int .i64 E'])) w := by
 subst h
 exact ⟨fun _ => ⟨rfl, hE⟩, fun h => absurd h h0⟩
set_option maxHeartbeats 8000000 in
theorem pieces_any (w0 : World) (C1 C2 S1 S2 : List Int) (a1 a2 : Option Addr) (n1 n2 k1 k2 : Nat) (hC1 : Len C1 16) (hC2 : Len C2 16) (hs1 : Sl w0 1 (.slice a1 n1 k1) n1 (S1.map (Value.int .i64))) (hs2 : Sl w0 1 (.slice a2 n2 k2) n2 (S2.map (Value.int .i64))) (hn1 : n1 ≤ 9223372036854775807) (hn2 : n2 ≤ 9223372036854775807) (ad : Option Addr) (nb c : Nat) (b : List Int) (n every : Int)
 (hb : nb ≤ 1000000000) (hv : Sl w0 1 (.slice ad nb c) nb (b.map (Value.int .u8))) (hx : ∀ x ∈ b, 0 ≤ x ∧ x < 256) :
 Calls Tryd.prog 56 #[.agg (pcells [.ints C1, .val (.slice a1 n1 k1), .ints C2, .val (.slice a2 n2 k2)]).toArray, .slice ad nb c, .int .i64 n, .int .i64 every] w0 (PcGives w0 (pcE C1 S1 C2 S2 b n every) b) := by
 have hS := St.start w0
 have hL1 := hid (tabLen2 C1 (.slice a1 n1 k1) hC1)
 have hL2 := hid (tabLen2 C2 (.slice a2 n2 k2) hC2)
 have HX := hid hx
 obtain ⟨E1, hE1⟩ : ∃ x, tabE C1 S1 = x := ⟨_, rfl⟩
 obtain ⟨E2, hE2⟩ : ∃ x, tabE C2 S2 = x := ⟨_, rfl⟩
 have HE1 := hid hE1
 have HE2 := hid hE2
 have HT := hid (show tbE C1 S1 C2 S2 = if E1 = 0 then E2 else E1 by unfold tbE; rw [hE1, hE2])
 clear hE1 hE2 hx
 by_cases hok : okNE n every
 case neg =>
  have HP := hid (show pcE C1 S1 C2 S2 b n every = 1 by unfold pcE; rw [if_neg hok])
  have hbad : (every < 0) ∨ (100 < every) ∨ (n < 0) ∨ (400 < n) := by unfold okNE at hok; omega
  clear hok
  rcases hbad with h | h | h | h
  all_goals
   go_enter Tryd.func56, Tryd.ntmps56
   repeat' (first
    | go_skip | ((first | (with_reducible refine mv9 ?_) | (with_reducible refine as9 ?_)); (first | go_big_want | go_step); go_step) | ((with_reducible refine gt9 _ (.pick _ _ _) ?_); first | (refine wplPickT rfl kr9 ?_; go_step) | (refine wplPickF rfl kr9 ?_; go_step)) | ((with_reducible refine gs9 15 ?_); (refine wplD _ (V.lss rfl rfl) kr9 (fun hB => ?_) (fun hB => ?_) <;> (try (have hF : False := (by omega); cases hF)) <;> go_step)) | ((with_reducible refine gs9 18 ?_); (refine wplD _ (V.gtr rfl rfl) kr9 (fun hB => ?_) (fun hB => ?_) <;> (try (have hF : False := (by omega); cases hF)) <;> go_step)) | ((with_reducible refine gs9 22 ?_); (refine wplD _ (V.lss rfl rfl) kr9 (fun hB => ?_) (fun hB => ?_) <;> (try (have hF : False := (by omega); cases hF)) <;> go_step)) | ((with_reducible refine gt9 _ (.binOp .gtr _ _ _ _) ?_); (refine wvv9 (V.gtr rfl rfl) ?_; go_step)) | ((with_reducible refine gs9 4 ?_); (refine wl9 ?_; apply wp_boxP (o := ⟨some 4, _, _, _, _, _⟩) hS 33 _ rfl _ rfl; clear hS; intro g4 w hS; refine put_move ?_; go_step)) | ((fail_if_success with_reducible refine ga9 ?_); go_step))
   all_goals (try (have hF : False := (by omega); cases hF))
   all_goals
    refine ret_all (xs := [_, _, _]) rfl (.cons (OneRes.tmp rfl) (.cons (OneRes.tmp rfl) (.cons (OneRes.tmp rfl) (.nil)))) (by simp) rfl ?_
    exact pc_no 1 HP.out (by decide) hS.1
 have HP := hid (show pcE C1 S1 C2 S2 b n every = if tbE C1 S1 C2 S2 = 0 then spE b else tbE C1 S1 C2 S2 by unfold pcE; rw [if_pos hok])
 have hok2 := hok
 unfold okNE at hok2
 obtain ⟨o1, o2, o3, o4⟩ := hok2
 clear hok
 go_enter Tryd.func56, Tryd.ntmps56
 repeat' (first
  | (refine y91 ?_) | (refine y9137 ?_) | ((with_reducible refine gs9 15 ?_); (refine wplD _ (V.lss rfl rfl) kr9 (fun hB => ?_) (fun hB => ?_) <;> (try (have hF : False := (by omega); cases hF)) <;> go_step)) | ((with_reducible refine gs9 18 ?_); (refine wplD _ (V.gtr rfl rfl) kr9 (fun hB => ?_) (fun hB => ?_) <;> (try (have hF : False := (by omega); cases hF)) <;> go_step)) | ((with_reducible refine gs9 22 ?_); (refine wplD _ (V.lss rfl rfl) kr9 (fun hB => ?_) (fun hB => ?_) <;> (try (have hF : False := (by omega); cases hF)) <;> go_step)) | (refine y987 ?_) | ((with_reducible refine gs9 4 ?_); (refine wl9 ?_; apply wp_boxP (o := ⟨some 4, _, _, _, _, _⟩) hS 33 _ rfl _ rfl; clear hS; intro g4 w hS; refine put_move ?_; go_step)) | ((fail_if_success with_reducible refine ga9 ?_); go_step))
 all_goals (try (have hF : False := (by omega); cases hF))
 repeat' (first
  | ((with_reducible refine gs9 32 ?_); refine wl9 ?_; refine wp_buildSlice1 (o := ⟨some 32, _, _, _, _, _⟩) hS 106 2 _ rfl 31 17 152 el106 _ _ (Parts.agg rfl hL1.out (Parts.agg rfl hL2.out Parts.nil)) rfl (by decide) (by decide) ?_; clear hS; intro g32 w hS; replace hS := st_tabs3 hS; refine put_move ?_; go_step) | (refine y9144 ?_) | (refine y9107 ?_) | (refine y9108 ?_) | (refine y996 ?_) | (refine y9124 ?_) | ((fail_if_success with_reducible refine ga9 ?_); go_step))
 clear hL1 hL2
 go_loopg [34] 2 (fun gk kv w => ∃ k : Nat, gk + k = 2 ∧ kv = .int .i64 k ∧ (1 ≤ k → E1 = 0) ∧ (2 ≤ k → E2 = 0) ∧ St w0 w [prt g32 [.ints C1, .val (.slice a1 n1 k1), .ints C2, .val (.slice a2 n2 k2)]])
 case atStart => exact ⟨0, rfl, rfl, fun h => absurd h (by omega), fun h => absurd h (by omega), hS.sub sb9⟩
 case round =>
  clear hS
  obtain ⟨k, hk, rfl, HA, HB, hS⟩ := hrel
  by_cases hlt : k < 2
  · obtain rfl | rfl : k = 0 ∨ k = 1 := by omega
    · clear HA HB
      repeat' (first
       | ((with_reducible refine gt9 _ (.call ⟨.value (.func 52), _, _⟩) ?_); refine wpl_call (f := 52) Tryd.call52 kr9 ?_; refine ⟨_, (check_any _ C1 S1 a1 n1 k1 hC1 (hs1.ext hS.1) hn1), ?_⟩; rintro e w ⟨rfl, hE2⟩; rw [HE1.out]; replace hS := hS.ext hE2; clear hE2; refine ⟨_, rfl, ?_⟩; refine put_move ?_; go_step) | (refine y91 ?_) | (refine y989 ?_) | (refine y956 ?_) | (refine y990 ?_) | (refine y983 ?_) | (refine y9124 ?_) | ((with_reducible refine gs9 12 ?_); (refine wl9 ?_; apply wp_allocP (o := ⟨some 12, _, _, _, _, _⟩) hS 31 rfl _ zp31; clear hS; intro g12 w hS; refine put_move ?_; go_step)) | ((with_reducible refine gt9 _ (.store 31 _ _) ?_); (refine wl9 ?_; apply wp_storePP hS 31 _ _ rfl _ rfl 17 (row_of rfl) _ _; (case hp => exact pl9); (case hy => rfl); (case hn => (repeat (first | exact Pre.nil | (apply Pre.ints; (case hn => (first | (with_reducible assumption) | exact Len.rep | exact Len.set (by with_reducible assumption) | exact Len.set Len.rep | exact Len.set (Len.set Len.rep))); (case h => omega); (case hm => rfl)) | apply Pre.val))); (case hn' => (repeat (first | exact Pre.nil | (apply Pre.ints; (case hn => (first | (with_reducible assumption) | exact Len.rep | exact Len.set (by with_reducible assumption) | exact Len.set Len.rep | exact Len.set (Len.set Len.rep))); (case h => omega); (case hm => rfl)) | apply Pre.val))); (case hv => rfl); (case hd => exact rfl); clear hS; intro w hS)) | ((fail_if_success with_reducible refine ga9 ?_); go_step))
      · skip
        refine ret_all (xs := [_, _, _]) rfl (.cons (OneRes.tmp rfl) (.cons (OneRes.tmp rfl) (.cons (OneRes.tmp rfl) (.nil)))) (by simp) rfl ?_
        exact pc_no E1 (by rw [HP.out, HT.out, if_neg (show ¬ E1 = 0 by omega), if_neg (by omega)]) (by omega) hS.1
      · go_roundg (gk - 1)
        case measure => omega
        case rel => exact ⟨1, by omega, rfl, fun _ => by omega, fun h => absurd h (by omega), hS.sub sb9⟩
    · have h1 := HA (by omega)
      subst h1
      clear HA HB
      repeat' (first
       | ((with_reducible refine gt9 _ (.call ⟨.value (.func 52), _, _⟩) ?_); refine wpl_call (f := 52) Tryd.call52 kr9 ?_; refine ⟨_, (check_any _ C2 S2 a2 n2 k2 hC2 (hs2.ext hS.1) hn2), ?_⟩; rintro e w ⟨rfl, hE2⟩; rw [HE2.out]; replace hS := hS.ext hE2; clear hE2; refine ⟨_, rfl, ?_⟩; refine put_move ?_; go_step) | (refine y91 ?_) | (refine y989 ?_) | (refine y956 ?_) | (refine y990 ?_) | (refine y983 ?_) | (refine y9124 ?_) | ((with_reducible refine gs9 12 ?_); (refine wl9 ?_; apply wp_allocP (o := ⟨some 12, _, _, _, _, _⟩) hS 31 rfl _ zp31; clear hS; intro g12 w hS; refine put_move ?_; go_step)) | ((with_reducible refine gt9 _ (.store 31 _ _) ?_); (refine wl9 ?_; apply wp_storePP hS 31 _ _ rfl _ rfl 17 (row_of rfl) _ _; (case hp => exact pl9); (case hy => rfl); (case hn => (repeat (first | exact Pre.nil | (apply Pre.ints; (case hn => (first | (with_reducible assumption) | exact Len.rep | exact Len.set (by with_reducible assumption) | exact Len.set Len.rep | exact Len.set (Len.set Len.rep))); (case h => omega); (case hm => rfl)) | apply Pre.val))); (case hn' => (repeat (first | exact Pre.nil | (apply Pre.ints; (case hn => (first | (with_reducible assumption) | exact Len.rep | exact Len.set (by with_reducible assumption) | exact Len.set Len.rep | exact Len.set (Len.set Len.rep))); (case h => omega); (case hm => rfl)) | apply Pre.val))); (case hv => rfl); (case hd => exact rfl); clear hS; intro w hS)) | ((fail_if_success with_reducible refine ga9 ?_); go_step))
      · skip
        refine ret_all (xs := [_, _, _]) rfl (.cons (OneRes.tmp rfl) (.cons (OneRes.tmp rfl) (.cons (OneRes.tmp rfl) (.nil)))) (by simp) rfl ?_
        exact pc_no E2 (by rw [HP.out, HT.out, if_pos rfl, if_neg (by omega)]) (by omega) hS.1
      · go_roundg (gk - 1)
        case measure => omega
        case rel => exact ⟨2, by omega, rfl, fun _ => rfl, fun _ => by omega, hS.sub sb9⟩
  · obtain rfl : k = 2 := by omega
    have h1 := HA (by omega)
    have h2 := HB (by omega)
    subst h1; subst h2
    have HP2 := hid (show pcE C1 S1 C2 S2 b n every = spE b by rw [HP.out, HT.out, if_pos rfl, if_pos rfl])
    cases hsp : spf b [] [] [] with
    | none =>
     have HSP := hid hsp
     have HP3 := hid (show pcE C1 S1 C2 S2 b n every = 4 by rw [HP2.out]; unfold spE; rw [hsp])
     clear hsp
     repeat' (first
      | (refine y9144 ?_) | (refine y989 ?_) | ((fail_if_success with_reducible refine ga9 ?_); go_step))
     repeat' (first
      | ((with_reducible refine gs9 45 ?_); refine wpl_call (f := 19) Tryd.call19 kr9 ?_; refine ⟨_, (split_any _ ad nb c b (hv.ext hS.1) HX.out hb), ?_⟩; rintro e w ⟨hq, _⟩; obtain ⟨rfl, hE2⟩ := hq HSP.out; clear hq; replace hS := hS.ext hE2; clear hE2; refine ⟨_, rfl, ?_⟩; refine put_move ?_; go_step) | (refine y92 ?_) | (refine y9104 ?_) | ((fail_if_success with_reducible refine ga9 ?_); go_step))
     refine ret_all (xs := [_, _, _]) rfl (.cons (OneRes.tmp rfl) (.cons (OneRes.tmp rfl) (.cons (OneRes.tmp rfl) (.nil)))) (by simp) rfl ?_
     exact pc_no 4 HP3.out (by decide) hS.1
    | some y =>
     obtain ⟨ps, ms⟩ := y
     have HSP := hid hsp
     have HP3 := hid (show pcE C1 S1 C2 S2 b n every = 0 by rw [HP2.out]; unfold spE; rw [hsp])
     clear hsp
     repeat' (first
      | (refine y9144 ?_) | (refine y989 ?_) | ((fail_if_success with_reducible refine ga9 ?_); go_step))
     repeat' (first
      | ((with_reducible refine gs9 45 ?_); refine wpl_call (f := 19) Tryd.call19 kr9 ?_; refine ⟨_, (split_any _ ad nb c b (hv.ext hS.1) HX.out hb), ?_⟩; rintro e w ⟨_, hq⟩; obtain ⟨pcs, ao, am, co, cm, lo, lm, hlo, hlm, hpc, rfl, hS2⟩ := hq _ _ HSP.out; clear hq; have HQ := hid (And.intro hlo (And.intro hlm hpc)); clear hlo hlm hpc; replace hS := hS.call hS2; dsimp only [List.cons_append, List.nil_append] at hS; clear hS2; refine ⟨_, rfl, ?_⟩; refine put_move ?_; go_step) | (refine y92 ?_) | (refine y9104 ?_) | ((fail_if_success with_reducible refine ga9 ?_); go_step))
     refine ret_all (xs := [_, _, _]) rfl (.cons (OneRes.tmp rfl) (.cons (OneRes.tmp rfl) (.cons (OneRes.tmp rfl) (.nil)))) (by simp) rfl ?_
     refine ⟨fun h => absurd HP3.out h, fun _ ps' ms' hsp' => ?_⟩
     have he := HSP.out.symm.trans hsp'
     obtain ⟨rfl, rfl⟩ : ps = ps' ∧ ms = ms' := by simpa using he
     exact ⟨pcs, ao, am, co, cm, lo, lm, HQ.out.1, HQ.out.2.1, HQ.out.2.2, rfl, hS.sub sb9⟩

set_option maxRecDepth 100000
set_option linter.unusedVariables false
theorem bl111_0_1 (m0 : Int) (m1 : Int) (w : World) : (Instr.build 111 #[(0, .int .i64 m0), (1, .int .i64 m1)]).run Tryd.prog w = .ok (.agg #[.int .i64 m0, .int .i64 m1]) w := by kernel_rfl
def spnA (n every : Nat) : Nat → Nat → List (Nat × Nat)
 | 0, _ => []
 | f + 1, at_ => if at_ < n then (at_, min (at_ + every) n) :: spnA n every f (at_ + every) else []
def spn (n every : Nat) : List (Nat × Nat) := if every = 0 ∨ n = 0 then [(0, n)] else spnA n every n 0
def sfl (L : List (Nat × Nat)) : List Int := L.flatMap fun x => [(x.1 : Int), (x.2 : Int)]
theorem sfl_snoc (L : List (Nat × Nat)) (x : Nat × Nat) : sfl (L ++ [x]) = sfl L ++ [(x.1 : Int), (x.2 : Int)] := by simp [sfl]
theorem sfl_get : ∀ (L : List (Nat × Nat)) (k : Nat) (x : Nat × Nat), L[k]? = some x → ((sfl L).drop (k * 2)).take 2 = [(x.1 : Int), (x.2 : Int)]
 | [], k, x, h => by simp at h
 | y :: L, 0, x, h => by obtain rfl : y = x := (by simpa using h); simp [sfl]
 | y :: L, k + 1, x, h => by
  have := sfl_get L k x (by simpa using h)
  rw [show (k + 1) * 2 = k * 2 + 2 by omega]
  simpa [sfl] using this
set_option maxHeartbeats 4000000 in
theorem spans_any (w0 : World) (n every : Nat) (hn : n ≤ 1048576) (he : every ≤ 1048576) :
 Calls Tryd.prog 53 #[.int .i64 n, .int .i64 every] w0 fun e w => ∃ ad c m, (spn n every).length = m ∧ e = .returned (.slice ad m c) ∧ St w0 w [own 111 2 ad m c ((sfl (spn n every)).map (Value.int .i64))] := by
 have hS := St.start w0
 by_cases h0 : every = 0 ∨ n = 0
 · have HP := hid (show spn n every = [(0, n)] by unfold spn; rw [if_pos h0])
   rcases h0 with h0 | h0
   all_goals
    subst h0
    go_enter Tryd.func53, Tryd.ntmps53
    repeat' (first
     | ((with_reducible refine gs9 15 ?_); (refine wl9 ?_; apply wp_buildSliceO (o := ⟨some 15, _, _, _, _, _⟩) hS 108 1 _ rfl 111 2 16 el108 _ _; (case hvs => (repeat (first | exact Parts.nil | (apply Parts.agg; (rfl); (rfl)) | (apply Parts.one; exact isv9; (rfl); (rfl))))); (case hn => rfl); (case hn0 => decide); (case hns => decide); clear hS; intro g15 w hS; simp only [List.cons_append, List.nil_append] at hS; refine put_move ?_; go_step)) | go_skip | (refine y91 ?_) | (refine y9139 ?_) | ((with_reducible refine gs9 8 ?_); (refine wplD _ (V.eql rfl rfl) kr9 (fun hB => ?_) (fun hB => ?_) <;> (try (have hF : False := (by omega); cases hF)) <;> go_step)) | (refine y985 ?_) | ((with_reducible refine gs9 14 ?_); (refine wvv9 (V.build (vs := [(0, _), (1, _)]) rfl (bl111_0_1 _ _)) ?_; go_step)) | ((fail_if_success with_reducible refine ga9 ?_); go_step))
    all_goals (try (have hF : False := (by omega); cases hF))
    all_goals
     go_ret
     refine ⟨_, _, 1, by rw [HP.out]; rfl, rfl, ?_⟩
     rw [HP.out]
     exact hS.sub (xs := [own 111 2 (some ⟨g15, 0, none⟩) 1 1 [.int .i64 0, .int .i64 (_ : Nat)]]) sb9
 · have HP := hid (show spn n every = spnA n every n 0 by unfold spn; rw [if_neg h0])
   have he1 : 0 < every := by omega
   have hn1 : 0 < n := by omega
   clear h0
   go_enter Tryd.func53, Tryd.ntmps53
   repeat' (first
    | (refine y91 ?_) | (refine y9137 ?_) | ((with_reducible refine gs9 8 ?_); (refine wplD _ (V.eql rfl rfl) kr9 (fun hB => ?_) (fun hB => ?_) <;> (try (have hF : False := (by omega); cases hF)) <;> go_step)) | (refine y985 ?_) | ((fail_if_success with_reducible refine ga9 ?_); go_step))
   all_goals (try (have hF : False := (by omega); cases hF))
   repeat' (first
    | ((fail_if_success with_reducible refine ga9 ?_); go_step))
   replace hS := hS.nilk 111 2 .i64
   go_loopg [5, 6] n (fun gk ov iv_ w => ∃ (at_ m : Nat) (o : List (Nat × Nat)) (ad : Option Addr) (c : Nat), iv_ = .int .i64 at_ ∧ ov = .slice ad m c ∧ n ≤ gk + at_ ∧ at_ ≤ n + every ∧ m ≤ at_ ∧ Hid (o.length = m) ∧ Hid (spn n every = o ++ spnA n every gk at_) ∧ St w0 w [own 111 2 ad m c ((sfl o).map (Value.int .i64))])
   case atStart => exact ⟨0, 0, [], none, 0, rfl, rfl, by omega, by omega, by omega, hid rfl, hid (by rw [HP.out]; rfl), hS⟩
   case round =>
    clear hS
    obtain ⟨at_, m, o, ad, c, rfl, rfl, hg, ha, hm, HO, HA, hS⟩ := hrel
    by_cases hr0 : at_ < n
    · obtain ⟨f, rfl⟩ : ∃ f, gk = f + 1 := ⟨gk - 1, by omega⟩
      have ha := HA.out
      rw [spnA, if_pos hr0] at ha
      obtain ⟨q, hq⟩ : ∃ q, min (at_ + every) n = q := ⟨_, rfl⟩
      rw [hq] at ha
      have HA2 := hid ha
      have HSF := hid (sfl_snoc o (at_, q))
      clear ha
      repeat' (first
       | (refine y9144 ?_) | (refine y989 ?_) | ((fail_if_success with_reducible refine ga9 ?_); go_step))
      all_goals (try (have hF : False := (by omega); cases hF))
      repeat' (first
       | ((with_reducible refine gs9 28 ?_); (refine wplV (.int _ (((q : Nat) : Int))) (V.as (V.min rfl rfl) (by omega)) rfl ?_; go_step)) | (refine y91 ?_) | (refine y983 ?_) | ((with_reducible refine gs9 29 ?_); (refine wvv9 (V.build (vs := [(0, _), (1, _)]) rfl (bl111_0_1 _ _)) ?_; go_step)) | ((with_reducible refine gs9 30 ?_); (refine wl9 ?_; apply wp_buildSlice1 (o := ⟨some 30, _, _, _, _, _⟩) hS 108 1 _ rfl 111 2 16 el108 _ _; (case hvs => (repeat (first | exact Parts.nil | (apply Parts.agg; (rfl); (rfl)) | (apply Parts.one; exact isv9; (rfl); (rfl))))); (case hn => rfl); (case hn0 => decide); (case hns => decide); clear hS; intro g30 w hS; simp only [List.cons_append, List.nil_append] at hS; refine put_move ?_; go_step)) | ((with_reducible refine gs9 31 ?_); (refine wl9 ?_; apply wp_append (o := ⟨some 31, _, _, _, _, _⟩) hS _ _ 108 rfl 111 2 16 el108 _ _ _ _ rfl; (case hp => exact pl9); (case hx => exact rfl); (case hm => (first | exact hS.slBlk pl9 (by rfl) (by decide) | exact hS.sl pl9 | with_reducible assumption | exact Sl.ext (by with_reducible assumption) hS.1 | exact Sl.nil _ _ | exact Sl.ext (by assumption) hS.1 | assumption)); (case h1 => (first | exact oneAll rfl | exact oneMap _ _ | (intro u hu; cases hu))); (case h63 => unfold maxLen; omega); (case hb => omega); clear hS; intro ad31 c31 w hS; (first | simp only [mapk1] at hS | simp only [mapk2] at hS | simp only [mapk3] at hS | simp only [mapk4] at hS | simp only [mapkl] at hS | skip); refine put_move ?_; go_step)) | ((fail_if_success with_reducible refine ga9 ?_); go_step))
      repeat' (first
       | ((fail_if_success with_reducible refine ga9 ?_); go_step))
      go_roundg f
      case measure => omega
      case rel => exact ⟨at_ + every, m + 1, o ++ [(at_, q)], _, _, by go_num, rfl, by omega, by omega, by omega, hid (by rw [List.length_append, HO.out]; rfl), hid (by rw [HA2.out]; simp), by rw [HSF.out]; exact hS.sub sb9⟩
    · have hp : spn n every = o := by
       rw [HA.out]
       have : spnA n every gk at_ = [] := by
        cases gk with
        | zero => rfl
        | succ f => rw [spnA, if_neg hr0]
       rw [this, List.append_nil]
      have HPO := hid hp
      clear hp
      repeat' (first
       | (refine y91 ?_) | (refine y989 ?_) | ((fail_if_success with_reducible refine ga9 ?_); go_step))
      all_goals (try (have hF : False := (by omega); cases hF))
      repeat' (first
       | ((fail_if_success with_reducible refine ga9 ?_); go_step))
      go_ret
      refine ⟨_, _, m, by rw [HPO.out]; exact HO.out, rfl, ?_⟩
      rw [HPO.out]
      exact hS.sub sb9
theorem mark_any (w0 : World) (k : Nat) (hk : k ≤ 1000000000) : Calls Tryd.prog 54 #[.int .i64 k] w0 fun e w => e = .returned (.int .i64 ((208 + k % 8 : Nat) : Int)) ∧ Ext w0 w := by
 have hS := St.start w0
 go_enter Tryd.func54, Tryd.ntmps54
 repeat' (first
  | ((with_reducible refine gs9 4 ?_); (refine wplV (.int _ (((k % 8 : Nat) : Int))) (V.as (V.rem rfl rfl (by omega) (by omega)) (by omega)) rfl ?_; go_step)) | ((with_reducible refine gs9 5 ?_); (refine wplV (.int _ (((208 + k % 8 : Nat) : Int))) (V.as (V.addI rfl rfl (by omega)) (by omega)) rfl ?_; go_step)) | (refine y91 ?_) | ((fail_if_success with_reducible refine ga9 ?_); go_step))
 go_ret
 exact ⟨rfl, hS.1⟩

set_option maxRecDepth 100000
set_option linter.unusedVariables false
def mkOk (ms : List Int) (n : Nat) : Bool := (List.range n).all fun k => decide (nth ms k = ((208 + k % 8 : Nat) : Int))
theorem mkOk_succ (ms : List Int) (n : Nat) : mkOk ms (n + 1) = (mkOk ms n && decide (nth ms n = ((208 + n % 8 : Nat) : Int))) := by
 unfold mkOk; rw [List.range_succ, List.all_append]; simp
theorem mkOk_not {ms : List Int} {n k : Nat} (hk : k < n) (h : nth ms k ≠ ((208 + k % 8 : Nat) : Int)) : mkOk ms n = false := by
 cases e : mkOk ms n
 · rfl
 · unfold mkOk at e
   rw [List.all_eq_true] at e
   have := e k (List.mem_range.2 hk)
   exact absurd (of_decide_eq_true this) h
def whE (C1 S1 C2 S2 b : List Int) (n every : Int) : Int := if pcE C1 S1 C2 S2 b n every = 0 then match spf b [] [] [] with
 | none => 4
 | some y => if y.1.length = (spn n.toNat every.toNat).length then if mkOk y.2 y.2.length then 0 else 6 else 4
 else pcE C1 S1 C2 S2 b n every
def WhGives (w0 : World) (E : Int) (b : List Int) (m : Nat) (e : Ending) (w : World) : Prop :=
 (E ≠ 0 → e = .returned (.tuple #[.slice none 0 0, .int .i64 E]) ∧ Ext w0 w) ∧
 (E = 0 → ∃ (pcs : List Pc) (ms : List Int) (ao : Option Addr) (co : Nat), spf b [] [] [] = some (pcs.map (·.xs), ms) ∧ pcs.length = m ∧ e = .returned (.tuple #[.slice ao m co, .int .i64 0]) ∧ St w0 w [own 34 1 ao m co (pcs.map Pc.val), star (pcs.map Pc.res)])
theorem wh_no {w0 w : World} {E : Int} {b : List Int} {m : Nat} (E' : Int) (h : E = E') (h0 : E' ≠ 0) (hE : Ext w0 w) : WhGives w0 E b m (.returned (.tuple #[.slice none 0 0, .int .i64 E'])) w := by
 subst h
 exact ⟨fun _ => ⟨rfl, hE⟩, fun h => absurd h h0⟩
theorem pcE_zero {C1 S1 C2 S2 b : List Int} {n every : Int} (h : pcE C1 S1 C2 S2 b n every = 0) : okNE n every ∧ tbE C1 S1 C2 S2 = 0 ∧ ∃ y, spf b [] [] [] = some y := by
 unfold pcE at h
 by_cases h1 : okNE n every
 case neg => rw [if_neg h1] at h; cases h
 rw [if_pos h1] at h
 by_cases h2 : tbE C1 S1 C2 S2 = 0
 case neg => rw [if_neg h2] at h; exact absurd h h2
 rw [if_pos h2] at h
 refine ⟨h1, h2, ?_⟩
 unfold spE at h
 cases hs : spf b [] [] [] with
 | none => rw [hs] at h; cases h
 | some y => exact ⟨y, rfl⟩
theorem spf_marks : ∀ (b : List Int) (o : List (List Int)) (m p : List Int) (ps : List (List Int)) (ms : List Int), spf b o m p = some (ps, ms) → ms.length ≤ m.length + b.length
 | [], o, m, p, ps, ms, h => by
  rw [spf] at h
  have := (Prod.mk.injEq _ _ _ _ ▸ Option.some.inj h : _ ∧ _).2
  rw [← this]; simp
 | [x], o, m, p, ps, ms, h => by
  rw [spf] at h
  split at h
  · cases h
  · have := spf_marks [] o m (p ++ [x]) ps ms h
    simp at this ⊢; omega
 | x :: y :: b, o, m, p, ps, ms, h => by
  rw [spf] at h
  split at h
  · split at h
    · cases h
    · split at h
      · have := spf_marks b o m _ ps ms h
        simp at this ⊢; omega
      · have := spf_marks b _ _ _ ps ms h
        simp at this ⊢; omega
  · have := spf_marks (y :: b) o m (p ++ [x]) ps ms h
    simp at this ⊢; omega
set_option maxHeartbeats 8000000 in
theorem whole_any (w0 : World) (C1 C2 S1 S2 : List Int) (a1 a2 : Option Addr) (n1 n2 k1 k2 : Nat) (hC1 : Len C1 16) (hC2 : Len C2 16) (hs1 : Sl w0 1 (.slice a1 n1 k1) n1 (S1.map (Value.int .i64))) (hs2 : Sl w0 1 (.slice a2 n2 k2) n2 (S2.map (Value.int .i64))) (hn1 : n1 ≤ 9223372036854775807) (hn2 : n2 ≤ 9223372036854775807) (ad : Option Addr) (nb c : Nat) (b : List Int) (n every : Int)
 (hb : nb ≤ 1000000000) (hv : Sl w0 1 (.slice ad nb c) nb (b.map (Value.int .u8))) (hx : ∀ x ∈ b, 0 ≤ x ∧ x < 256) :
 Calls Tryd.prog 55 #[.agg (pcells [.ints C1, .val (.slice a1 n1 k1), .ints C2, .val (.slice a2 n2 k2)]).toArray, .slice ad nb c, .int .i64 n, .int .i64 every] w0 (WhGives w0 (whE C1 S1 C2 S2 b n every) b (spn n.toNat every.toNat).length) := by
 have hS := St.start w0
 have HX := hid hx
 clear hx
 by_cases hP : pcE C1 S1 C2 S2 b n every = 0
 case neg =>
  obtain ⟨E, hE⟩ : ∃ E, pcE C1 S1 C2 S2 b n every = E := ⟨_, rfl⟩
  have h0 : E ≠ 0 := by rw [← hE]; exact hP
  have HE := hid hE
  have HW := hid (show whE C1 S1 C2 S2 b n every = E by unfold whE; rw [if_neg hP]; exact hE)
  clear hP hE
  go_enter Tryd.func55, Tryd.ntmps55
  repeat' (first
   | ((with_reducible refine gs9 20 ?_); refine wpl_call (f := 56) Tryd.call56 kr9 ?_; refine ⟨_, (pieces_any _ C1 C2 S1 S2 a1 a2 n1 n2 k1 k2 hC1 hC2 (hs1.ext hS.1) (hs2.ext hS.1) hn1 hn2 ad nb c b n every hb (hv.ext hS.1) HX.out), ?_⟩; rintro e w ⟨hq, _⟩; rw [HE.out] at hq; obtain ⟨rfl, hE2⟩ := hq h0; clear hq; replace hS := hS.ext hE2; clear hE2; refine ⟨_, rfl, ?_⟩; refine put_move ?_; go_step) | (refine y91 ?_) | (refine y9104 ?_) | (refine y990 ?_) | ((with_reducible refine gs9 4 ?_); (refine wl9 ?_; apply wp_boxP (o := ⟨some 4, _, _, _, _, _⟩) hS 33 _ rfl _ rfl; clear hS; intro g4 w hS; refine put_move ?_; go_step)) | (refine y9125 ?_) | ((fail_if_success with_reducible refine ga9 ?_); go_step))
  all_goals (try (have hF : False := (by omega); cases hF))
  refine ret_all (xs := [_, _]) rfl (.cons (OneRes.tmp rfl) (.cons (OneRes.tmp rfl) (.nil))) (by simp) rfl ?_
  exact wh_no E HW.out h0 hS.1
 obtain ⟨hok, htb, ⟨ps, ms⟩, hsp⟩ := pcE_zero hP
 unfold okNE at hok
 obtain ⟨N, rfl⟩ : ∃ N : Nat, n = (N : Int) := ⟨n.toNat, by omega⟩
 obtain ⟨Ev, rfl⟩ : ∃ N : Nat, every = (N : Int) := ⟨every.toNat, by omega⟩
 have HWE := hid (show whE C1 S1 C2 S2 b N Ev = if ps.length = (spn N Ev).length then if mkOk ms ms.length then 0 else 6 else 4 by unfold whE; rw [if_pos hP, hsp]; dsimp only; rw [Int.toNat_natCast, Int.toNat_natCast])
 rw [Int.toNat_natCast, Int.toNat_natCast]
 obtain ⟨M, hM⟩ : ∃ M, (spn N Ev).length = M := ⟨_, rfl⟩
 rw [hM] at HWE ⊢
 have HM := hid hM
 have HP := hid hP
 have HSP := hid hsp
 clear hP hsp hM htb
 obtain ⟨lp, hlp⟩ : ∃ x, ps.length = x := ⟨_, rfl⟩
 obtain ⟨lm0, hlm0⟩ : ∃ x, ms.length = x := ⟨_, rfl⟩
 rw [hlp, hlm0] at HWE
 have HLP := hid hlp
 have HLM := hid hlm0
 clear hlp hlm0
 go_enter Tryd.func55, Tryd.ntmps55
 repeat' (first
  | ((with_reducible refine gs9 20 ?_); refine wpl_call (f := 56) Tryd.call56 kr9 ?_; refine ⟨_, (pieces_any _ C1 C2 S1 S2 a1 a2 n1 n2 k1 k2 hC1 hC2 (hs1.ext hS.1) (hs2.ext hS.1) hn1 hn2 ad nb c b (N : Int) (Ev : Int) hb (hv.ext hS.1) HX.out), ?_⟩; rintro e w ⟨_, hq⟩; obtain ⟨pcs, ao, am, co, cm, lo, lm, hlo, hlm, hpc, rfl, hS2⟩ := hq HP.out _ _ HSP.out; clear hq; obtain rfl : lp = lo := (by rw [hlo]; exact HLP.out.symm); obtain rfl : lm0 = lm := (by rw [hlm]; exact HLM.out.symm); have HPC := hid hpc; clear hlo hlm hpc; replace hS := hS.call hS2; dsimp only [List.cons_append, List.nil_append] at hS; clear hS2; refine ⟨_, rfl, ?_⟩; refine put_move ?_; go_step) | (refine y91 ?_) | (refine y9104 ?_) | (refine y990 ?_) | ((with_reducible refine gs9 4 ?_); (refine wl9 ?_; apply wp_boxP (o := ⟨some 4, _, _, _, _, _⟩) hS 33 _ rfl _ rfl; clear hS; intro g4 w hS; refine put_move ?_; go_step)) | (refine y9125 ?_) | ((fail_if_success with_reducible refine ga9 ?_); go_step))
 all_goals (try (have hF : False := (by omega); cases hF))
 by_cases hlen : lp = M
 case neg =>
  have HW := hid (show whE C1 S1 C2 S2 b N Ev = 4 by rw [HWE.out, if_neg hlen])
  repeat' (first
   | ((with_reducible refine gs9 31 ?_); refine wpl_call (f := 53) Tryd.call53 kr9 ?_; refine ⟨_, (spans_any _ N Ev (by omega) (by omega)), ?_⟩; rintro e w ⟨a3, c3, m3, hm3, rfl, hS2⟩; obtain rfl : M = m3 := (by rw [← hm3]; exact HM.out.symm); clear hm3; replace hS := hS.ext hS2.1; clear hS2; refine ⟨_, rfl, ?_⟩; refine put_move ?_; go_step) | (refine y91 ?_) | (refine y9101 ?_) | (refine y997 ?_) | (refine y991 ?_) | ((fail_if_success with_reducible refine ga9 ?_); go_step))
  all_goals (try (have hF : False := (by omega); cases hF))
  refine ret_all (xs := [_, _]) rfl (.cons (OneRes.tmp rfl) (.cons (OneRes.tmp rfl) (.nil))) (by simp) rfl ?_
  exact wh_no 4 HW.out (by decide) hS.1
 subst hlen
 have HW2 := hid (show whE C1 S1 C2 S2 b N Ev = if mkOk ms lm0 then 0 else 6 by rw [HWE.out, if_pos rfl])
 repeat' (first
  | ((with_reducible refine gs9 31 ?_); refine wpl_call (f := 53) Tryd.call53 kr9 ?_; refine ⟨_, (spans_any _ N Ev (by omega) (by omega)), ?_⟩; rintro e w ⟨a3, c3, m3, hm3, rfl, hS2⟩; obtain rfl : lp = m3 := (by rw [← hm3]; exact HM.out.symm); clear hm3; replace hS := hS.ext hS2.1; clear hS2; refine ⟨_, rfl, ?_⟩; refine put_move ?_; go_step) | (refine y9144 ?_) | (refine y9101 ?_) | (refine y997 ?_) | (refine y991 ?_) | ((fail_if_success with_reducible refine ga9 ?_); go_step))
 all_goals (try (have hF : False := (by omega); cases hF))
 repeat' (first
  | (refine y9144 ?_) | (refine y999 ?_) | ((fail_if_success with_reducible refine ga9 ?_); go_step))
 clear HWE
 have hlmb : lm0 ≤ 1000000000 := by
  have := spf_marks b [] [] [] ps ms HSP.out
  have hbl : b.length = nb := by have := hv.1; simpa using this
  rw [HLM.out, hbl] at this
  simp at this
  omega
 go_loopg [36] lm0 (fun gk kv w => ∃ k : Nat, gk + k = lm0 ∧ kv = .int .i64 k ∧ Hid (mkOk ms k = true) ∧ St w0 w [own 34 1 ao lp co (pcs.map Pc.val), own 3 1 am lm0 cm (ms.map (Value.int .i64)), star (pcs.map Pc.res)])
 case atStart => exact ⟨0, rfl, rfl, hid rfl, hS.sub sb9⟩
 case round =>
  clear hS
  obtain ⟨k, hk, rfl, HA, hS⟩ := hrel
  by_cases hlt : k < lm0
  · obtain ⟨g5, rfl⟩ := own_some (a := am) hS pl9 (by omega)
    by_cases hq : nth ms k = ((208 + k % 8 : Nat) : Int)
    · have HA2 := hid (show mkOk ms (k + 1) = true by rw [mkOk_succ, HA.out, decide_eq_true hq]; rfl)
      repeat' (first
       | ((with_reducible refine gs9 43 ?_); refine wpl_call (f := 54) Tryd.call54 kr9 ?_; refine ⟨_, (mark_any _ k (by omega)), ?_⟩; rintro e w ⟨rfl, hE2⟩; replace hS := hS.ext hE2; clear hE2; refine ⟨_, rfl, ?_⟩; refine put_move ?_; go_step) | (refine y91 ?_) | (refine y989 ?_) | (refine y957 ?_) | (refine y991 ?_) | (refine y9121 ?_) | ((fail_if_success with_reducible refine ga9 ?_); go_step))
      all_goals (try (have hF : False := (by omega); cases hF))
      repeat' (first
       | (refine y9144 ?_) | (refine y983 ?_) | ((fail_if_success with_reducible refine ga9 ?_); go_step))
      go_roundg (gk - 1)
      case measure => omega
      case rel => exact ⟨k + 1, by omega, by go_num, HA2, hS.sub sb9⟩
    · have HW := hid (show whE C1 S1 C2 S2 b N Ev = 6 by rw [HW2.out, mkOk_not hlt hq]; rfl)
      repeat' (first
       | ((with_reducible refine gs9 43 ?_); refine wpl_call (f := 54) Tryd.call54 kr9 ?_; refine ⟨_, (mark_any _ k (by omega)), ?_⟩; rintro e w ⟨rfl, hE2⟩; replace hS := hS.ext hE2; clear hE2; refine ⟨_, rfl, ?_⟩; refine put_move ?_; go_step) | (refine y91 ?_) | (refine y989 ?_) | (refine y957 ?_) | (refine y991 ?_) | (refine y9121 ?_) | ((fail_if_success with_reducible refine ga9 ?_); go_step))
      all_goals (try (have hF : False := (by omega); cases hF))
      refine ret_all (xs := [_, _]) rfl (.cons (OneRes.tmp rfl) (.cons (OneRes.tmp rfl) (.nil))) (by simp) rfl ?_
      exact wh_no 6 HW.out (by decide) hS.1
  · obtain rfl : k = lm0 := by omega
    have HW := hid (show whE C1 S1 C2 S2 b N Ev = 0 by rw [HW2.out, if_pos HA.out])
    repeat' (first
     | (refine y91 ?_) | (refine y989 ?_) | ((fail_if_success with_reducible refine ga9 ?_); go_step))
    repeat' (first
     | ((fail_if_success with_reducible refine ga9 ?_); go_step))
    refine ret_all (xs := [_, _]) rfl (.cons (OneRes.tmp rfl) (.cons (OneRes.tmp rfl) (.nil))) (by simp) rfl ?_
    exact ⟨fun h => absurd HW.out h, fun _ => ⟨pcs, ms, ao, co, by rw [HPC.out]; exact HSP.out, by have := congrArg List.length HPC.out; rw [List.length_map, HLP.out] at this; exact this, rfl, hS.sub sb9⟩⟩

def blen (n : Nat) : Nat := if n = 0 then 0 else n.log2 + 1
theorem blen_spec (n : Nat) : n < 2 ^ blen n ∧ (0 < n → 1 ≤ blen n ∧ 2 ^ (blen n - 1) ≤ n) := by
 unfold blen
 by_cases h : n = 0
 · subst h; simp
 · rw [if_neg h]
   exact ⟨Nat.lt_log2_self, fun _ => ⟨by omega, by rw [Nat.add_sub_cancel]; exact Nat.log2_self_le h⟩⟩
theorem blen_le (n k : Nat) (h : n < 2 ^ k) : blen n ≤ k := by
 obtain ⟨_, h2⟩ := blen_spec n
 rcases Nat.eq_zero_or_pos n with h0 | h0
 · subst h0; simp [blen]
 · obtain ⟨h3, h4⟩ := h2 h0
   have h5 := Nat.lt_of_le_of_lt h4 h
   have := (Nat.pow_lt_pow_iff_right (show 1 < 2 by omega)).1 h5
   omega
theorem blen_unique (n k : Nat) (h1 : 2 ^ k ≤ n) (h2 : n < 2 ^ (k + 1)) : blen n = k + 1 := by
 have h3 := blen_le n (k + 1) h2
 obtain ⟨h4, _⟩ := blen_spec n
 have h5 := Nat.lt_of_le_of_lt h1 h4
 have := (Nat.pow_lt_pow_iff_right (show 1 < 2 by omega)).1 h5
 omega
theorem blen_lib (n : Nat) (h : n < 2 ^ 64) : Lib.bitLen n = blen n := by
 rcases Nat.eq_zero_or_pos n with h0 | h0
 · subst h0; rfl
 · obtain ⟨h1, h2, h3⟩ := Lib.bitLenAux_bounds 64 n h (by omega)
   have := blen_unique n (Lib.bitLen n - 1) h2 (by rw [show Lib.bitLen n - 1 + 1 = Lib.bitLen n by have : 1 ≤ Lib.bitLen n := h1; omega]; exact h3)
   have h4 : 1 ≤ Lib.bitLen n := h1
   omega
theorem len_any (x : Nat) (w : World) (h : x < 65536) : Calls Tryd.prog 110 #[.int .u64 x] w fun e w' => e = .returned (.int .i64 (blen x)) ∧ w = w' :=
 (Tryd.bits_Len x w (by omega) (by omega)).mono fun e w' ⟨h1, h2⟩ => ⟨by rw [h1, Int.toNat_natCast, blen_lib x (by omega)], h2.symm⟩
def sz (n : Int) : Nat := blen n.natAbs
def sv (n : Int) : Int := if n < 0 then n + (2 ^ sz n - 1 : Nat) else n
theorem sz_le (n : Int) (h : -4096 < n ∧ n < 4096) : sz n ≤ 12 := blen_le _ 12 (by omega)
set_option maxHeartbeats 1000000 in
theorem sizeBits_any (n : Int) (w : World) (h0 : -4096 < n) (h1 : n < 4096) :
 Calls Tryd.prog 103 #[.int .i64 n] w fun e w' => e = .returned (.tuple #[.int .i64 (sz n), .int .i64 (sv n), .int .i64 0]) ∧ w = w' := by
 obtain ⟨m, hm⟩ : ∃ m, m = n.natAbs := ⟨_, rfl⟩
 have hmax : max n (-n) = (m : Int) := by omega
 have hm4 : m < 4096 := by omega
 have hu : IntKind.u64.wrap (m : Int) = (m : Int) := by simp [IntKind.wrap, IntKind.signed, IntKind.bits]; omega
 have h2 : -4095 ≤ n := by omega
 obtain ⟨k, hk⟩ : ∃ k, blen m = k := ⟨_, rfl⟩
 have hk12 : k ≤ 12 := by rw [← hk]; exact blen_le m 12 (by omega)
 have HV := hid (show sv n = if n < 0 then n + (2 ^ sz n - 1 : Nat) else n from rfl)
 have HK := hid hk
 have HZ : Hid (sz n = k) := by unfold Hid sz; rw [← hm, hk]
 have HPW := hid (mask_i64 k (by omega))
 have hp1 : 2 ^ k ≤ 2 ^ 12 := Nat.pow_le_pow_right (by omega) hk12
 have hp0 := Nat.two_pow_pos k
 have hq4 : 2 ^ k - 1 ≤ 4095 := by omega
 obtain ⟨q, hq⟩ : ∃ q, 2 ^ k - 1 = q := ⟨_, rfl⟩
 rw [hq] at HPW hq4
 have HQ := hid hq
 have hk64 : (k : Int) < 64 := by omega
 clear hm hp1 hp0 hq hk
 by_cases hn : n < 0
 · have HV2 : Hid (sv n = n + (q : Int)) := by unfold Hid; rw [HV.out, if_pos hn, HZ.out, HQ.out]
   clear HV
   have hpw := HPW.out
   clear HPW
   go_enter Tryd.func103, Tryd.ntmps103
   go_wp2_with (go_at_call 110; refine (len_any m _ (by omega)).mono ?_; rintro e w' ⟨rfl, rfl⟩; rw [HK.out])
   refine bodyPost_ret (results_tmp3 rfl _ _ _) rfl ?_
   exact ⟨by rw [HZ.out, HV2.out]; rfl, rfl⟩
 · have HV2 : Hid (sv n = n) := by unfold Hid; rw [HV.out, if_neg hn]
   clear HV HPW
   go_enter Tryd.func103, Tryd.ntmps103
   go_wp2_with (go_at_call 110; refine (len_any m _ (by omega)).mono ?_; rintro e w' ⟨rfl, rfl⟩; rw [HK.out])
   refine bodyPost_ret (results_tmp3 rfl _ _ _) rfl ?_
   exact ⟨by rw [HZ.out, HV2.out]; rfl, rfl⟩
def sback (k v : Nat) : Int := if 0 < k ∧ v < 2 ^ (k - 1) then (v : Int) - (2 ^ k - 1 : Nat) else v
set_option maxHeartbeats 1000000 in
theorem sizeBack_any (k v : Nat) (w : World) (hk : k ≤ 12) (hv : v < 2 ^ k) :
 Calls Tryd.prog 71 #[.int .i64 k, .int .i64 v] w fun e w' => e = .returned (.tuple #[.int .i64 (sback k v), .int .i64 0]) ∧ w = w' := by
 have HPW := hid (mask_i64 k (by omega))
 have HP := hid (pow_i64 k (by omega))
 have hp1 : 2 ^ k ≤ 2 ^ 12 := Nat.pow_le_pow_right (by omega) hk
 have HB := hid (show sback k v = if 0 < k ∧ v < 2 ^ (k - 1) then (v : Int) - (2 ^ k - 1 : Nat) else v from rfl)
 have hsh : 0 < k → ((v : Int) / 2 ^ (k - 1) == 0) = decide (v < 2 ^ (k - 1)) := fun h => by
  have h3 : ((v : Int) / 2 ^ (k - 1)) = ((v / 2 ^ (k - 1) : Nat) : Int) := by push_cast; rfl
  rw [h3, Bool.eq_iff_iff]
  have h4 := Nat.two_pow_pos (k - 1)
  have h5 := @Nat.div_eq_zero_iff v (2 ^ (k - 1))
  simp only [beq_iff_eq, decide_eq_true_eq]
  omega
 obtain ⟨q, hq⟩ : ∃ q, 2 ^ k = q := ⟨_, rfl⟩
 rw [hq] at HPW hp1 hv HB HP
 have hq1 : q - 1 ≤ 4095 := by omega
 have hq0 : k = 0 → q = 1 := fun h => by subst h; exact hq.symm
 clear hq
 have HF : Hid (wrap64 ((v : Int) - wrap64 ((q : Int) - 1)) = (v : Int) - ((q - 1 : Nat) : Int)) := by unfold Hid wrap64; omega
 have hv2 : (v : Int) < (q : Int) := by omega
 have hv3 : (0 : Int) ≤ (v : Int) := by omega
 have hk1 : (0 : Int) ≤ (k : Int) := by omega
 have hk2 : (k : Int) ≤ 12 := by omega
 by_cases h0 : k = 0
 · subst h0
   have hv0 : v = 0 := by have := hq0 rfl; omega
   subst hv0
   have HV2 : Hid (sback 0 0 = 0) := by unfold Hid; rw [HB.out, if_neg (by omega)]; rfl
   clear HB HP HPW hsh hv hp1 hq1 hq0 HF hv2 hv3 hk hk1 hk2
   go_enter Tryd.func71, Tryd.ntmps71
   go_wp2_with fail
   go_ret2
   exact ⟨by rw [HV2.out]; rfl, rfl⟩
 · obtain ⟨r, rfl⟩ : ∃ r, k = r + 1 := ⟨k - 1, by omega⟩
   have hr0 : (0 : Int) ≤ (r : Int) := by omega
   have hr64 : (r : Int) < 64 := by omega
   have hs1 : IntKind.i64.wrap (((r + 1 : Nat) : Int) - 1) = (r : Int) := by simp [IntKind.wrap, IntKind.signed, IntKind.bits]; omega
   have hsh' := hsh (by omega)
   rw [Nat.add_sub_cancel] at hsh' HB
   have hpos : ¬ ((r + 1 : Nat) : Int) ≤ 0 := by omega
   have hpos2 : (0 : Int) < ((r + 1 : Nat) : Int) := by omega
   have hpw := HP.out
   have hpm := HPW.out
   clear hsh HP HPW hq1 hq0 hp1 hk h0
   have hyp : ¬ (q : Int) ≤ (v : Int) := by omega
   by_cases hlt : v < 2 ^ r
   · have HV2 : Hid (sback (r + 1) v = (v : Int) - ((q - 1 : Nat) : Int)) := by unfold Hid; rw [HB.out, if_pos ⟨by omega, hlt⟩]
     have hsh2 : ((v : Int) / 2 ^ r == 0) = true := by rw [hsh', decide_eq_true hlt]
     clear hsh' HB hlt hv
     go_enter Tryd.func71, Tryd.ntmps71
     go_wp2_with fail
     go_ret2
     exact ⟨by rw [HV2.out, ← HF.out]; rfl, rfl⟩
   · have HV2 : Hid (sback (r + 1) v = (v : Int)) := by unfold Hid; rw [HB.out, if_neg (fun h => hlt h.2)]
     have hsh2 : ((v : Int) / 2 ^ r == 0) = false := by rw [hsh', decide_eq_false hlt]
     clear hsh' HB hlt hv HF
     go_enter Tryd.func71, Tryd.ntmps71
     go_wp2_with fail
     go_ret2
     exact ⟨by rw [HV2.out]; rfl, rfl⟩

def zstep (s : Int × Int × Bool) : Int × Int × Bool :=
 if s.2.2 = true ∧ s.2.1 = 7 then (s.1 + 1, s.2.1, false)
 else if s.2.2 = true ∧ s.1 = 0 then (s.1, s.2.1 + 1, false)
 else if s.2.2 = true then (s.1 - 1, s.2.1 + 1, true)
 else if s.1 = 7 then (s.1, s.2.1 + 1, true)
 else if s.2.1 = 0 then (s.1 + 1, s.2.1, true)
 else (s.1 + 1, s.2.1 - 1, false)
def zst : Nat → Int × Int × Bool
 | 0 => (0, 0, true)
 | k + 1 => zstep (zst k)
def zn (k : Nat) : Nat := (8 * (zst k).1 + (zst k).2.1).toNat
def zord : List Nat := (List.range 64).map zn
def zi : List Int := zord.map fun (n : Nat) => (n : Int)
theorem zst_ok : ∀ k, k < 64 → 0 ≤ (zst k).1 ∧ (zst k).1 ≤ 7 ∧ 0 ≤ (zst k).2.1 ∧ (zst k).2.1 ≤ 7 := by decide +kernel
def zl (k : Nat) : List Int := zi.take k ++ List.replicate (64 - k) 0
theorem zl_len : ∀ k, k < 65 → (zl k).length = 64 := by decide +kernel
theorem zl_set : ∀ k, k < 64 → (zl k).set k (8 * (zst k).1 + (zst k).2.1) = zl (k + 1) := by decide +kernel
theorem zl_all : zl 64 = zi := by decide +kernel
theorem zi_len : zi.length = 64 := by decide +kernel

set_option maxRecDepth 100000 in
set_option maxHeartbeats 2000000 in
theorem zorder_any (w : World) : Calls Tryd.prog 87 #[] w fun e w' => e = .returned (.agg (iv zi)) ∧ Ext w w' := by
 go_enter Tryd.func87, Tryd.ntmps87
 go_wp2_with fail
 go_loopg [1, 2, 3, 5] 64 (fun gk rv cv uv xv wr => ∃ (i : Nat) (r c : Int) (u : Bool), gk + i = 64 ∧ xv = .int .i64 i ∧ rv = .int .i64 r ∧ cv = .int .i64 c ∧ uv = .bool u ∧ Hid (zst i = (r, c, u)) ∧ Row wr w.heap.size (zl i) ∧ Ext w wr)
 case atStart => exact ⟨0, 0, 0, true, rfl, rfl, rfl, rfl, rfl, rfl, Row.new w (List.replicate 64 0) 51, (Ext.refl w).alloc _⟩
 case round =>
  obtain ⟨i, r, c, u, hi, rfl, rfl, rfl, rfl, hst, hrow, hE⟩ := hrel
  by_cases hlt : i < 64
  · have hb := zst_ok i hlt
    rw [hst.out] at hb
    dsimp only at hb
    obtain ⟨hb1, hb2, hb3, hb4⟩ := hb
    have hcell := hrow.cell i (by rw [zl_len i (by omega)]; exact hlt)
    have hfree := hrow.free i
    have hset := zl_set i hlt
    rw [hst.out] at hset
    have hrow2 := hrow.set i (8 * r + c)
    rw [hset] at hrow2
    have hE2 : Ext w (wr.setCell ⟨w.heap.size, i, none⟩ (.int .i64 (8 * r + c))) := hE.setCell (Nat.le_refl _) _
    have hs : Hid (zst (i + 1) = zstep (r, c, u)) := by unfold Hid; rw [← hst.out]; rfl
    clear hset hst
    have fin : ∀ (r' c' : Int) (u' : Bool), zstep (r, c, u) = (r', c', u') → Hid (zst (i + 1) = (r', c', u')) := fun r' c' u' h => by rw [← h]; exact hs
    clear hs
    have FIN := hid fin
    clear fin
    have hi' : gk - 1 + (i + 1) = 64 := by omega
    have HI := hid hi'
    clear hi'
    have HR := hid hrow2
    have HE := hid hE2
    clear hrow2 hE2
    cases u
    · by_cases h7 : r = 7
      · subst h7
        go_wp2_with fail
        go_roundg (gk - 1)
        case measure => omega
        case rel => exact ⟨i + 1, _, _, _, HI.out, by go_num, rfl, rfl, rfl, FIN.out _ _ _ (by simp [zstep]), HR.out, HE.out⟩
      · by_cases h0 : c = 0
        · subst h0
          go_wp2_with fail
          go_roundg (gk - 1)
          case measure => omega
          case rel => exact ⟨i + 1, _, _, _, HI.out, by go_num, rfl, rfl, rfl, FIN.out _ _ _ (by simp [zstep]; omega), by simpa using HR.out, by simpa using HE.out⟩
        · go_wp2_with fail
          go_roundg (gk - 1)
          case measure => omega
          case rel => exact ⟨i + 1, _, _, _, HI.out, by go_num, rfl, rfl, rfl, FIN.out _ _ _ (by simp [zstep, h7, h0]), HR.out, HE.out⟩
    · by_cases h7 : c = 7
      · subst h7
        go_wp2_with fail
        go_roundg (gk - 1)
        case measure => omega
        case rel => exact ⟨i + 1, _, _, _, HI.out, by go_num, rfl, rfl, rfl, FIN.out _ _ _ (by simp [zstep]), HR.out, HE.out⟩
      · by_cases h0 : r = 0
        · subst h0
          go_wp2_with fail
          go_roundg (gk - 1)
          case measure => omega
          case rel => exact ⟨i + 1, _, _, _, HI.out, by go_num, rfl, rfl, rfl, FIN.out _ _ _ (by simp [zstep]; omega), by simpa using HR.out, by simpa using HE.out⟩
        · go_wp2_with fail
          go_roundg (gk - 1)
          case measure => omega
          case rel => exact ⟨i + 1, _, _, _, HI.out, by go_num, rfl, rfl, rfl, FIN.out _ _ _ (by simp [zstep, h7, h0]), HR.out, HE.out⟩
  · obtain rfl : i = 64 := by omega
    rw [zl_all] at hrow
    obtain ⟨t, hrow⟩ := hrow
    have hself := setRow_self wr w.heap.size _ t _ hrow
    have hsz : (Tryd.prog.info? 51).map (·.size) = some (iv zi).size := by rw [iv_size, zi_len]; kernel_rfl
    have HS := hid hsz
    have HSelf := hid hself
    clear hsz hself
    have hh := hid hrow
    clear hrow
    go_wp2_with (first
     | (refine wpList_load_row rfl 51 _ rfl w.heap.size rfl t (iv zi) (0, 0) _ hh.out Tryd.underlying51 rfl HS.out ?_)
     | (refine wpList_store_row rfl 51 _ _ rfl w.heap.size (iv zi) rfl rfl t (iv zi) hh.out HS.out rfl (iv_one _) ?_; rw [HSelf.out]))
    refine bodyPost_ret (results_cell_row rfl _ wr w.heap.size t (iv zi) (0, 0) _ rfl hh.out Tryd.underlying51 rfl HS.out) rfl ?_
    exact ⟨rfl, hE⟩

theorem zi_get (i : Nat) (h : i < 64) : (iv zi)[i]? = some (.int .i64 (zn i : Int)) := by
 rw [iv_get zi i (by rw [zi_len]; exact h)]
 congr 2
 simp [nth, zi, zord, List.getD, List.getElem?_map, List.getElem?_range h]
theorem zn_lt : ∀ i, i < 64 → zn i < 64 := by decide +kernel
theorem zn_lt' (i : Nat) (h : i < 64) : (zn i : Int) < 64 := by have := zn_lt i h; omega
def zto (l : List Int) : List Int := zord.map fun n => nth l n
theorem zord_len : zord.length = 64 := by decide +kernel
theorem zto_len (l : List Int) : (zto l).length = 64 := by rw [zto, List.length_map, zord_len]
theorem zto_get (l : List Int) (i : Nat) (h : i < 64) : nth (zto l) i = nth l (zn i) := by
 simp [nth, zto, zord, List.getD, List.getElem?_map, List.getElem?_range h]

set_option maxRecDepth 100000 in
set_option maxHeartbeats 2000000 in
theorem zto_any (w : World) (l : List Int) (hl : l.length = 64) : Calls Tryd.prog 88 #[.agg (iv l)] w fun e w' => e = .returned (.agg (iv (zto l))) ∧ Ext w w' := by
 go_enter Tryd.func88, Tryd.ntmps88
 go_wp2_with fail
 refine (zorder_any _).mono ?_
 rintro e w1 ⟨rfl, hE1⟩
 have hb : Row w1 w.heap.size l := ((Row.new w l 52).alloc _).ext hE1
 have ho : Row w1 (w.heap.size + 1) (filling (zto l) 0) := by
  rw [filling_zero, zto_len]
  have h := (Row.new (w.alloc (.cells (iv l) 52)) (List.replicate 64 0) 52).ext hE1
  simpa using h
 have hE : Ext w w1 := (((Ext.refl w).alloc _).alloc _).trans hE1
 clear hE1
 go_wp2_with fail
 go_loopg [6] 64 (fun gk xv wr => ∃ (i : Nat), gk + i = 64 ∧ xv = .int .i64 i ∧ Row wr w.heap.size l ∧ Row wr (w.heap.size + 1) (filling (zto l) i) ∧ Ext w wr)
 case atStart => exact ⟨0, rfl, rfl, hb, ho, hE⟩
 case round =>
  clear hb ho hE
  obtain ⟨i, hi, rfl, hb, ho, hE⟩ := hrel
  by_cases hlt : i < 64
  · have hz := zi_get i hlt
    have hzl := zn_lt' i hlt
    have hzl' := zn_lt i hlt
    have hcell := hb.cell (zn i) (by omega)
    have hcell2 := ho.cell i (by rw [filling_len _ _ (by rw [zto_len]; omega), zto_len]; exact hlt)
    have hfree := ho.free i
    have ho2 := ho.set i (nth (zto l) i)
    rw [filling_set _ _ (by rw [zto_len]; exact hlt), zto_get _ _ hlt] at ho2
    have HB := hid (hb.setOther ⟨w.heap.size + 1, i, none⟩ (.int .i64 (nth l (zn i))) (by simp))
    have HO := hid ho2
    have HE := hid (hE.setCell (a := ⟨w.heap.size + 1, i, none⟩) (by simp) (.int .i64 (nth l (zn i))))
    have hi' : gk - 1 + (i + 1) = 64 := by omega
    have HI := hid hi'
    clear hi' ho2
    go_wp2_with fail
    go_roundg (gk - 1)
    case measure => omega
    case rel => exact ⟨i + 1, HI.out, by go_num, HB.out, HO.out, HE.out⟩
  · obtain rfl : i = 64 := by omega
    have ho' : Row wr (w.heap.size + 1) (zto l) := by have h := filling_all (zto l); rw [zto_len] at h; rw [h] at ho; exact ho
    clear ho
    obtain ⟨t, ho⟩ := ho'
    have HSelf := hid (setRow_self wr (w.heap.size + 1) _ t _ ho)
    have HS := hid (show (Tryd.prog.info? 52).map (·.size) = some (iv (zto l)).size by rw [iv_size, zto_len]; kernel_rfl)
    have hh := hid ho
    clear ho
    go_wp2_with (first
     | (refine wpList_load_row rfl 52 _ rfl (w.heap.size + 1) rfl t (iv (zto l)) (0, 0) _ hh.out Tryd.underlying52 rfl HS.out ?_)
     | (refine wpList_store_row rfl 52 _ _ rfl (w.heap.size + 1) (iv (zto l)) rfl rfl t (iv (zto l)) hh.out HS.out rfl (iv_one _) ?_; rw [HSelf.out]))
    refine bodyPost_ret (results_cell_row rfl _ wr (w.heap.size + 1) t (iv (zto l)) (0, 0) _ rfl hh.out Tryd.underlying52 rfl HS.out) rfl ?_
    exact ⟨rfl, hE⟩

def zfl (l : List Int) (k : Nat) : List Int := (List.range k).foldl (fun acc i => acc.set (zn i) (nth l i)) (List.replicate 64 0)
def zfrom (l : List Int) : List Int := zfl l 64
theorem zfl_succ (l : List Int) (k : Nat) : zfl l (k + 1) = (zfl l k).set (zn k) (nth l k) := by
 simp [zfl, List.range_succ, List.foldl_append]
theorem zfl_len (l : List Int) (k : Nat) : (zfl l k).length = 64 := by
 induction k with
 | zero => rfl
 | succ k ih => rw [zfl_succ, List.length_set, ih]
theorem zfrom_len (l : List Int) : (zfrom l).length = 64 := zfl_len l 64
theorem zn_inj : ∀ i, i < 64 → ∀ j, j < 64 → zn i = zn j → i = j := by decide +kernel
theorem zn_onto : ∀ j, j < 64 → zord.idxOf j < 64 ∧ zn (zord.idxOf j) = j := by decide +kernel
theorem zfl_get (l : List Int) (k : Nat) (hk : k ≤ 64) (i : Nat) (hi : i < k) : nth (zfl l k) (zn i) = nth l i := by
 induction k with
 | zero => omega
 | succ k ih =>
  rw [zfl_succ]
  by_cases h : i = k
  · subst h
    have hlt : zn i < (zfl l i).length := by rw [zfl_len]; exact zn_lt i (by omega)
    simp [nth, List.getD, hlt]
  · have hne : ¬ zn k = zn i := fun e => h (zn_inj k (by omega) i (by omega) e).symm
    have := ih (by omega) (by omega)
    simp only [nth, List.getD, List.getElem?_set, if_neg hne] at this ⊢
    exact this
theorem list_ext64 (l m : List Int) (hl : l.length = 64) (hm : m.length = 64) (h : ∀ i, i < 64 → nth l i = nth m i) : l = m := by
 apply List.ext_getElem (by omega)
 intro i h1 h2
 have := h i (by omega)
 simpa [nth, List.getD, List.getElem?_eq_getElem h1, List.getElem?_eq_getElem h2] using this
theorem zto_zfrom (l : List Int) (hl : l.length = 64) : zto (zfrom l) = l :=
 list_ext64 _ _ (zto_len _) hl fun i hi => by rw [zto_get _ i hi]; exact zfl_get l 64 (by omega) i hi
set_option maxRecDepth 100000 in
set_option maxHeartbeats 2000000 in
theorem zfrom_any (w : World) (l : List Int) (hl : l.length = 64) : Calls Tryd.prog 73 #[.agg (iv l)] w fun e w' => e = .returned (.agg (iv (zfrom l))) ∧ Ext w w' := by
 go_enter Tryd.func73, Tryd.ntmps73
 go_wp2_with fail
 refine (zorder_any _).mono ?_
 rintro e w1 ⟨rfl, hE1⟩
 have hb : Row w1 w.heap.size l := ((Row.new w l 52).alloc _).ext hE1
 have ho : Row w1 (w.heap.size + 1) (zfl l 0) := by
  have h := (Row.new (w.alloc (.cells (iv l) 52)) (List.replicate 64 0) 52).ext hE1
  have e : (w.alloc (.cells (iv l) 52)).heap.size = w.heap.size + 1 := by simp
  rw [e] at h
  exact h
 have hE : Ext w w1 := (((Ext.refl w).alloc _).alloc _).trans hE1
 clear hE1
 go_wp2_with fail
 go_loopg [6] 64 (fun gk xv wr => ∃ (i : Nat), gk + i = 64 ∧ xv = .int .i64 i ∧ Row wr w.heap.size l ∧ Row wr (w.heap.size + 1) (zfl l i) ∧ Ext w wr)
 case atStart => exact ⟨0, rfl, rfl, hb, ho, hE⟩
 case round =>
  clear hb ho hE
  obtain ⟨i, hi, rfl, hb, ho, hE⟩ := hrel
  by_cases hlt : i < 64
  · have hz := zi_get i hlt
    have hzl := zn_lt' i hlt
    have hzl' := zn_lt i hlt
    have hcell := hb.cell i (by omega)
    have hcell2 := ho.cell (zn i) (by rw [zfl_len]; exact hzl')
    have hfree := ho.free (zn i)
    have ho2 := ho.set (zn i) (nth l i)
    rw [← zfl_succ] at ho2
    have HB := hid (hb.setOther ⟨w.heap.size + 1, zn i, none⟩ (.int .i64 (nth l i)) (by simp))
    have HO := hid ho2
    have HE := hid (hE.setCell (a := ⟨w.heap.size + 1, zn i, none⟩) (by simp) (.int .i64 (nth l i)))
    have hi' : gk - 1 + (i + 1) = 64 := by omega
    have HI := hid hi'
    clear hi' ho2
    go_wp2_with fail
    go_roundg (gk - 1)
    case measure => omega
    case rel => exact ⟨i + 1, HI.out, by go_num, HB.out, HO.out, HE.out⟩
  · obtain rfl : i = 64 := by omega
    obtain ⟨t, ho⟩ := ho
    have ho' : wr.heap[w.heap.size + 1]? = some (.cells (iv (zfrom l)) t (0, 0)) := ho
    have HSelf := hid (setRow_self wr (w.heap.size + 1) _ t _ ho')
    have HS := hid (show (Tryd.prog.info? 52).map (·.size) = some (iv (zfrom l)).size by rw [iv_size, zfrom_len]; kernel_rfl)
    have hh := hid ho'
    clear ho ho'
    go_wp2_with (first
     | (refine wpList_load_row rfl 52 _ rfl (w.heap.size + 1) rfl t (iv (zfrom l)) (0, 0) _ hh.out Tryd.underlying52 rfl HS.out ?_)
     | (refine wpList_store_row rfl 52 _ _ rfl (w.heap.size + 1) (iv (zfrom l)) rfl rfl t (iv (zfrom l)) hh.out HS.out rfl (iv_one _) ?_; rw [HSelf.out]))
    refine bodyPost_ret (results_cell_row rfl _ wr (w.heap.size + 1) t (iv (zfrom l)) (0, 0) _ rfl hh.out Tryd.underlying52 rfl HS.out) rfl ?_
    exact ⟨rfl, hE⟩


end Go.Proofs.YtehbjhocgnfpmaaDoor
/- Blocks as tokens: the plain law. -/
namespace Go.Proofs.YtehbjhocgnfpmaaDoor
set_option linter.unusedVariables false
abbrev Tok := Int × Int × Int
def flt (l : List Tok) : List Int := l.flatMap fun x => [x.1, x.2.1, x.2.2]
theorem flt_app (l m : List Tok) : flt (l ++ m) = flt l ++ flt m := by simp [flt]
theorem flt_snoc (l : List Tok) (x : Tok) : flt (l ++ [x]) = flt l ++ [x.1, x.2.1, x.2.2] := by simp [flt]
theorem flt_get : ∀ (l : List Tok) (k : Nat) (x : Tok), l[k]? = some x → ((flt l).drop (k * 3)).take 3 = [x.1, x.2.1, x.2.2]
 | [], k, x, h => by simp at h
 | y :: l, 0, x, h => by
  obtain rfl : y = x := by simpa using h
  simp [flt]
 | y :: l, k + 1, x, h => by
  have := flt_get l k x (by simpa using h)
  rw [show (k + 1) * 3 = k * 3 + 3 by omega]
  simp only [flt, List.flatMap_cons] at *
  rw [List.drop_append, List.drop_of_length_le (by simp)]
  simpa using this
theorem flt_inj : ∀ {l m : List Tok}, flt l = flt m → l = m
 | [], [], _ => rfl
 | [], y :: m, h => by simp [flt] at h
 | x :: l, [], h => by simp [flt] at h
 | x :: l, y :: m, h => by
  simp only [flt, List.flatMap_cons, List.cons_append, List.nil_append, List.cons.injEq] at h
  obtain ⟨h1, h2, h3, h4⟩ := h
  have := flt_inj (l := l) (m := m) h4
  rw [this]
  congr 1
  exact Prod.ext h1 (Prod.ext h2 h3)
def tok (r : Nat) (n : Int) : Tok := (((r * 16 + sz n : Nat) : Int), (sz n : Int), sv n)
def longT : Tok := (240, 0, 0)
def endT : Tok := (0, 0, 0)
def tks : Nat → List Int → List Tok
 | r, [] => if 0 < r then [endT] else []
 | r, n :: l => if n = 0 then tks (r + 1) l else List.replicate (r / 16) longT ++ (tok (r % 16) n :: tks 0 l)
def toksOf (before : Int) (z : List Int) : List Tok := tok 0 (nth z 0 - before) :: tks 0 (z.drop 1)
theorem sz_le11 (n : Int) (h : -2048 < n ∧ n < 2048) : sz n ≤ 11 := blen_le _ 11 (by omega)
theorem sz_zero : sz 0 = 0 := by simp [sz, blen]
theorem sv_zero : sv 0 = 0 := by simp [sv]
theorem tks_len : ∀ (l : List Int) (r : Nat), (tks r l).length ≤ r + l.length
 | [], r => by
  rw [tks]; split <;> simp
  omega
 | n :: l, r => by
  rw [tks]
  split
  · have := tks_len l (r + 1); simp only [List.length_cons]; omega
  · have := tks_len l 0
    simp only [List.length_append, List.length_replicate, List.length_cons]
    omega
theorem toks_len (before : Int) (z : List Int) (h : z.length = 64) : 1 ≤ (toksOf before z).length ∧ (toksOf before z).length ≤ 64 := by
 have := tks_len (z.drop 1) 0
 simp only [toksOf, List.length_cons, List.length_drop] at *
 omega

end Go.Proofs.YtehbjhocgnfpmaaDoor
/- The walks of slices.ContainsFunc and IndexFunc at ints. -/
namespace Go.Proofs.YtehbjhocgnfpmaaDoor
open Go.RowKit
def firstIdx (p : Int → Bool) (xs : List Int) : Int := match xs.findIdx? p with | some i => (i : Int) | none => -1
theorem firstIdx_some (p : Int → Bool) (xs : List Int) (i : Nat) (h : i < xs.length) (hp : p (nth xs i) = true) (hpre : ∀ j, j < i → p (nth xs j) = false) : firstIdx p xs = i := by
 have : xs.findIdx? p = some i := by
  rw [List.findIdx?_eq_some_iff_getElem]
  refine ⟨h, by simpa [nth, List.getD, List.getElem?_eq_getElem h] using hp, fun j hj => ?_⟩
  have := hpre j hj
  simpa [nth, List.getD, List.getElem?_eq_getElem (show j < xs.length by omega)] using this
 simp [firstIdx, this]
theorem firstIdx_none (p : Int → Bool) (xs : List Int) (hpre : ∀ j, j < xs.length → p (nth xs j) = false) : firstIdx p xs = -1 := by
 have : xs.findIdx? p = none := by
  rw [List.findIdx?_eq_none_iff]
  intro x hx
  obtain ⟨j, hj, rfl⟩ := List.getElem_of_mem hx
  have := hpre j hj
  simpa [nth, List.getD, List.getElem?_eq_getElem hj] using this
 simp [firstIdx, this]
theorem firstIdx_any (p : Int → Bool) (xs : List Int) : decide (0 ≤ firstIdx p xs) = xs.any p := by
 unfold firstIdx
 rw [Bool.eq_iff_iff, decide_eq_true_eq, List.any_eq_true]
 cases h : xs.findIdx? p with
 | none =>
  rw [List.findIdx?_eq_none_iff] at h
  simp only [Int.reduceNeg]
  constructor
  · intro h'; omega
  · rintro ⟨x, hx, hp⟩; rw [h x hx] at hp; cases hp
 | some i =>
  rw [List.findIdx?_eq_some_iff_getElem] at h
  obtain ⟨hi, hp, _⟩ := h
  exact ⟨fun _ => ⟨_, List.getElem_mem hi, hp⟩, fun _ => by dsimp only; omega⟩
theorem firstIdx_bd (p : Int → Bool) (xs : List Int) : -1 ≤ firstIdx p xs := by
 unfold firstIdx; split <;> omega
set_option maxHeartbeats 1000000 in
theorem indexFunc_any (w : World) (v : Value) (xs : List Int) (hs : ISl w v xs) (K : Nat) (caps : Array Value) (p : Int → Bool) (hk : ∀ (args : Array Value) (w : World), (callFunc K args).run Tryd.prog w = .ok (.enter K args) w)
 (hf : ∀ n, Calls Tryd.prog K (#[.int .i64 n] ++ caps) w fun e w' => e = .returned (.bool (p n)) ∧ w = w') :
 Calls Tryd.prog 82 #[v, .func (.func K) #[] caps] w fun e w' => e = .returned (.int .i64 (firstIdx p xs)) ∧ w = w' := by
 obtain ⟨a, c, rfl, hc1, hc2, ha⟩ := hs.open
 have HF := hid hf
 clear hf
 go_enter Tryd.func82, Tryd.ntmps82
 go_wp2_with fail
 go_loopg [8] xs.length (fun gk xv wr => ∃ (i : Nat), gk + i = xs.length ∧ xv = .int .i64 i ∧ (∀ j, j < i → p (nth xs j) = false) ∧ wr = w)
 case atStart => exact ⟨0, rfl, rfl, fun j hj => by omega, rfl⟩
 case round =>
  obtain ⟨i, hi, rfl, hpre, rfl⟩ := hrel
  have hi' : i ≤ xs.length := by omega
  have HP := hid hpre
  clear hpre
  by_cases hlt : i < xs.length
  · obtain ⟨ba, oa, rfl, hca⟩ := ha i hlt
    have h1 := hca i hlt
    clear ha hca
    have HM : Hid (gk - 1 + (i + 1) = xs.length) := by unfold Hid; omega
    have HG : Hid (gk - 1 < gk) := by unfold Hid; omega
    clear hi
    go_wp2_with fail
    refine (HF.out (nth xs i)).mono ?_
    rintro e w' ⟨rfl, rfl⟩
    by_cases hp : p (nth xs i) = true
    · have HX := hid (firstIdx_some p xs i hlt hp HP.out)
      rw [hp]
      clear hp
      go_wp2_with fail
      go_ret
      exact ⟨ret_int HX.out.symm, rfl⟩
    · have hp' : p (nth xs i) = false := by simpa using hp
      have HX : Hid (∀ j, j < i + 1 → p (nth xs j) = false) := fun j hj => by
       by_cases hji : j = i
       · subst hji; exact hp'
       · exact HP.out j (by omega)
      rw [hp']
      clear hp hp'
      go_wp2_with fail
      go_roundg (gk - 1)
      case measure => exact HG.out
      case rel => exact ⟨i + 1, HM.out, by go_num, HX.out, rfl⟩
  · have HX := hid (firstIdx_none p xs (fun j hj => HP.out j (by omega)))
    clear ha
    go_wp2_with fail
    go_ret
    exact ⟨ret_int HX.out.symm, rfl⟩
theorem containsFunc_any (w : World) (v : Value) (xs : List Int) (hs : ISl w v xs) (K : Nat) (caps : Array Value) (p : Int → Bool) (hk : ∀ (args : Array Value) (w : World), (callFunc K args).run Tryd.prog w = .ok (.enter K args) w)
 (hf : ∀ n, Calls Tryd.prog K (#[.int .i64 n] ++ caps) w fun e w' => e = .returned (.bool (p n)) ∧ w = w') :
 Calls Tryd.prog 62 #[v, .func (.func K) #[] caps] w fun e w' => e = .returned (.bool (xs.any p)) ∧ w = w' := by
 have HA := hid (firstIdx_any p xs)
 have hb := firstIdx_bd p xs
 have HF := hid (indexFunc_any w v xs hs K caps p hk hf)
 clear hf hs
 go_enter Tryd.func62, Tryd.ntmps62
 go_wp2_with (go_at_call 82; refine HF.out.mono ?_; rintro e w' ⟨rfl, rfl⟩)
 go_ret
 exact ⟨ret_bool HA.out, rfl⟩
def allIn (l : List Int) (lo hi : Int) : Bool := !l.any fun n => decide (n < lo) || decide (hi < n)
theorem allIn_iff (l : List Int) (lo hi : Int) : allIn l lo hi = true ↔ ∀ i, i < l.length → lo ≤ nth l i ∧ nth l i ≤ hi := by
 unfold allIn
 rw [Bool.not_eq_true', List.any_eq_false]
 constructor
 · intro h i hi
   have := h l[i] (List.getElem_mem hi)
   simp only [Bool.or_eq_true, decide_eq_true_eq, not_or] at this
   simp only [nth, List.getD, List.getElem?_eq_getElem hi, Option.getD_some]
   omega
 · intro h x hx
   obtain ⟨j, hj, rfl⟩ := List.getElem_of_mem hx
   have := h j hj
   simp only [nth, List.getD, List.getElem?_eq_getElem hj, Option.getD_some] at this
   simp only [Bool.or_eq_true, decide_eq_true_eq, not_or]
   omega

end Go.Proofs.YtehbjhocgnfpmaaDoor
/- The walks of run's tokens: isCoef, token, tokens, Tokens. -/
namespace Go.Proofs.YtehbjhocgnfpmaaDoor
open Go.RowKit
set_option linter.unusedVariables false
theorem bl69_0_1_2 (m0 : Int) (m1 : Int) (m2 : Int) (w : World) : (Instr.build 69 #[(0, .int .i64 m0), (1, .int .i64 m1), (2, .int .i64 m2)]).run Tryd.prog w = .ok (.agg #[.int .i64 m0, .int .i64 m1, .int .i64 m2]) w := by kernel_rfl
theorem bl69_0 (m0 : Int) (w : World) : (Instr.build 69 #[(0, .int .i64 m0)]).run Tryd.prog w = .ok (.agg #[.int .i64 m0, .int .i64 0, .int .i64 0]) w := by kernel_rfl
def isC (n : Int) : Bool := decide (-2047 ≤ n) && decide (n ≤ 2047)
theorem isC_iff (n : Int) : isC n = true ↔ -2047 ≤ n ∧ n ≤ 2047 := by simp [isC]
theorem isCoef_any (n : Int) (w : World) : Calls Tryd.prog 72 #[.int .i64 n] w fun e w' => e = .returned (.bool (isC n)) ∧ w = w' := by
 go_enter Tryd.func72, Tryd.ntmps72
 repeat' (first
  | go_skip | ((first | (with_reducible refine mv9 ?_) | (with_reducible refine as9 ?_)); (first | go_big_want | go_step); go_step) | ((with_reducible refine gt9 _ (.pick _ _ _) ?_); first | (refine wplPickT rfl kr9 ?_; go_step) | (refine wplPickF rfl kr9 ?_; go_step)) | ((with_reducible refine gs9 4 ?_); (refine wplD _ (V.geq rfl rfl) kr9 (fun hB => ?_) (fun hB => ?_) <;> (try (have hF : False := (by omega); cases hF)) <;> go_step)) | ((with_reducible refine gt9 _ (.binOp .leq _ _ _ _) ?_); (refine wvv9 (V.leq rfl rfl) ?_; go_step)) | ((fail_if_success with_reducible refine ga9 ?_); go_step))
 all_goals (go_ret; exact ⟨ret_bool (by unfold isC; simp; omega), rfl⟩)
theorem or_tok (r k : Nat) (hr : r ≤ 15) (hk : k ≤ 12) : bits .or .i64 ((r : Int) * 2 ^ 4) (k : Int) = ((r * 16 + k : Nat) : Int) := by
 rw [show (r : Int) * 2 ^ 4 = ((r * 16 : Nat) : Int) by push_cast; omega, bits_or_i64_nat _ _ (by omega) (by omega)]
 congr 1
 rw [show r * 16 = 2 ^ 4 * r by omega]
 exact (Nat.two_pow_add_eq_or_of_lt (i := 4) (by omega) r).symm
set_option maxRecDepth 100000 in
set_option maxHeartbeats 1000000 in
theorem token_any (w0 : World) (r : Nat) (n : Int) (hr : r ≤ 15) (h0 : -4096 < n) (h1 : n < 4096) :
 Calls Tryd.prog 89 #[.int .i64 r, .int .i64 n] w0 fun e w => e = .returned (.agg #[.int .i64 (tok r n).1, .int .i64 (tok r n).2.1, .int .i64 (tok r n).2.2]) ∧ Ext w0 w := by
 have hs := sz_le n ⟨h0, h1⟩
 have HT := hid (show tok r n = (((r * 16 + sz n : Nat) : Int), (sz n : Int), sv n) from rfl)
 obtain ⟨k, hk⟩ : ∃ k, sz n = k := ⟨_, rfl⟩
 obtain ⟨v, hv⟩ : ∃ v, sv n = v := ⟨_, rfl⟩
 rw [hk, hv] at HT
 have HO := hid (or_tok r k hr (by omega))
 have HK := hid hk
 have HV := hid hv
 clear hk hv hs
 have hS := St.start w0
 go_enter Tryd.func89, Tryd.ntmps89
 repeat' (first
  | ((with_reducible refine gt9 _ (.call ⟨.value (.func 103), _, _⟩) ?_); refine wpl_call (f := 103) Tryd.call103 kr9 ?_; refine ⟨_, (sizeBits_any n _ h0 h1), ?_⟩; rintro e w' ⟨rfl, rfl⟩; rw [HK.out, HV.out]; refine ⟨_, rfl, ?_⟩; refine put_move ?_; go_step) | ((with_reducible refine gs9 17 ?_); (refine wplV (.int _ (((r * 16 + k : Nat) : Int))) (V.as (V.or rfl rfl) (by exact HO.out)) rfl ?_; go_step)) | (refine y91 ?_) | (refine y9104 ?_) | (refine y993 ?_) | (refine y939 ?_) | ((with_reducible refine gs9 4 ?_); (refine wl9 ?_; apply wp_alloc (o := ⟨some 4, _, _, _, _, _⟩) hS 69 rfl (.agg #[.int .i64 0, .int .i64 0, .int .i64 0]) [.int .i64 0, .int .i64 0, .int .i64 0] (fun w => Tryd.zeroValue69 w) rfl; clear hS; intro g4 w hS; refine put_move ?_; go_step)) | ((with_reducible refine gt9 _ (.store 69 _ _) ?_); (refine wl9 ?_; apply wp_storeG hS 69 _ _ rfl _ rfl 3 (row_of rfl) _ _; (case hp => exact pl9); (case hy => rfl); (case hn => rfl); (case hn' => rfl); (case hv => rfl); (case hd => exact rfl); clear hS; intro w hS)) | ((fail_if_success with_reducible refine ga9 ?_); go_step))
 refine ret_one rfl (OneRes.blk hS rfl (row_of (n := 3) rfl) pl9 rfl) rfl ?_
 exact ⟨(by rw [HT.out]; first | done | rfl), hS.1⟩
set_option maxRecDepth 100000 in
set_option maxHeartbeats 4000000 in
theorem tokens_any (w0 : World) (before : Int) (l : List Int) (hl : Len l 64) (hb : -2047 ≤ before ∧ before ≤ 2047) (hz : ∀ i, i < 64 → -2047 ≤ nth l i ∧ nth l i ≤ 2047) :
 Calls Tryd.prog 75 #[.int .i64 before, .agg (iv l)] w0 fun e w => ∃ ad c, e = .returned (.slice ad (toksOf before (zto l)).length c) ∧ St w0 w [own 69 3 ad (toksOf before (zto l)).length c ((flt (toksOf before (zto l))).map (Value.int .i64))] := by
 have hlz := zto_len l
 have hzz : ∀ i, i < 64 → -2047 ≤ nth (zto l) i ∧ nth (zto l) i ≤ 2047 := fun i hi => by rw [zto_get _ i hi]; exact hz _ (zn_lt i hi)
 obtain ⟨z, hze⟩ : ∃ z, zto l = z := ⟨_, rfl⟩
 have HZ := hid hze
 rw [hze] at hlz hzz ⊢
 have HZl : Len z 64 := hlz
 have HZZ := hid hzz
 have hz0 := hzz 0 (by omega)
 have hll : l.length = 64 := hl
 obtain ⟨all, hall⟩ : ∃ a, toksOf before z = a := ⟨_, rfl⟩
 rw [hall]
 have HAll := hid hall
 have hzl := hid hlz
 clear hze hlz hzz hall hz
 have hS := St.start w0
 go_enter Tryd.func75, Tryd.ntmps75
 repeat' (first
  | ((with_reducible refine gt9 _ (.call ⟨.value (.func 88), _, _⟩) ?_); refine wpl_call (f := 88) Tryd.call88 kr9 ?_; refine ⟨_, (zto_any _ l hll), ?_⟩; rintro e w ⟨rfl, hE⟩; rw [HZ.out]; replace hS := hS.ext hE; clear hE; refine ⟨_, rfl, ?_⟩; refine put_move ?_; go_step) | ((with_reducible refine gt9 _ (.call ⟨.value (.func 89), _, _⟩) ?_); refine wpl_call (f := 89) Tryd.call89 kr9 ?_; refine ⟨_, (token_any _ 0 (nth z 0 - before) (by omega) (by omega) (by omega)), ?_⟩; rintro e w ⟨rfl, hE⟩; replace hS := hS.ext hE; clear hE; refine ⟨_, rfl, ?_⟩; refine put_move ?_; go_step) | ((with_reducible refine gs9 16 ?_); (refine wl9 ?_; apply wp_buildSliceO (o := ⟨some 16, _, _, _, _, _⟩) hS 100 1 _ rfl 69 3 24 el100 _ _; (case hvs => (repeat (first | exact Parts.nil | (apply Parts.agg; (rfl); (rfl)) | (apply Parts.one; exact isv9; (rfl); (rfl))))); (case hn => rfl); (case hn0 => decide); (case hns => decide); clear hS; intro g16 w hS; simp only [List.cons_append, List.nil_append] at hS; refine put_move ?_; go_step)) | (refine y91 ?_) | ((with_reducible refine gs9 11 ?_); (refine wvv9 (V.indexAr Tryd.underlying52 isz3 rfl rfl (show IsN 0 0 from rfl) (by omega) (show 0 * 1 = 0 from rfl) nq9) ?_; go_step)) | (refine y994 ?_) | (refine y9141 ?_) | (refine y999 ?_) | ((with_reducible refine gs9 3 ?_); (refine wl9 ?_; apply wp_boxA (o := ⟨some 3, _, _, _, _, _⟩) hS 52 _ rfl _ 64 rfl; (case hn => assumption); clear hS; intro g3 w hS; refine put_move ?_; go_step)) | (refine y9127 ?_) | ((with_reducible refine gt9 _ (.store 52 _ _) ?_); (refine wl9 ?_; apply wp_storeA hS 52 _ _ rfl _ rfl 64 (row_of rfl) _ _; (case hp => exact pl9); (case hy => rfl); (case hm => (repeat (first | assumption | exact Len.rep | apply Len.set | ((with_reducible show Len (_ :: _) _); exact rfl)))); (case hd => exact rfl); clear hS; intro w hS)) | (refine y9120 ?_) | ((fail_if_success with_reducible refine ga9 ?_); go_step))
 rw [show 0 + 1 * 1 = 1 from rfl, show 64 - 1 = 63 from rfl]
 replace hS : St w0 w [own 69 3 (some ⟨g16, 0, none⟩) 1 1 ((flt [tok 0 (nth z 0 - before)]).map (Value.int .i64)), arr g3 64 z] := hS
 go_loopg [5, 6, 19] 63 (fun gk ov rv kv w => ∃ (k r m : Nat) (o : List Tok) (a' : Option Addr) (c' : Nat), gk + k = 63 ∧ kv = .int .i64 k ∧ rv = .int .i64 r ∧ ov = .slice a' m c' ∧ m + r ≤ k + 1 ∧ Hid (o.length = m) ∧ Hid (all = o ++ tks r (z.drop (k + 1))) ∧ St w0 w [own 69 3 a' m c' ((flt o).map (Value.int .i64)), arr g3 64 z])
 case atStart => exact ⟨0, 0, 1, [tok 0 (nth z 0 - before)], _, _, rfl, rfl, rfl, rfl, by omega, hid rfl, hid (by rw [← HAll.out]; rfl), hS⟩
 case round =>
  clear hS
  obtain ⟨k, r, m, o, a', c', hk, rfl, rfl, rfl, hmr, HO, HA, hS⟩ := hrel
  by_cases hlt : k < 63
  · have hdrop : z.drop (k + 1) = nth z (k + 1) :: z.drop (k + 2) := by
     rw [List.drop_eq_getElem_cons (by rw [hzl.out]; omega)]
     simp [nth, List.getD, hzl.out, show k + 1 < 64 by omega]
    have hn := HZZ.out (k + 1) (by omega)
    have ha := HA.out
    rw [hdrop, tks] at ha
    obtain ⟨n, hne⟩ : ∃ n, nth z (k + 1) = n := ⟨_, rfl⟩
    rw [hne] at ha hn
    have HN : Hid (nth z (1 + k) = n) := hid (by rw [← hne]; congr 1; omega)
    clear hdrop hne HA
    by_cases h0 : n = 0
    · subst h0
      rw [if_pos rfl] at ha
      have HA2 := hid ha
      clear ha
      repeat' (first
       | (refine y945 ?_) | (refine y91 ?_) | (refine y989 ?_) | (refine y942 ?_) | (refine y985 ?_) | (refine y983 ?_) | ((fail_if_success with_reducible refine ga9 ?_); go_step))
      go_roundg (gk - 1)
      case measure => omega
      case rel => exact ⟨k + 1, r + 1, m, o, a', c', by omega, by go_num, by go_num, rfl, by omega, HO, HA2, hS⟩
    · rw [if_neg h0] at ha
      have HA2 := hid ha
      clear ha
      repeat' (first
       | (refine y945 ?_) | (refine y91 ?_) | (refine y989 ?_) | (refine y942 ?_) | (refine y985 ?_) | ((fail_if_success with_reducible refine ga9 ?_); go_step))
      obtain ⟨gk1, hgk1⟩ : ∃ x, x = gk := ⟨_, rfl⟩
      subst hgk1
      go_loopg [5, 6] r (fun gk ov rv w => ∃ (m : Nat) (o : List Tok) (a' : Option Addr) (c' : Nat), rv = .int .i64 gk ∧ ov = .slice a' m c' ∧ m + gk ≤ k + 1 ∧ Hid (o.length = m) ∧ Hid (all = o ++ (List.replicate (gk / 16) longT ++ (tok (gk % 16) n :: tks 0 (z.drop (k + 2))))) ∧ St w0 w [own 69 3 a' m c' ((flt o).map (Value.int .i64)), arr g3 64 z])
      case atStart => exact ⟨m, o, a', c', rfl, rfl, hmr, HO, HA2, hS⟩
      case round =>
       clear hS HO HA2
       obtain ⟨m, o, a', c', rfl, rfl, hmr, HO, HA2, hS⟩ := hrel
       by_cases hbig : 15 < gk
       · have HA3 : Hid (all = (o ++ [longT]) ++ (List.replicate ((gk - 16) / 16) longT ++ (tok ((gk - 16) % 16) n :: tks 0 (z.drop (k + 2))))) := hid (by
          rw [HA2.out, show gk / 16 = (gk - 16) / 16 + 1 by omega, show gk % 16 = (gk - 16) % 16 by omega, List.replicate_succ]; simp)
         have HF := hid (show flt (o ++ [longT]) = flt o ++ [240, 0, 0] from flt_snoc o longT)
         clear HA2
         repeat' (first
          | (refine y91 ?_) | (refine y987 ?_) | (refine y994 ?_) | ((with_reducible refine gs9 32 ?_); (refine wvv9 (V.build (vs := [(0, _)]) rfl (bl69_0 _)) ?_; go_step)) | ((with_reducible refine gs9 33 ?_); (refine wl9 ?_; apply wp_buildSlice1 (o := ⟨some 33, _, _, _, _, _⟩) hS 100 1 _ rfl 69 3 24 el100 _ _; (case hvs => (repeat (first | exact Parts.nil | (apply Parts.agg; (rfl); (rfl)) | (apply Parts.one; exact isv9; (rfl); (rfl))))); (case hn => rfl); (case hn0 => decide); (case hns => decide); clear hS; intro g33 w hS; simp only [List.cons_append, List.nil_append] at hS; refine put_move ?_; go_step)) | ((with_reducible refine gs9 34 ?_); (refine wl9 ?_; apply wp_append (o := ⟨some 34, _, _, _, _, _⟩) hS _ _ 100 rfl 69 3 24 el100 _ _ _ _ rfl; (case hp => exact pl9); (case hx => exact rfl); (case hm => (first | exact hS.slBlk pl9 (by rfl) (by decide) | exact hS.sl pl9 | with_reducible assumption | exact Sl.ext (by with_reducible assumption) hS.1 | exact Sl.nil _ _ | exact Sl.ext (by assumption) hS.1 | assumption)); (case h1 => (first | exact oneAll rfl | exact oneMap _ _ | (intro u hu; cases hu))); (case h63 => unfold maxLen; omega); (case hb => omega); clear hS; intro ad34 c34 w hS; (first | simp only [mapk1] at hS | simp only [mapk2] at hS | simp only [mapk3] at hS | simp only [mapk4] at hS | simp only [mapkl] at hS | skip); refine put_move ?_; go_step)) | ((fail_if_success with_reducible refine ga9 ?_); go_step))
         go_roundg (gk - 16)
         case measure => omega
         case rel => exact ⟨m + 1, o ++ [longT], ad34, c34, by go_num, rfl, by omega, hid (by rw [List.length_append, HO.out]; rfl), HA3, (by rw [HF.out]; exact hS.sub sb9)⟩
       · have HA3 : Hid (all = (o ++ [tok gk n]) ++ tks 0 (z.drop (k + 2))) := hid (by
          rw [HA2.out, show gk / 16 = 0 by omega, show gk % 16 = gk by omega]; simp)
         have HF := hid (flt_snoc o (tok gk n))
         clear HA2
         repeat' (first
          | ((with_reducible refine gt9 _ (.call ⟨.value (.func 89), _, _⟩) ?_); refine wpl_call (f := 89) Tryd.call89 kr9 ?_; refine ⟨_, (token_any _ gk n (by omega) (by omega) (by omega)), ?_⟩; rintro e w ⟨rfl, hE⟩; replace hS := hS.ext hE; clear hE; refine ⟨_, rfl, ?_⟩; refine put_move ?_; go_step) | (refine y91 ?_) | (refine y987 ?_) | (refine y983 ?_) | ((with_reducible refine gs9 39 ?_); (refine wl9 ?_; apply wp_buildSlice1 (o := ⟨some 39, _, _, _, _, _⟩) hS 100 1 _ rfl 69 3 24 el100 _ _; (case hvs => (repeat (first | exact Parts.nil | (apply Parts.agg; (rfl); (rfl)) | (apply Parts.one; exact isv9; (rfl); (rfl))))); (case hn => rfl); (case hn0 => decide); (case hns => decide); clear hS; intro g39 w hS; simp only [List.cons_append, List.nil_append] at hS; refine put_move ?_; go_step)) | ((with_reducible refine gs9 40 ?_); (refine wl9 ?_; apply wp_append (o := ⟨some 40, _, _, _, _, _⟩) hS _ _ 100 rfl 69 3 24 el100 _ _ _ _ rfl; (case hp => exact pl9); (case hx => exact rfl); (case hm => (first | exact hS.slBlk pl9 (by rfl) (by decide) | exact hS.sl pl9 | with_reducible assumption | exact Sl.ext (by with_reducible assumption) hS.1 | exact Sl.nil _ _ | exact Sl.ext (by assumption) hS.1 | assumption)); (case h1 => (first | exact oneAll rfl | exact oneMap _ _ | (intro u hu; cases hu))); (case h63 => unfold maxLen; omega); (case hb => omega); clear hS; intro ad40 c40 w hS; (first | simp only [mapk1] at hS | simp only [mapk2] at hS | simp only [mapk3] at hS | simp only [mapk4] at hS | simp only [mapkl] at hS | skip); refine put_move ?_; go_step)) | ((fail_if_success with_reducible refine ga9 ?_); go_step))
         go_roundg (gk1 - 1)
         case measure => omega
         case rel => exact ⟨k + 1, 0, m + 1, o ++ [tok gk n], ad40, c40, by omega, by go_num, rfl, rfl, by omega, hid (by rw [List.length_append, HO.out]; rfl), HA3, (by rw [HF.out]; exact hS.sub sb9)⟩
  · obtain rfl : k = 63 := by omega
    have ha := HA.out
    rw [show z.drop (63 + 1) = [] by rw [List.drop_eq_nil_iff, hzl.out]; omega, tks] at ha
    by_cases h0 : 0 < r
    · rw [if_pos h0] at ha
      have HL := hid (show all.length = m + 1 by rw [ha, List.length_append, HO.out]; rfl)
      have HF := hid (show flt all = flt o ++ [0, 0, 0] by rw [ha, flt_app]; rfl)
      clear ha HA
      repeat' (first
       | (refine y91 ?_) | (refine y989 ?_) | (refine y987 ?_) | ((with_reducible refine gs9 45 ?_); (refine wvv9 (V.build (vs := [(0, _)]) rfl (bl69_0 _)) ?_; go_step)) | ((with_reducible refine gs9 46 ?_); (refine wl9 ?_; apply wp_buildSlice1 (o := ⟨some 46, _, _, _, _, _⟩) hS 100 1 _ rfl 69 3 24 el100 _ _; (case hvs => (repeat (first | exact Parts.nil | (apply Parts.agg; (rfl); (rfl)) | (apply Parts.one; exact isv9; (rfl); (rfl))))); (case hn => rfl); (case hn0 => decide); (case hns => decide); clear hS; intro g46 w hS; simp only [List.cons_append, List.nil_append] at hS; refine put_move ?_; go_step)) | ((with_reducible refine gs9 47 ?_); (refine wl9 ?_; apply wp_append (o := ⟨some 47, _, _, _, _, _⟩) hS _ _ 100 rfl 69 3 24 el100 _ _ _ _ rfl; (case hp => exact pl9); (case hx => exact rfl); (case hm => (first | exact hS.slBlk pl9 (by rfl) (by decide) | exact hS.sl pl9 | with_reducible assumption | exact Sl.ext (by with_reducible assumption) hS.1 | exact Sl.nil _ _ | exact Sl.ext (by assumption) hS.1 | assumption)); (case h1 => (first | exact oneAll rfl | exact oneMap _ _ | (intro u hu; cases hu))); (case h63 => unfold maxLen; omega); (case hb => omega); clear hS; intro ad47 c47 w hS; (first | simp only [mapk1] at hS | simp only [mapk2] at hS | simp only [mapk3] at hS | simp only [mapk4] at hS | simp only [mapkl] at hS | skip); refine put_move ?_; go_step)) | ((fail_if_success with_reducible refine ga9 ?_); go_step))
      go_ret
      refine ⟨ad47, c47, (by rw [HL.out]; first | done | rfl), ?_⟩
      rw [HL.out, HF.out]
      exact hS.sub sb9
    · rw [if_neg h0, List.append_nil] at ha
      have HL := hid (show all.length = m by rw [ha, HO.out])
      have HF := hid (show flt all = flt o by rw [ha])
      clear ha HA
      repeat' (first
       | (refine y91 ?_) | (refine y989 ?_) | (refine y987 ?_) | ((fail_if_success with_reducible refine ga9 ?_); go_step))
      go_ret
      refine ⟨a', c', (by rw [HL.out]; first | done | rfl), ?_⟩
      rw [HL.out, HF.out]
      exact hS.sub sb9
def blkIn (l : List Int) : Bool := allIn l (-2047) 2047
def tokE (before : Int) (l : List Int) : Int := if isC before = true ∧ blkIn l = true then 0 else 1
def tokL (before : Int) (l : List Int) : List Tok := if tokE before l = 0 then toksOf before (zto l) else []
theorem tokE_ok {before : Int} {l : List Int} (hl : l.length = 64) (h : tokE before l = 0) : (-2047 ≤ before ∧ before ≤ 2047) ∧ ∀ i, i < 64 → -2047 ≤ nth l i ∧ nth l i ≤ 2047 := by
 unfold tokE at h
 split at h
 · rename_i h1
   exact ⟨(isC_iff _).1 h1.1, fun i hi => (allIn_iff l (-2047) 2047).1 h1.2 i (by omega)⟩
 · cases h
theorem tokE_of {before : Int} {l : List Int} (hl : l.length = 64) (h : -2047 ≤ before ∧ before ≤ 2047) (h2 : ∀ i, i < 64 → -2047 ≤ nth l i ∧ nth l i ≤ 2047) : tokE before l = 0 := by
 unfold tokE
 rw [if_pos ⟨(isC_iff _).2 h, (allIn_iff l (-2047) 2047).2 fun i hi => h2 i (by omega)⟩]
theorem notCoef_any (n : Int) (w : World) : Calls Tryd.prog 77 #[.int .i64 n] w fun e w' => e = .returned (.bool (decide (n < -2047) || decide (2047 < n))) ∧ w = w' := by
 go_enter Tryd.func77, Tryd.ntmps77
 repeat' (first
  | ((with_reducible refine gt9 _ (.call ⟨.value (.func 72), _, _⟩) ?_); refine wpl_call (f := 72) Tryd.call72 kr9 ?_; refine ⟨_, (isCoef_any n _), ?_⟩; rintro e w' ⟨rfl, rfl⟩; refine ⟨_, rfl, ?_⟩; refine put_move ?_; go_step) | (refine y91 ?_) | (refine y9143 ?_) | ((fail_if_success with_reducible refine ga9 ?_); go_step))
 all_goals (go_ret; exact ⟨ret_bool (by rw [Bool.eq_iff_iff]; unfold isC; simp <;> omega), rfl⟩)
set_option maxRecDepth 100000 in
set_option maxHeartbeats 4000000 in
theorem tokensOf_any (w0 : World) (before : Int) (l : List Int) (hl : Len l 64) :
 Calls Tryd.prog 57 #[.int .i64 before, .agg (iv l)] w0 fun e w => ∃ ad c, e = .returned (.tuple #[.slice ad (tokL before l).length c, .int .i64 (tokE before l)]) ∧ St w0 w [own 69 3 ad (tokL before l).length c ((flt (tokL before l)).map (Value.int .i64))] := by
 have hll : l.length = 64 := hl
 have hS := St.start w0
 have hk := Tryd.call77
 obtain ⟨b1, hb1⟩ : ∃ b, isC before = b := ⟨_, rfl⟩
 obtain ⟨b2, hb2⟩ : ∃ b, blkIn l = b := ⟨_, rfl⟩
 have hnot : (l.any fun n => decide (n < -2047) || decide (2047 < n)) = !b2 := by rw [← hb2, blkIn, allIn, Bool.not_not]
 have HB1 := hid hb1
 have HN := hid hnot
 by_cases hbad : b1 = true ∧ b2 = true
 case neg =>
  have HE := hid (show tokE before l = 1 by unfold tokE; rw [if_neg (by rw [hb1, hb2]; exact hbad)])
  have HL := hid (show tokL before l = [] by unfold tokL; rw [if_neg (by rw [HE.out]; decide)])
  clear hb1 hb2 hnot
  cases b1
  case false =>
   clear hbad HN
   go_enter Tryd.func57, Tryd.ntmps57
   repeat' (first
    | ((with_reducible refine gt9 _ (.call ⟨.value (.func 72), _, _⟩) ?_); refine wpl_call (f := 72) Tryd.call72 kr9 ?_; refine ⟨_, (isCoef_any before _), ?_⟩; rintro e w' ⟨rfl, rfl⟩; rw [HB1.out]; refine ⟨_, rfl, ?_⟩; refine put_move ?_; go_step) | go_skip | (refine y91 ?_) | (refine y9138 ?_) | ((with_reducible refine gs9 8 ?_); (refine wplB _ (V.not rfl) kr9 (fun hB => ?_) (fun hB => ?_) <;> (try (have hF : False := (absurd hB (by decide)); cases hF)) <;> go_step)) | ((with_reducible refine gs9 3 ?_); (refine wl9 ?_; apply wp_boxA (o := ⟨some 3, _, _, _, _, _⟩) hS 52 _ rfl _ 64 rfl; (case hn => assumption); clear hS; intro g3 w hS; refine put_move ?_; go_step)) | ((fail_if_success with_reducible refine ga9 ?_); go_step))
   refine ret_all (xs := [_, _]) rfl (.cons (OneRes.tmp rfl) (.cons (OneRes.tmp rfl) (.nil))) (by simp) rfl ?_
   refine ⟨none, 0, (by rw [HE.out, HL.out]; first | done | rfl), ?_⟩
   rw [HL.out]
   exact (St.of_ext hS.1).nil _ _
  case true =>
   have hb2 : b2 = false := by cases b2 <;> simp_all
   subst hb2
   clear hbad
   go_enter Tryd.func57, Tryd.ntmps57
   repeat' (first
    | ((with_reducible refine gt9 _ (.call ⟨.value (.func 72), _, _⟩) ?_); refine wpl_call (f := 72) Tryd.call72 kr9 ?_; refine ⟨_, (isCoef_any before _), ?_⟩; rintro e w' ⟨rfl, rfl⟩; rw [HB1.out]; refine ⟨_, rfl, ?_⟩; refine put_move ?_; go_step) | ((with_reducible refine gt9 _ (.call ⟨.value (.func 62), _, _⟩) ?_); refine wpl_call (f := 62) Tryd.call62 kr9 ?_; refine ⟨_, (containsFunc_any _ _ l (hS.isl pl9 (by decide)) 77 #[] (fun n => decide (n < -2047) || decide (2047 < n)) hk (fun n => notCoef_any n _)), ?_⟩; rintro e w' ⟨rfl, rfl⟩; rw [HN.out]; refine ⟨_, rfl, ?_⟩; refine put_move ?_; go_step) | (refine y91 ?_) | (refine y9137 ?_) | ((with_reducible refine gs9 8 ?_); (refine wplB _ (V.not rfl) kr9 (fun hB => ?_) (fun hB => ?_) <;> (try (have hF : False := (absurd hB (by decide)); cases hF)) <;> go_step)) | (refine y9141 ?_) | ((with_reducible refine gs9 3 ?_); (refine wl9 ?_; apply wp_boxA (o := ⟨some 3, _, _, _, _, _⟩) hS 52 _ rfl _ 64 rfl; (case hn => assumption); clear hS; intro g3 w hS; refine put_move ?_; go_step)) | ((fail_if_success with_reducible refine ga9 ?_); go_step))
   refine ret_all (xs := [_, _]) rfl (.cons (OneRes.tmp rfl) (.cons (OneRes.tmp rfl) (.nil))) (by simp) rfl ?_
   refine ⟨none, 0, (by rw [HE.out, HL.out]; first | done | rfl), ?_⟩
   rw [HL.out]
   exact (St.of_ext hS.1).nil _ _
 · obtain ⟨rfl, rfl⟩ := hbad
   have HE := hid (show tokE before l = 0 by unfold tokE; rw [if_pos ⟨hb1, hb2⟩])
   have HL := hid (show tokL before l = toksOf before (zto l) by unfold tokL; rw [if_pos HE.out])
   obtain ⟨q1, q2⟩ := tokE_ok hll HE.out
   have Q2 := hid q2
   clear hb1 hb2 hnot q2
   go_enter Tryd.func57, Tryd.ntmps57
   repeat' (first
    | ((with_reducible refine gt9 _ (.call ⟨.value (.func 72), _, _⟩) ?_); refine wpl_call (f := 72) Tryd.call72 kr9 ?_; refine ⟨_, (isCoef_any before _), ?_⟩; rintro e w' ⟨rfl, rfl⟩; rw [HB1.out]; refine ⟨_, rfl, ?_⟩; refine put_move ?_; go_step) | ((with_reducible refine gt9 _ (.call ⟨.value (.func 62), _, _⟩) ?_); refine wpl_call (f := 62) Tryd.call62 kr9 ?_; refine ⟨_, (containsFunc_any _ _ l (hS.isl pl9 (by decide)) 77 #[] (fun n => decide (n < -2047) || decide (2047 < n)) hk (fun n => notCoef_any n _)), ?_⟩; rintro e w' ⟨rfl, rfl⟩; rw [HN.out]; refine ⟨_, rfl, ?_⟩; refine put_move ?_; go_step) | ((with_reducible refine gt9 _ (.call ⟨.value (.func 75), _, _⟩) ?_); refine wpl_call (f := 75) Tryd.call75 kr9 ?_; refine ⟨_, (tokens_any _ before l hl q1 Q2.out), ?_⟩; rintro e w ⟨ad2, c2, rfl, hS2⟩; replace hS := hS.call1 hS2; clear hS2; refine ⟨_, rfl, ?_⟩; refine put_move ?_; go_step) | (refine y91 ?_) | (refine y9137 ?_) | ((with_reducible refine gs9 8 ?_); (refine wplB _ (V.not rfl) kr9 (fun hB => ?_) (fun hB => ?_) <;> (try (have hF : False := (absurd hB (by decide)); cases hF)) <;> go_step)) | (refine y9141 ?_) | ((with_reducible refine gs9 3 ?_); (refine wl9 ?_; apply wp_boxA (o := ⟨some 3, _, _, _, _, _⟩) hS 52 _ rfl _ 64 rfl; (case hn => assumption); clear hS; intro g3 w hS; refine put_move ?_; go_step)) | (refine y9127 ?_) | ((fail_if_success with_reducible refine ga9 ?_); go_step))
   refine ret_all (xs := [_, _]) rfl (.cons (OneRes.tmp rfl) (.cons (OneRes.tmp rfl) (.nil))) (by simp) rfl ?_
   refine ⟨ad2, c2, (by rw [HE.out, HL.out]; first | done | rfl), ?_⟩
   rw [HL.out]
   exact hS.sub sb9

theorem outside_any (n lo hi : Int) (w : World) : Calls Tryd.prog 78 #[.int .i64 n, .int .i64 lo, .int .i64 hi] w fun e w' => e = .returned (.bool (decide (n < lo) || decide (hi < n))) ∧ w = w' := by
 go_enter Tryd.func78, Tryd.ntmps78
 repeat' (first
  | go_skip | ((first | (with_reducible refine mv9 ?_) | (with_reducible refine as9 ?_)); (first | go_big_want | go_step); go_step) | ((with_reducible refine gt9 _ (.pick _ _ _) ?_); first | (refine wplPickT rfl kr9 ?_; go_step) | (refine wplPickF rfl kr9 ?_; go_step)) | ((with_reducible refine gs9 9 ?_); (refine wplD _ (V.lss rfl rfl) kr9 (fun hB => ?_) (fun hB => ?_) <;> (try (have hF : False := (by omega); cases hF)) <;> go_step)) | ((with_reducible refine gt9 _ (.binOp .gtr _ _ _ _) ?_); (refine wvv9 (V.gtr rfl rfl) ?_; go_step)) | ((fail_if_success with_reducible refine ga9 ?_); go_step))
 all_goals (go_ret; exact ⟨ret_bool (by rw [Bool.eq_iff_iff]; simp <;> omega), rfl⟩)
theorem power_any (k P : Nat) (w : World) (hk : k ≤ 40) (hP : 2 ^ k = P) : Calls Tryd.prog 111 #[.int .i64 k] w fun e w' => e = .returned (.int .i64 (P : Int)) ∧ w = w' := by
 have HP : Hid ((2 : Int) ^ k = ((P : Nat) : Int)) := hid (by rw [← hP]; push_cast; rfl)
 have h1 : P ≤ 1099511627776 := by rw [← hP]; exact Nat.pow_le_pow_right (n := 2) (j := 40) (by omega) hk
 clear hP
 go_enter Tryd.func111, Tryd.ntmps111
 repeat' (first
  | ((with_reducible refine gs9 4 ?_); (refine wplV (.int _ (((P : Nat) : Int))) (V.as (V.shl1 rfl rfl isn9 (by omega)) (by exact HP.out)) rfl ?_; go_step)) | (refine y91 ?_) | ((fail_if_success with_reducible refine ga9 ?_); go_step))
 go_ret
 exact ⟨rfl, rfl⟩
theorem blen_iff (n k : Nat) (h : k = 0 ∨ 2 ^ (k - 1) ≤ n) (h2 : n < 2 ^ k) : blen n = k := by
 have h3 := blen_spec n
 rcases h with rfl | h
 · have : n = 0 := by omega
   rw [this]; rfl
 · by_cases hk : k = 0
   · subst hk
     have : n = 0 := by omega
     rw [this]; rfl
   · have hn : 0 < n := by have := Nat.two_pow_pos (k - 1); omega
     have h4 := h3.2 hn
     have a1 : k - 1 < blen n := by
      have : 2 ^ (k - 1) < 2 ^ blen n := by omega
      exact (Nat.pow_lt_pow_iff_right (by omega)).1 this
     have a2 : blen n - 1 < k := by
      have : 2 ^ (blen n - 1) < 2 ^ k := by omega
      exact (Nat.pow_lt_pow_iff_right (by omega)).1 this
     omega
set_option maxRecDepth 100000 in
set_option maxHeartbeats 2000000 in
theorem refBits_any (n : Int) (w0 : World) (h0 : -4096 < n) (h1 : n < 4096) :
 Calls Tryd.prog 108 #[.int .i64 n] w0 fun e w => e = .returned (.tuple #[.int .i64 (sz n), .int .i64 (sv n), .int .i64 0]) ∧ w0 = w := by
 obtain ⟨m, hm⟩ : ∃ m : Nat, m = n.natAbs := ⟨_, rfl⟩
 have hmax : max n (-n) = (m : Int) := by omega
 have hm4 : m < 4096 := by omega
 have HM := hid hm
 have HMX := hid hmax
 have HV := hid (show sv n = if n < 0 then n + (2 ^ sz n - 1 : Nat) else n from rfl)
 have HB := hid (fun k h1 h2 => show sz n = k by unfold sz; rw [← hm]; exact blen_iff m k h1 h2)
 clear hm hmax
 obtain ⟨W, hW⟩ : ∃ W, W = w0 := ⟨_, rfl⟩
 subst hW
 go_enter Tryd.func108, Tryd.ntmps108
 repeat' (first
  | ((with_reducible refine gt9 _ (.call ⟨.value (.func 78), _, _⟩) ?_); refine wpl_call (f := 78) Tryd.call78 kr9 ?_; refine ⟨_, (outside_any n (-4095) 4095 _), ?_⟩; rintro e w' ⟨rfl, rfl⟩; refine ⟨_, rfl, ?_⟩; refine put_move ?_; go_step) | (refine y91 ?_) | ((fail_if_success with_reducible refine ga9 ?_); go_step))
 go_loopg [5] 13 (fun gk kv w => ∃ k : Nat, gk + k = 13 ∧ kv = .int .i64 k ∧ Hid (k = 0 ∨ 2 ^ (k - 1) ≤ m) ∧ w = W)
 case atStart => exact ⟨0, rfl, rfl, hid (.inl rfl), rfl⟩
 case round =>
  obtain ⟨k, hk, rfl, HKL, rfl⟩ := hrel
  have hk12 : k ≤ 12 := by
   by_cases h : k = 13
   · have := HKL.out; rw [h] at this; omega
   · omega
  obtain ⟨P, hP⟩ : ∃ P, 2 ^ k = P := ⟨_, rfl⟩
  have HP := hid hP
  have hP2 : P ≤ 4096 := by rw [← hP]; exact Nat.pow_le_pow_right (n := 2) (j := 12) (by omega) hk12
  have hP1 : 1 ≤ P := by rw [← hP]; exact Nat.two_pow_pos _
  clear hP
  have hmx : max n (-n) = (m : Int) := HMX.out
  by_cases hlt : P ≤ m
  · skip
    repeat' (first
     | ((with_reducible refine gs9 13 ?_); refine wpl_call (f := 111) Tryd.call111 kr9 ?_; refine ⟨_, (power_any k P _ (by omega) HP.out), ?_⟩; rintro e w' ⟨rfl, rfl⟩; refine ⟨_, rfl, ?_⟩; refine put_move ?_; go_step) | (refine y91 ?_) | (refine y9142 ?_) | (refine y9103 ?_) | (refine y986 ?_) | (refine y983 ?_) | ((fail_if_success with_reducible refine ga9 ?_); go_step))
    all_goals (try (have hF : False := (by omega); cases hF))
    go_roundg (gk - 1)
    case measure => omega
    case rel => exact ⟨k + 1, by omega, by go_num, hid (.inr (by rw [Nat.add_sub_cancel, HP.out]; exact hlt)), rfl⟩
  · have hz := HB.out k HKL.out (by rw [HP.out]; omega)
    have hv := HV.out
    rw [hz, HP.out] at hv
    have HZ := hid hz
    have HV2 := hid hv
    clear hz hv
    by_cases hn : n < 0
    · skip
      repeat' (first
       | ((with_reducible refine gs9 13 ?_); refine wpl_call (f := 111) Tryd.call111 kr9 ?_; refine ⟨_, (power_any k P _ (by omega) HP.out), ?_⟩; rintro e w' ⟨rfl, rfl⟩; refine ⟨_, rfl, ?_⟩; refine put_move ?_; go_step) | (refine y9144 ?_) | (refine y9142 ?_) | (refine y9103 ?_) | (refine y986 ?_) | ((fail_if_success with_reducible refine ga9 ?_); go_step))
      all_goals (try (have hF : False := (by omega); cases hF))
      repeat' (first
       | ((with_reducible refine gs9 22 ?_); refine wpl_call (f := 111) Tryd.call111 kr9 ?_; refine ⟨_, (power_any k P _ (by omega) HP.out), ?_⟩; rintro e w' ⟨rfl, rfl⟩; refine ⟨_, rfl, ?_⟩; refine put_move ?_; go_step) | (refine y91 ?_) | (refine y989 ?_) | (refine y983 ?_) | (refine y994 ?_) | ((fail_if_success with_reducible refine ga9 ?_); go_step))
      refine bodyPost_ret (results_tmp3 rfl _ _ _) rfl ?_
      refine ⟨?_, rfl⟩
      rw [HZ.out, HV2.out, if_pos hn, show n + ((P - 1 : Nat) : Int) = n + (P : Int) - 1 by omega]
      rfl
    · skip
      repeat' (first
       | ((with_reducible refine gs9 13 ?_); refine wpl_call (f := 111) Tryd.call111 kr9 ?_; refine ⟨_, (power_any k P _ (by omega) HP.out), ?_⟩; rintro e w' ⟨rfl, rfl⟩; refine ⟨_, rfl, ?_⟩; refine put_move ?_; go_step) | (refine y9144 ?_) | (refine y9142 ?_) | (refine y9103 ?_) | (refine y986 ?_) | ((fail_if_success with_reducible refine ga9 ?_); go_step))
      all_goals (try (have hF : False := (by omega); cases hF))
      repeat' (first
       | (refine y91 ?_) | (refine y989 ?_) | ((fail_if_success with_reducible refine ga9 ?_); go_step))
      refine bodyPost_ret (results_tmp3 rfl _ _ _) rfl ?_
      refine ⟨?_, rfl⟩
      rw [HZ.out, HV2.out, if_neg hn]
      rfl
set_option maxRecDepth 100000 in
set_option maxHeartbeats 1000000 in
theorem refToken_any (w0 : World) (r : Nat) (n : Int) (hr : r ≤ 15) (h0 : -4096 < n) (h1 : n < 4096) :
 Calls Tryd.prog 99 #[.int .i64 r, .int .i64 n] w0 fun e w => e = .returned (.agg #[.int .i64 (tok r n).1, .int .i64 (tok r n).2.1, .int .i64 (tok r n).2.2]) ∧ Ext w0 w := by
 have hs := sz_le n ⟨h0, h1⟩
 have HT := hid (show tok r n = (((r * 16 + sz n : Nat) : Int), (sz n : Int), sv n) from rfl)
 obtain ⟨k, hk⟩ : ∃ k, sz n = k := ⟨_, rfl⟩
 obtain ⟨v, hv⟩ : ∃ v, sv n = v := ⟨_, rfl⟩
 rw [hk, hv] at HT
 have HK := hid hk
 have HV := hid hv
 rw [hk] at hs
 clear hk hv
 have hS := St.start w0
 go_enter Tryd.func99, Tryd.ntmps99
 repeat' (first
  | ((with_reducible refine gt9 _ (.call ⟨.value (.func 108), _, _⟩) ?_); refine wpl_call (f := 108) Tryd.call108 kr9 ?_; refine ⟨_, (refBits_any n _ h0 h1), ?_⟩; rintro e w' ⟨rfl, rfl⟩; rw [HK.out, HV.out]; refine ⟨_, rfl, ?_⟩; refine put_move ?_; go_step) | ((with_reducible refine gs9 17 ?_); (refine wplV (.int _ (((r * 16 + k : Nat) : Int))) (V.as (V.addI rfl rfl (by omega)) (by omega)) rfl ?_; go_step)) | (refine y91 ?_) | (refine y9104 ?_) | ((with_reducible refine gt9 _ (.binOp .mul _ _ _ _) ?_); (refine wvv9 (V.mulI rfl rfl (by omega)) ?_; go_step)) | (refine y939 ?_) | ((with_reducible refine gs9 4 ?_); (refine wl9 ?_; apply wp_alloc (o := ⟨some 4, _, _, _, _, _⟩) hS 69 rfl (.agg #[.int .i64 0, .int .i64 0, .int .i64 0]) [.int .i64 0, .int .i64 0, .int .i64 0] (fun w => Tryd.zeroValue69 w) rfl; clear hS; intro g4 w hS; refine put_move ?_; go_step)) | ((with_reducible refine gt9 _ (.store 69 _ _) ?_); (refine wl9 ?_; apply wp_storeG hS 69 _ _ rfl _ rfl 3 (row_of rfl) _ _; (case hp => exact pl9); (case hy => rfl); (case hn => rfl); (case hn' => rfl); (case hv => rfl); (case hd => exact rfl); clear hS; intro w hS)) | ((fail_if_success with_reducible refine ga9 ?_); go_step))
 refine ret_one rfl (OneRes.blk hS rfl (row_of (n := 3) rfl) pl9 rfl) rfl ?_
 exact ⟨(by rw [HT.out]; first | done | rfl), hS.1⟩

theorem outside_in (n lo hi : Int) (w : World) (h : lo ≤ n ∧ n ≤ hi) : Calls Tryd.prog 78 #[.int .i64 n, .int .i64 lo, .int .i64 hi] w fun e w' => e = .returned (.bool false) ∧ w = w' := by
 refine (outside_any n lo hi w).mono ?_
 rintro e w' ⟨rfl, rfl⟩
 exact ⟨ret_bool (by simp; omega), rfl⟩
theorem outside_out (n lo hi : Int) (w : World) (h : n < lo ∨ hi < n) : Calls Tryd.prog 78 #[.int .i64 n, .int .i64 lo, .int .i64 hi] w fun e w' => e = .returned (.bool true) ∧ w = w' := by
 refine (outside_any n lo hi w).mono ?_
 rintro e w' ⟨rfl, rfl⟩
 exact ⟨ret_bool (by simp; omega), rfl⟩
def zcell (s i : Nat) : List Int := let a := if s % 2 = 0 then 7 - i else i
 if a ≤ s ∧ s ≤ a + 7 then [((8 * a + (s - a) : Nat) : Int)] else []
def zslant (s : Nat) : Nat → List Int
 | 0 => []
 | i + 1 => zslant s i ++ zcell s i
def zslants : Nat → List Int
 | 0 => []
 | s + 1 => zslants s ++ zslant s 8
theorem zslants_all : zslants 15 = zi := by decide +kernel
theorem zslants_len : ∀ s, s < 16 → (zslants s).length ≤ 64 := by decide +kernel
theorem zslant_len : ∀ s, s < 15 → ∀ i, i < 9 → (zslants s ++ zslant s i).length ≤ 64 := by decide +kernel
set_option maxRecDepth 100000 in
set_option maxHeartbeats 4000000 in
theorem refOrder_any (w0 : World) : Calls Tryd.prog 107 #[] w0 fun e w => ∃ ad c, e = .returned (.slice ad 64 c) ∧ St w0 w [own 3 1 ad 64 c (zi.map (Value.int .i64))] := by
 have hS := St.start w0
 have HZL := hid zslant_len
 have HZL2 := hid zslants_len
 go_enter Tryd.func107, Tryd.ntmps107
 repeat' (first
  | (refine y91 ?_) | ((fail_if_success with_reducible refine ga9 ?_); go_step))
 replace hS := hS.nilk 3 1 .i64
 go_loopg [1, 6] 15 (fun gk ov kv w => ∃ (s m : Nat) (ad : Option Addr) (c : Nat), gk + s = 15 ∧ kv = .int .i64 s ∧ ov = .slice ad m c ∧ Hid ((zslants s).length = m) ∧ St w0 w [own 3 1 ad m c ((zslants s).map (Value.int .i64))])
 case atStart => exact ⟨0, 0, none, 0, rfl, rfl, rfl, hid rfl, hS⟩
 case round =>
  clear hS
  obtain ⟨s, m, ad, c, hs, rfl, rfl, HM, hS⟩ := hrel
  by_cases hlt : s < 15
  · skip
    repeat' (first
     | (refine y91 ?_) | (refine y989 ?_) | ((fail_if_success with_reducible refine ga9 ?_); go_step))
    obtain ⟨gk1, hgk1⟩ : ∃ x, x = gk := ⟨_, rfl⟩
    subst hgk1
    go_loopg [1, 9] 8 (fun gk ov kv w => ∃ (i m : Nat) (ad : Option Addr) (c : Nat), gk + i = 8 ∧ kv = .int .i64 i ∧ ov = .slice ad m c ∧ Hid ((zslants s ++ zslant s i).length = m) ∧ St w0 w [own 3 1 ad m c ((zslants s ++ zslant s i).map (Value.int .i64))])
    case atStart => exact ⟨0, m, ad, c, rfl, rfl, rfl, hid (by rw [show zslant s 0 = [] from rfl, List.append_nil]; exact HM.out), by rw [show zslant s 0 = [] from rfl, List.append_nil]; exact hS⟩
    case round =>
     clear hS
     obtain ⟨i, m2, ad2, c2, hi, rfl, rfl, HM2, hS⟩ := hrel
     by_cases hlt2 : i < 8
     · have hm64 : m2 ≤ 64 := by rw [← HM2.out]; exact HZL.out s hlt i (by omega)
       have HSt := hid (show zslants s ++ zslant s (i + 1) = zslants s ++ zslant s i ++ zcell s i by rw [zslant, List.append_assoc])
       obtain ⟨a, ha⟩ : ∃ a, (if s % 2 = 0 then 7 - i else i) = a := ⟨_, rfl⟩
       have hzc : zcell s i = if a ≤ s ∧ s ≤ a + 7 then [((8 * a + (s - a) : Nat) : Int)] else [] := by unfold zcell; rw [ha]
       obtain ⟨L, hL⟩ : ∃ L, zslants s ++ zslant s i = L := ⟨_, rfl⟩
       rw [hL] at HM2 hS HSt
       clear hL
       have h8 : (s % 2 = 0 ∧ a = 7 - i) ∨ (s % 2 = 1 ∧ a = i) := by
        by_cases h : s % 2 = 0
        · rw [if_pos h] at ha; exact .inl ⟨h, ha.symm⟩
        · rw [if_neg h] at ha; exact .inr ⟨by omega, ha.symm⟩
       clear ha
       by_cases hin : a ≤ s ∧ s ≤ a + 7
       · rw [if_pos hin] at hzc
         rw [hzc] at HSt
         clear hzc
         rcases h8 with h8 | h8
         all_goals
          repeat' (first
           | ((with_reducible refine gt9 _ (.call ⟨.value (.func 78), _, _⟩) ?_); refine wpl_call (f := 78) Tryd.call78 kr9 ?_; refine ⟨_, (outside_in _ _ _ _ (by omega)), ?_⟩; rintro e w' ⟨rfl, rfl⟩; refine ⟨_, rfl, ?_⟩; refine put_move ?_; go_step) | ((with_reducible refine gs9 17 ?_); (refine wplV (.int _ (((a : Nat) : Int))) (V.as (V.subI rfl rfl (by omega)) (by omega)) rfl ?_; go_step)) | ((with_reducible refine gs9 20 ?_); (refine wplV (.int _ (((s - a : Nat) : Int))) (V.as (V.subI rfl rfl (by omega)) (by omega)) rfl ?_; go_step)) | ((with_reducible refine gs9 28 ?_); (refine wplV (.int _ (((8 * a + (s - a) : Nat) : Int))) (V.as (V.addI rfl rfl (by omega)) (by omega)) rfl ?_; go_step)) | (refine y91 ?_) | (refine y989 ?_) | (refine y992 ?_) | (refine y985 ?_) | (refine y9143 ?_) | ((with_reducible refine gt9 _ (.binOp .mul _ _ _ _) ?_); (refine wvv9 (V.mulI rfl rfl (by omega)) ?_; go_step)) | (refine y983 ?_) | ((with_reducible refine gs9 29 ?_); (refine wl9 ?_; apply wp_buildSlice1 (o := ⟨some 29, _, _, _, _, _⟩) hS 24 1 _ rfl 3 1 8 el24 _ _; (case hvs => (repeat (first | exact Parts.nil | (apply Parts.agg; (rfl); (rfl)) | (apply Parts.one; exact isv9; (rfl); (rfl))))); (case hn => rfl); (case hn0 => decide); (case hns => decide); clear hS; intro g29 w hS; refine put_move ?_; go_step)) | ((with_reducible refine gs9 30 ?_); (refine wl9 ?_; apply wp_append (o := ⟨some 30, _, _, _, _, _⟩) hS _ _ 24 rfl 3 1 8 el24 _ _ _ _ rfl; (case hp => exact pl9); (case hx => exact rfl); (case hm => (first | exact hS.slBlk pl9 (by rfl) (by decide) | exact hS.sl pl9 | with_reducible assumption | exact Sl.ext (by with_reducible assumption) hS.1 | exact Sl.nil _ _ | exact Sl.ext (by assumption) hS.1 | assumption)); (case h1 => (first | exact oneAll rfl | exact oneMap _ _ | (intro u hu; cases hu))); (case h63 => unfold maxLen; omega); (case hb => omega); clear hS; intro ad30 c30 w hS; (first | simp only [mapk1] at hS | simp only [mapk2] at hS | simp only [mapk3] at hS | simp only [mapk4] at hS | simp only [mapkl] at hS | skip); refine put_move ?_; go_step)) | ((fail_if_success with_reducible refine ga9 ?_); go_step))
          all_goals (try (have hF : False := (by omega); cases hF))
          go_roundg (gk - 1)
          case measure => omega
          case rel => exact ⟨i + 1, m2 + 1, ad30, c30, by omega, by go_num, rfl, hid (by rw [HSt.out, List.length_append, HM2.out]; rfl), by rw [HSt.out]; exact hS.sub sb9⟩
       · rw [if_neg hin] at hzc
         rw [hzc, List.append_nil] at HSt
         clear hzc
         rcases h8 with h8 | h8
         all_goals
          repeat' (first
           | ((with_reducible refine gt9 _ (.call ⟨.value (.func 78), _, _⟩) ?_); refine wpl_call (f := 78) Tryd.call78 kr9 ?_; refine ⟨_, (outside_out _ _ _ _ (by omega)), ?_⟩; rintro e w' ⟨rfl, rfl⟩; refine ⟨_, rfl, ?_⟩; refine put_move ?_; go_step) | (refine y91 ?_) | (refine y989 ?_) | (refine y992 ?_) | (refine y985 ?_) | (refine y994 ?_) | (refine y9143 ?_) | (refine y983 ?_) | ((fail_if_success with_reducible refine ga9 ?_); go_step))
          all_goals (try (have hF : False := (by omega); cases hF))
          go_roundg (gk - 1)
          case measure => omega
          case rel => exact ⟨i + 1, m2, ad2, c2, by omega, by go_num, rfl, hid (by rw [HSt.out, HM2.out]), by rw [HSt.out]; exact hS⟩
     · obtain rfl : i = 8 := by omega
       repeat' (first
        | (refine y989 ?_) | ((fail_if_success with_reducible refine ga9 ?_); go_step))
       repeat' (first
        | (refine y9144 ?_) | (refine y983 ?_) | ((fail_if_success with_reducible refine ga9 ?_); go_step))
       go_roundg (gk1 - 1)
       case measure => omega
       case rel => exact ⟨s + 1, m2, ad2, c2, by omega, by go_num, rfl, HM2, hS⟩
  · obtain rfl : s = 15 := by omega
    rw [zslants_all] at HM hS
    obtain rfl : 64 = m := HM.out
    repeat' (first
     | (refine y91 ?_) | (refine y989 ?_) | ((fail_if_success with_reducible refine ga9 ?_); go_step))
    repeat' (first
     | ((fail_if_success with_reducible refine ga9 ?_); go_step))
    go_ret
    exact ⟨ad, c, rfl, hS.sub sb9⟩

end Go.Proofs.YtehbjhocgnfpmaaDoor