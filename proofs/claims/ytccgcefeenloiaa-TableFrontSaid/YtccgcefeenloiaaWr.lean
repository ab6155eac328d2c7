/- The writer of bits: what it holds, and the walks of its methods. -/
import Derived.Test.YtccgcefeenloiaaDraw
import Derived.Test.YtccgcefeenloiaaTy
import Derived.Test.YtccgcefeenloiaaBitsMath
import Derived.Test.YtccgcefeenloiaaTint
import Derived.Laws.Bits64b
namespace Go.Proofs.Ytccgcefeenloiaa
set_option maxRecDepth 100000
open Go.RowKit
theorem pow_lt (n m : Nat) (h : n ≤ m) : 2 ^ n ≤ 2 ^ m := Nat.pow_le_pow_right (by omega) h
theorem or_num (A v width : Nat) (hA : A < 128) (hw : width ≤ 24) (hv : v < 2 ^ width) : bits .or .u64 (IntKind.u64.wrap ((A : Int) * 2 ^ width)) (v : Int) = ((A * 2 ^ width + v : Nat) : Int) := by
  have h1 : A * 2 ^ width < 128 * 16777216 := by
    have h2 := pow_lt width 24 hw
    have h3 : A * 2 ^ width ≤ 127 * 2 ^ 24 := Nat.mul_le_mul (by omega) h2
    omega
  have h4 := Nat.lt_of_lt_of_le hv (pow_lt width 24 hw)
  have e1 : IntKind.u64.wrap ((A : Int) * 2 ^ width) = ((A * 2 ^ width : Nat) : Int) := by
    rw [show (A : Int) * 2 ^ width = ((A * 2 ^ width : Nat) : Int) by push_cast; rfl]
    generalize A * 2 ^ width = x at h1
    simp [IntKind.wrap, IntKind.signed, IntKind.bits]
    omega
  rw [e1, bits_or_u64_nat _ _ (by omega) (by omega)]
  congr 1
  rw [← Nat.shiftLeft_eq, Nat.shiftLeft_add_eq_or_of_lt hv]
theorem and_num (N R : Nat) (hN : N < 18446744073709551616) (hR : R < 64) : bits .and .u64 (N : Int) (IntKind.u64.wrap (IntKind.u64.wrap ((2 : Int) ^ R) - 1)) = ((N % 2 ^ R : Nat) : Int) := by
  have h1 : 2 ^ R ≤ 2 ^ 63 := pow_lt R 63 (by omega)
  have h0 : 0 < 2 ^ R := Nat.two_pow_pos R
  have e1 : IntKind.u64.wrap (IntKind.u64.wrap ((2 : Int) ^ R) - 1) = ((2 ^ R - 1 : Nat) : Int) := by
    rw [show (2 : Int) ^ R = ((2 ^ R : Nat) : Int) by push_cast; rfl]
    generalize 2 ^ R = x at h1 h0
    simp [IntKind.wrap, IntKind.signed, IntKind.bits]
    omega
  rw [e1, bits_and_u64_nat _ _ hN (by omega), Nat.and_two_pow_sub_one_eq_mod]
/-- A writer at block g that has taken the bits bs. -/
def wr (g : Nat) (bs : List Bool) : Res := bag fun x : Option Addr × Nat =>
  [blk g [.slice x.1 (bs.length / 8) x.2, .int .u64 (num (bs.drop (8 * (bs.length / 8))) : Nat), .int .i64 (bs.length % 8 : Nat)],
   own 5 1 x.1 (bs.length / 8) x.2 (bv (packs (bs.length / 8) bs))]
set_option maxHeartbeats 2000000 in
theorem put_any (W w : World) (rs rs' : List Res) (g : Nat) (bs : List Bool) (width value : Nat) (hS : St W w rs) (hp : Pull (wr g bs) rs rs') (hw : width ≤ 24) (hv : value < 2 ^ width) (hb : bs.length + width ≤ 1099511627776) :
    Calls Try.prog 33 #[.pointer (some ⟨g, 0, none⟩), .int .i64 width, .int .i64 value] w fun e w' => e = .returned (.tuple #[]) ∧ St W w' (wr g (bs ++ bitsOf width value) :: rs') := by
  obtain ⟨⟨ad, c⟩, hS⟩ := (hS.pull hp).open
  have hv24 : value < 16777216 := Nat.lt_of_lt_of_le hv (Nat.pow_le_pow_right (n := 2) (by omega) hw)
  have hrl : (bs.drop (8 * (bs.length / 8))).length = bs.length % 8 := by simp; omega
  have hr8 : num (bs.drop (8 * (bs.length / 8))) < 128 := by
    have h1 := num_lt (bs.drop (8 * (bs.length / 8)))
    rw [hrl] at h1
    exact Nat.lt_of_lt_of_le h1 (Nat.pow_le_pow_right (n := 2) (j := 7) (by omega) (by omega))
  dsimp only [List.cons_append, List.nil_append] at hS
  generalize hA : num (bs.drop (8 * (bs.length / 8))) = A at *
  generalize hM : bs.length % 8 = M at *
  have hm8 : M < 8 := by omega
  have HOR := hid (or_num A value width (by omega) hw hv)
  go_enter Try.func33, Try.ntmps33
  go_wp2_with (first
    | ((with_reducible show wpList _ _ _ (⟨_, .load 60 _, _, _, _, _⟩ :: _) _ _); first | (refine wpl rfl (wp_load1 hS 60 _ rfl _ _ rfl (one_of rfl) _ (by (repeat (first | with_reducible exact Pull.head | apply Pull.tail))) _ (by rfl) ?_); refine wpl_put (by (simp only [Act.put, List.setIfInBounds_toArray, List.set_cons_zero, List.set_cons_succ]); exact rfl) ?_) | (refine wpl rfl (wp_load1O hS 60 _ rfl _ _ rfl (one_of rfl) _ _ _ _ _ (by (repeat (first | with_reducible exact Pull.head | apply Pull.tail))) _ (by with_reducible assumption) ?_); refine wpl_put (by (simp only [Act.put, List.setIfInBounds_toArray, List.set_cons_zero, List.set_cons_succ]); exact rfl) ?_) | (refine wpl rfl (wp_loadW hS 60 _ rfl _ rfl (one_of rfl) _ (by with_reducible assumption) ?_); refine wpl_put (by (simp only [Act.put, List.setIfInBounds_toArray, List.set_cons_zero, List.set_cons_succ]); exact rfl) ?_))
    | ((with_reducible show wpList _ _ _ (⟨_, .store 60 _ _, _, _, _, _⟩ :: _) _ _); first | (refine wpl rfl (wp_store1 hS 60 _ _ rfl _ _ rfl (one_of rfl) _ _ (by (repeat (first | with_reducible exact Pull.head | apply Pull.tail))) _ (by (first | exact IsV.int rfl | exact IsV.bool rfl | exact IsV.slice rfl | exact IsV.pointer rfl | exact IsV.string rfl | exact IsV.map rfl | exact IsV.func rfl)) (by rfl) (by (repeat (first | with_reducible exact SetAt.head | apply SetAt.tail))) rfl ?_); clear hS; intro w hS))
    | ((with_reducible show wpList _ _ _ (⟨_, .load 3 _, _, _, _, _⟩ :: _) _ _); first | (refine wpl rfl (wp_load1A hS 3 _ rfl _ _ rfl (one_of rfl) _ _ (by (repeat (first | with_reducible exact Pull.head | apply Pull.tail))) (by omega) ?_); refine wpl_put (by (simp only [Act.put, List.setIfInBounds_toArray, List.set_cons_zero, List.set_cons_succ]); exact rfl) ?_) | (refine wpl rfl (wp_load1 hS 3 _ rfl _ _ rfl (one_of rfl) _ (by (repeat (first | with_reducible exact Pull.head | apply Pull.tail))) _ (by rfl) ?_); refine wpl_put (by (simp only [Act.put, List.setIfInBounds_toArray, List.set_cons_zero, List.set_cons_succ]); exact rfl) ?_) | (refine wpl rfl (wp_load1O hS 3 _ rfl _ _ rfl (one_of rfl) _ _ _ _ _ (by (repeat (first | with_reducible exact Pull.head | apply Pull.tail))) _ (by with_reducible assumption) ?_); refine wpl_put (by (simp only [Act.put, List.setIfInBounds_toArray, List.set_cons_zero, List.set_cons_succ]); exact rfl) ?_) | (refine wpl rfl (wp_loadW hS 3 _ rfl _ rfl (one_of rfl) _ (by with_reducible assumption) ?_); refine wpl_put (by (simp only [Act.put, List.setIfInBounds_toArray, List.set_cons_zero, List.set_cons_succ]); exact rfl) ?_))
    | ((with_reducible show wpList _ _ _ (⟨_, .store 3 _ _, _, _, _, _⟩ :: _) _ _); first | (refine wpl rfl (wp_store1A hS 3 _ _ rfl _ _ rfl (one_of rfl) _ _ (by (repeat (first | with_reducible exact Pull.head | apply Pull.tail))) _ (by rfl) (by omega) rfl ?_); clear hS; intro w hS) | (refine wpl rfl (wp_store1 hS 3 _ _ rfl _ _ rfl (one_of rfl) _ _ (by (repeat (first | with_reducible exact Pull.head | apply Pull.tail))) _ (by (first | exact IsV.int rfl | exact IsV.bool rfl | exact IsV.slice rfl | exact IsV.pointer rfl | exact IsV.string rfl | exact IsV.map rfl | exact IsV.func rfl)) (by rfl) (by (repeat (first | with_reducible exact SetAt.head | apply SetAt.tail))) rfl ?_); clear hS; intro w hS))
    | ((with_reducible show wpList _ _ _ (⟨_, .load 26 _, _, _, _, _⟩ :: _) _ _); first | (refine wpl rfl (wp_load1 hS 26 _ rfl _ _ rfl (one_of rfl) _ (by (repeat (first | with_reducible exact Pull.head | apply Pull.tail))) _ (by rfl) ?_); refine wpl_put (by (simp only [Act.put, List.setIfInBounds_toArray, List.set_cons_zero, List.set_cons_succ]); exact rfl) ?_) | (refine wpl rfl (wp_load1O hS 26 _ rfl _ _ rfl (one_of rfl) _ _ _ _ _ (by (repeat (first | with_reducible exact Pull.head | apply Pull.tail))) _ (by with_reducible assumption) ?_); refine wpl_put (by (simp only [Act.put, List.setIfInBounds_toArray, List.set_cons_zero, List.set_cons_succ]); exact rfl) ?_) | (refine wpl rfl (wp_loadW hS 26 _ rfl _ rfl (one_of rfl) _ (by with_reducible assumption) ?_); refine wpl_put (by (simp only [Act.put, List.setIfInBounds_toArray, List.set_cons_zero, List.set_cons_succ]); exact rfl) ?_))
    | ((with_reducible show wpList _ _ _ (⟨some 54, .buildSlice 26 _ _, _, _, _, _⟩ :: _) _ _); first | (refine wpl rfl (wp_buildSlice1 (o := ⟨some 54, _, _, _, _, _⟩) hS 26 1 _ rfl 5 1 1 el26 _ _ (by (repeat (first | exact Parts.nil | (apply Parts.agg; (rfl); (rfl)) | (apply Parts.one; (first | exact IsV.int rfl | exact IsV.bool rfl | exact IsV.slice rfl | exact IsV.pointer rfl | exact IsV.string rfl | exact IsV.map rfl | exact IsV.func rfl); (rfl); (rfl))))) (by rfl) (by decide) (by decide) ?_); clear hS; intro g54 w hS; refine wpl_put (by (simp only [Act.put, List.setIfInBounds_toArray, List.set_cons_zero, List.set_cons_succ]); exact rfl) ?_))
    | ((with_reducible show wpList _ _ _ (⟨_, .store 26 _ _, _, _, _, _⟩ :: _) _ _); first | (refine wpl rfl (wp_store1 hS 26 _ _ rfl _ _ rfl (one_of rfl) _ _ (by (repeat (first | with_reducible exact Pull.head | apply Pull.tail))) _ (by (first | exact IsV.int rfl | exact IsV.bool rfl | exact IsV.slice rfl | exact IsV.pointer rfl | exact IsV.string rfl | exact IsV.map rfl | exact IsV.func rfl)) (by rfl) (by (repeat (first | with_reducible exact SetAt.head | apply SetAt.tail))) rfl ?_); clear hS; intro w hS))
                                                            | (first | refine stop_load ?_ | refine stop_store ?_ | refine stop_alloc ?_ | refine stop_box ?_))
  rw [HOR.out] at hS
  have HN := hid (show num (bs.drop (8 * (bs.length / 8)) ++ bitsOf width value) = A * 2 ^ width + value by rw [num_append, bitsOf_len, num_bitsOf_lt _ _ hv, hA])
  have HT := hid (show (bs.drop (8 * (bs.length / 8)) ++ bitsOf width value).length = M + width by rw [List.length_append, bitsOf_len, hrl])
  generalize hT : M + width = T at *
  generalize hN : A * 2 ^ width + value = N at *
  generalize hq : bs.length / 8 = q at *
  have hBl : bs.length = 8 * q + M := by omega
  have hX : packs (q + 0) (bs ++ bitsOf width value) = packs q bs := packs_append q bs _ (by omega)
  rw [← hX] at hS
  rw [show ((M : Int) + (width : Int)) = ((T : Nat) : Int) by omega] at hS
  clear hX
  go_loopg [] 4 (fun gk wr => ∃ (j : Nat) (ad' : Option Addr) (c' : Nat), gk + j = 4 ∧ 8 * j ≤ T ∧ St W wr (blk g [.slice ad' (q + j) c', .int .u64 (N : Nat), .int .i64 (T - 8 * j : Nat)] :: own 5 1 ad' (q + j) c' (bv (packs (q + j) (bs ++ bitsOf width value))) :: rs'))
  case atStart => exact ⟨0, ad, c, rfl, by omega, hS⟩
  case round =>
    clear hS
    obtain ⟨j, ad', c', hj, hjT, hS⟩ := hrel
    generalize hR : T - 8 * j = R at *
    by_cases h8 : 8 ≤ R
    · obtain ⟨r, hr⟩ : ∃ r, R = r + 8 := ⟨R - 8, by omega⟩
      have hb1 : IntKind.i64.wrap ((R : Int) - 8) = (r : Int) := by simp [IntKind.wrap, IntKind.signed, IntKind.bits]; omega
      have hb2 : (0 : Int) ≤ (r : Int) := by omega
      have hb3 : (r : Int) < 64 := by omega
      have HR := hid hr
      have HP := hid (show q + j + 1 ≤ maxLen ∧ (q + j + 1) * 1 ≤ 140737488355328 by unfold maxLen; omega)
      clear hr
      have HBy : Hid ((N : Int) / 2 ^ r % 256 = ((num (((bs ++ bitsOf width value).drop (8 * (q + j))).take 8) : Nat) : Int)) := by
        have h1 := num_window (bs.drop (8 * q) ++ bitsOf width value) (8 * j) 8 (by rw [HT.out]; omega)
        rw [HT.out, HN.out, show T - 8 * j - 8 = r by have := HR.out; omega] at h1
        have h2 : (bs ++ bitsOf width value).drop (8 * (q + j)) = (bs.drop (8 * q) ++ bitsOf width value).drop (8 * j) := by
          rw [Nat.mul_add, ← List.drop_drop, List.drop_append_of_le_length (by omega)]
        unfold Hid
        rw [h2, h1]
        have h3 : ((N : Int) / 2 ^ r) = ((N / 2 ^ r : Nat) : Int) := by push_cast; rfl
        rw [h3]
        generalize N / 2 ^ r = y
        simp
      go_wp2_with (first
        | ((with_reducible show wpList _ _ _ (⟨_, .load 60 _, _, _, _, _⟩ :: _) _ _); first | (refine wpl rfl (wp_load1 hS 60 _ rfl _ _ rfl (one_of rfl) _ (by (repeat (first | with_reducible exact Pull.head | apply Pull.tail))) _ (by rfl) ?_); refine wpl_put (by (simp only [Act.put, List.setIfInBounds_toArray, List.set_cons_zero, List.set_cons_succ]); exact rfl) ?_) | (refine wpl rfl (wp_load1O hS 60 _ rfl _ _ rfl (one_of rfl) _ _ _ _ _ (by (repeat (first | with_reducible exact Pull.head | apply Pull.tail))) _ (by with_reducible assumption) ?_); refine wpl_put (by (simp only [Act.put, List.setIfInBounds_toArray, List.set_cons_zero, List.set_cons_succ]); exact rfl) ?_) | (refine wpl rfl (wp_loadW hS 60 _ rfl _ rfl (one_of rfl) _ (by with_reducible assumption) ?_); refine wpl_put (by (simp only [Act.put, List.setIfInBounds_toArray, List.set_cons_zero, List.set_cons_succ]); exact rfl) ?_))
        | ((with_reducible show wpList _ _ _ (⟨_, .store 60 _ _, _, _, _, _⟩ :: _) _ _); first | (refine wpl rfl (wp_store1 hS 60 _ _ rfl _ _ rfl (one_of rfl) _ _ (by (repeat (first | with_reducible exact Pull.head | apply Pull.tail))) _ (by (first | exact IsV.int rfl | exact IsV.bool rfl | exact IsV.slice rfl | exact IsV.pointer rfl | exact IsV.string rfl | exact IsV.map rfl | exact IsV.func rfl)) (by rfl) (by (repeat (first | with_reducible exact SetAt.head | apply SetAt.tail))) rfl ?_); clear hS; intro w hS))
        | ((with_reducible show wpList _ _ _ (⟨_, .load 3 _, _, _, _, _⟩ :: _) _ _); first | (refine wpl rfl (wp_load1A hS 3 _ rfl _ _ rfl (one_of rfl) _ _ (by (repeat (first | with_reducible exact Pull.head | apply Pull.tail))) (by omega) ?_); refine wpl_put (by (simp only [Act.put, List.setIfInBounds_toArray, List.set_cons_zero, List.set_cons_succ]); exact rfl) ?_) | (refine wpl rfl (wp_load1 hS 3 _ rfl _ _ rfl (one_of rfl) _ (by (repeat (first | with_reducible exact Pull.head | apply Pull.tail))) _ (by rfl) ?_); refine wpl_put (by (simp only [Act.put, List.setIfInBounds_toArray, List.set_cons_zero, List.set_cons_succ]); exact rfl) ?_) | (refine wpl rfl (wp_load1O hS 3 _ rfl _ _ rfl (one_of rfl) _ _ _ _ _ (by (repeat (first | with_reducible exact Pull.head | apply Pull.tail))) _ (by with_reducible assumption) ?_); refine wpl_put (by (simp only [Act.put, List.setIfInBounds_toArray, List.set_cons_zero, List.set_cons_succ]); exact rfl) ?_) | (refine wpl rfl (wp_loadW hS 3 _ rfl _ rfl (one_of rfl) _ (by with_reducible assumption) ?_); refine wpl_put (by (simp only [Act.put, List.setIfInBounds_toArray, List.set_cons_zero, List.set_cons_succ]); exact rfl) ?_))
        | ((with_reducible show wpList _ _ _ (⟨_, .store 3 _ _, _, _, _, _⟩ :: _) _ _); first | (refine wpl rfl (wp_store1A hS 3 _ _ rfl _ _ rfl (one_of rfl) _ _ (by (repeat (first | with_reducible exact Pull.head | apply Pull.tail))) _ (by rfl) (by omega) rfl ?_); clear hS; intro w hS) | (refine wpl rfl (wp_store1 hS 3 _ _ rfl _ _ rfl (one_of rfl) _ _ (by (repeat (first | with_reducible exact Pull.head | apply Pull.tail))) _ (by (first | exact IsV.int rfl | exact IsV.bool rfl | exact IsV.slice rfl | exact IsV.pointer rfl | exact IsV.string rfl | exact IsV.map rfl | exact IsV.func rfl)) (by rfl) (by (repeat (first | with_reducible exact SetAt.head | apply SetAt.tail))) rfl ?_); clear hS; intro w hS))
        | ((with_reducible show wpList _ _ _ (⟨_, .load 26 _, _, _, _, _⟩ :: _) _ _); first | (refine wpl rfl (wp_load1 hS 26 _ rfl _ _ rfl (one_of rfl) _ (by (repeat (first | with_reducible exact Pull.head | apply Pull.tail))) _ (by rfl) ?_); refine wpl_put (by (simp only [Act.put, List.setIfInBounds_toArray, List.set_cons_zero, List.set_cons_succ]); exact rfl) ?_) | (refine wpl rfl (wp_load1O hS 26 _ rfl _ _ rfl (one_of rfl) _ _ _ _ _ (by (repeat (first | with_reducible exact Pull.head | apply Pull.tail))) _ (by with_reducible assumption) ?_); refine wpl_put (by (simp only [Act.put, List.setIfInBounds_toArray, List.set_cons_zero, List.set_cons_succ]); exact rfl) ?_) | (refine wpl rfl (wp_loadW hS 26 _ rfl _ rfl (one_of rfl) _ (by with_reducible assumption) ?_); refine wpl_put (by (simp only [Act.put, List.setIfInBounds_toArray, List.set_cons_zero, List.set_cons_succ]); exact rfl) ?_))
        | ((with_reducible show wpList _ _ _ (⟨some 54, .buildSlice 26 _ _, _, _, _, _⟩ :: _) _ _); first | (refine wpl rfl (wp_buildSlice1 (o := ⟨some 54, _, _, _, _, _⟩) hS 26 1 _ rfl 5 1 1 el26 _ _ (by (repeat (first | exact Parts.nil | (apply Parts.agg; (rfl); (rfl)) | (apply Parts.one; (first | exact IsV.int rfl | exact IsV.bool rfl | exact IsV.slice rfl | exact IsV.pointer rfl | exact IsV.string rfl | exact IsV.map rfl | exact IsV.func rfl); (rfl); (rfl))))) (by rfl) (by decide) (by decide) ?_); clear hS; intro g54 w hS; refine wpl_put (by (simp only [Act.put, List.setIfInBounds_toArray, List.set_cons_zero, List.set_cons_succ]); exact rfl) ?_))
        | ((with_reducible show wpList _ _ _ (⟨_, .store 26 _ _, _, _, _, _⟩ :: _) _ _); first | (refine wpl rfl (wp_store1 hS 26 _ _ rfl _ _ rfl (one_of rfl) _ _ (by (repeat (first | with_reducible exact Pull.head | apply Pull.tail))) _ (by (first | exact IsV.int rfl | exact IsV.bool rfl | exact IsV.slice rfl | exact IsV.pointer rfl | exact IsV.string rfl | exact IsV.map rfl | exact IsV.func rfl)) (by rfl) (by (repeat (first | with_reducible exact SetAt.head | apply SetAt.tail))) rfl ?_); clear hS; intro w hS))
                                                            | (first | refine stop_load ?_ | refine stop_store ?_ | refine stop_alloc ?_ | refine stop_box ?_))
      refine drawn_lit [17, 20] (fun w => St W w [blk g [.slice ad' (q + j) c', .int .u64 (N : Nat), .int .i64 (R : Nat)]]) (by kernel_rfl) ?_
      replace hS := hS.drew
      apply takeP 0 (by (repeat (first | with_reducible exact AtL.head | apply AtL.tail))) (by kernel_rfl) (by kernel_rfl) (by kernel_rfl) (fun _ _ _ _ h => h)
      case hfr => intro w; go_wp2_with fail; exact ⟨rfl, rfl⟩
      case hd => rfl
      apply takeP 1 (by (repeat (first | with_reducible exact AtL.head | apply AtL.tail))) (by kernel_rfl) (by kernel_rfl) (by kernel_rfl) (fun _ _ _ _ h => h)
      case hfr => intro w; go_wp2_with fail; exact ⟨rfl, rfl⟩
      case hd => rfl
      apply takeP 2 (by (repeat (first | with_reducible exact AtL.head | apply AtL.tail))) (by kernel_rfl) (by kernel_rfl) (by kernel_rfl) (fun _ _ _ _ h => h)
      case hfr => intro w; go_wp2_with fail; exact ⟨rfl, rfl⟩
      case hd => rfl
      apply takeP 3 (by (repeat (first | with_reducible exact AtL.head | apply AtL.tail))) (by kernel_rfl) (by kernel_rfl) (by kernel_rfl) (fun _ _ _ _ h => h)
      case hfr => intro w; go_wp2_with fail; exact ⟨rfl, rfl⟩
      case hd => rfl
      apply takeS 4 (by (repeat (first | with_reducible exact AtL.head | apply AtL.tail))) (by kernel_rfl) (by kernel_rfl) (by kernel_rfl) (fun _ _ _ _ h => h) [17, 18, 19, 20] (by kernel_rfl) (hS.sub (by (repeat (first | exact Sub.nil | with_reducible exact Sub.refl | (apply Sub.cons; (case p => (repeat (first | with_reducible exact Pull.head | apply Pull.tail)))) | apply Sub.skip))))
      case hfr => intro w hS; go_wp2_with (first | (refine wpl rfl (wp_load1 hS 26 _ rfl _ _ rfl (one_of rfl) _ (by (repeat (first | with_reducible exact Pull.head | apply Pull.tail))) _ (by rfl) ?_); refine wpl_put (by (simp only [Act.put, List.setIfInBounds_toArray, List.set_cons_zero, List.set_cons_succ]); exact rfl) ?_) | (refine wpl rfl (wp_load1O hS 26 _ rfl _ _ rfl (one_of rfl) _ _ _ _ _ (by (repeat (first | with_reducible exact Pull.head | apply Pull.tail))) _ (by with_reducible assumption) ?_); refine wpl_put (by (simp only [Act.put, List.setIfInBounds_toArray, List.set_cons_zero, List.set_cons_succ]); exact rfl) ?_) | (refine wpl rfl (wp_loadW hS 26 _ rfl _ rfl (one_of rfl) _ (by with_reducible assumption) ?_); refine wpl_put (by (simp only [Act.put, List.setIfInBounds_toArray, List.set_cons_zero, List.set_cons_succ]); exact rfl) ?_)); exact ⟨rfl, rfl⟩
      case hd => rfl
      apply takeP 5 (by (repeat (first | with_reducible exact AtL.head | apply AtL.tail))) (by kernel_rfl) (by kernel_rfl) (by kernel_rfl) (fun _ _ _ _ h => h)
      case hfr => intro w; go_wp2_with fail; exact ⟨rfl, rfl⟩
      case hd => rfl
      apply takeP 6 (by (repeat (first | with_reducible exact AtL.head | apply AtL.tail))) (by kernel_rfl) (by kernel_rfl) (by kernel_rfl) (fun _ _ _ _ h => h)
      case hfr => intro w; go_wp2_with fail; exact ⟨rfl, rfl⟩
      case hd => rfl
      apply takeP 7 (by (repeat (first | with_reducible exact AtL.head | apply AtL.tail))) (by kernel_rfl) (by kernel_rfl) (by kernel_rfl) (fun _ _ _ _ h => h)
      case hfr => intro w; go_wp2_with fail; exact ⟨rfl, rfl⟩
      case hd => rfl
      apply takeS 8 (by (repeat (first | with_reducible exact AtL.head | apply AtL.tail))) (by kernel_rfl) (by kernel_rfl) (by kernel_rfl) (fun _ _ _ _ h => h) [14, 15, 16, 17, 18, 19, 20] (by kernel_rfl) (hS.sub (by (repeat (first | exact Sub.nil | with_reducible exact Sub.refl | (apply Sub.cons; (case p => (repeat (first | with_reducible exact Pull.head | apply Pull.tail)))) | apply Sub.skip))))
      case hfr => intro w hS; go_wp2_with (first | (refine wpl rfl (wp_load1 hS 60 _ rfl _ _ rfl (one_of rfl) _ (by (repeat (first | with_reducible exact Pull.head | apply Pull.tail))) _ (by rfl) ?_); refine wpl_put (by (simp only [Act.put, List.setIfInBounds_toArray, List.set_cons_zero, List.set_cons_succ]); exact rfl) ?_) | (refine wpl rfl (wp_load1O hS 60 _ rfl _ _ rfl (one_of rfl) _ _ _ _ _ (by (repeat (first | with_reducible exact Pull.head | apply Pull.tail))) _ (by with_reducible assumption) ?_); refine wpl_put (by (simp only [Act.put, List.setIfInBounds_toArray, List.set_cons_zero, List.set_cons_succ]); exact rfl) ?_) | (refine wpl rfl (wp_loadW hS 60 _ rfl _ rfl (one_of rfl) _ (by with_reducible assumption) ?_); refine wpl_put (by (simp only [Act.put, List.setIfInBounds_toArray, List.set_cons_zero, List.set_cons_succ]); exact rfl) ?_)); exact ⟨rfl, rfl⟩
      case hd => rfl
      apply takeP 9 (by (repeat (first | with_reducible exact AtL.head | apply AtL.tail))) (by kernel_rfl) (by kernel_rfl) (by kernel_rfl) (fun _ _ _ _ h => h)
      case hfr => intro w; go_wp2_with fail; exact ⟨rfl, rfl⟩
      case hd => rfl
      apply takeP 10 (by (repeat (first | with_reducible exact AtL.head | apply AtL.tail))) (by kernel_rfl) (by kernel_rfl) (by kernel_rfl) (fun _ _ _ _ h => h)
      case hfr => intro w; go_wp2_with fail; exact ⟨rfl, rfl⟩
      case hd => rfl
      apply takeP 11 (by (repeat (first | with_reducible exact AtL.head | apply AtL.tail))) (by kernel_rfl) (by kernel_rfl) (by kernel_rfl) (fun _ _ _ _ h => h)
      case hfr => intro w; go_wp2_with fail; exact ⟨rfl, rfl⟩
      case hd => rfl
      apply takeS 12 (by (repeat (first | with_reducible exact AtL.head | apply AtL.tail))) (by kernel_rfl) (by kernel_rfl) (by kernel_rfl) (fun _ _ _ _ h => h) [13, 14, 15, 16, 17, 18, 19, 20] (by kernel_rfl) (hS.sub (by (repeat (first | exact Sub.nil | with_reducible exact Sub.refl | (apply Sub.cons; (case p => (repeat (first | with_reducible exact Pull.head | apply Pull.tail)))) | apply Sub.skip))))
      case hfr => intro w hS; go_wp2_with (first | (refine wpl rfl (wp_load1A hS 3 _ rfl _ _ rfl (one_of rfl) _ _ (by (repeat (first | with_reducible exact Pull.head | apply Pull.tail))) (by omega) ?_); refine wpl_put (by (simp only [Act.put, List.setIfInBounds_toArray, List.set_cons_zero, List.set_cons_succ]); exact rfl) ?_) | (refine wpl rfl (wp_load1 hS 3 _ rfl _ _ rfl (one_of rfl) _ (by (repeat (first | with_reducible exact Pull.head | apply Pull.tail))) _ (by rfl) ?_); refine wpl_put (by (simp only [Act.put, List.setIfInBounds_toArray, List.set_cons_zero, List.set_cons_succ]); exact rfl) ?_) | (refine wpl rfl (wp_load1O hS 3 _ rfl _ _ rfl (one_of rfl) _ _ _ _ _ (by (repeat (first | with_reducible exact Pull.head | apply Pull.tail))) _ (by with_reducible assumption) ?_); refine wpl_put (by (simp only [Act.put, List.setIfInBounds_toArray, List.set_cons_zero, List.set_cons_succ]); exact rfl) ?_) | (refine wpl rfl (wp_loadW hS 3 _ rfl _ rfl (one_of rfl) _ (by with_reducible assumption) ?_); refine wpl_put (by (simp only [Act.put, List.setIfInBounds_toArray, List.set_cons_zero, List.set_cons_succ]); exact rfl) ?_)); exact ⟨rfl, rfl⟩
      case hd => rfl
      apply takeP 13 (by (repeat (first | with_reducible exact AtL.head | apply AtL.tail))) (by kernel_rfl) (by kernel_rfl) (by kernel_rfl) (fun _ _ _ _ h => h)
      case hfr => intro w; go_wp2_with fail; exact ⟨rfl, rfl⟩
      case hd => rfl
      apply takeP 14 (by (repeat (first | with_reducible exact AtL.head | apply AtL.tail))) (by kernel_rfl) (by kernel_rfl) (by kernel_rfl) (fun _ _ _ _ h => h)
      case hfr => intro w; go_wp2_with fail; exact ⟨rfl, rfl⟩
      case hd => rfl
      apply takeP 15 (by (repeat (first | with_reducible exact AtL.head | apply AtL.tail))) (by kernel_rfl) (by kernel_rfl) (by kernel_rfl) (fun _ _ _ _ h => h)
      case hfr => intro w; go_wp2_with fail; exact ⟨rfl, rfl⟩
      case hd => rfl
      refine branch1 16 (by (repeat (first | with_reducible exact AtL.head | apply AtL.tail))) rfl (by kernel_rfl) ?_
      first | (refine wp_buildSlice1 (o := ⟨some 54, _, _, _, _, _⟩) hS 26 1 _ rfl 5 1 1 el26 _ _ (by (repeat (first | exact Parts.nil | (apply Parts.agg; (rfl); (rfl)) | (apply Parts.one; (first | exact IsV.int rfl | exact IsV.bool rfl | exact IsV.slice rfl | exact IsV.pointer rfl | exact IsV.string rfl | exact IsV.map rfl | exact IsV.func rfl); (rfl); (rfl))))) (by rfl) (by decide) (by decide) ?_; clear hS; intro g54 w hS)
      refine ⟨fun _ _ => hS.sub (by (repeat (first | exact Sub.nil | with_reducible exact Sub.refl | (apply Sub.cons; (case p => (repeat (first | with_reducible exact Pull.head | apply Pull.tail)))) | apply Sub.skip))), ?_⟩
      refine drawn_put (by (simp only [Act.put, List.setIfInBounds_toArray, List.set_cons_zero, List.set_cons_succ]); exact rfl) ?_
      refine branch1 17 (by (repeat (first | with_reducible exact AtL.head | apply AtL.tail))) rfl (by kernel_rfl) ?_
      refine wp_append hS _ _ 26 rfl _ 1 1 el26 _ _ _ _ rfl (by (repeat (first | with_reducible exact Pull.head | apply Pull.tail))) _ rfl 1 _ (hS.slBlk (n := 1) (by (repeat (first | with_reducible exact Pull.head | apply Pull.tail))) (by rfl) (by decide)) (by intro u hu; rw [List.mem_singleton] at hu; rw [hu]; rfl) HP.out.1 HP.out.2 ?_; clear hS; intro ad2 c2 w hS
      refine ⟨fun h => absurd (by decide) h, ?_⟩
      refine drawn_put (by (simp only [Act.put, List.setIfInBounds_toArray, List.set_cons_zero, List.set_cons_succ]); exact rfl) ?_
      apply takeP 18 (by (repeat (first | with_reducible exact AtL.head | apply AtL.tail))) (by kernel_rfl) (by kernel_rfl) (by kernel_rfl) (fun _ _ _ _ h => h)
      case hfr => intro w; go_wp2_with fail; exact ⟨rfl, rfl⟩
      case hd => rfl
      apply takeP 19 (by (repeat (first | with_reducible exact AtL.head | apply AtL.tail))) (by kernel_rfl) (by kernel_rfl) (by kernel_rfl) (fun _ _ _ _ h => h)
      case hfr => intro w; go_wp2_with fail; exact ⟨rfl, rfl⟩
      case hd => rfl
      refine branch1 20 (by (repeat (first | with_reducible exact AtL.head | apply AtL.tail))) rfl (by kernel_rfl) ?_
      first | (refine wp_store1 hS 26 _ _ rfl _ _ rfl (one_of rfl) _ _ (by (repeat (first | with_reducible exact Pull.head | apply Pull.tail))) _ (by (first | exact IsV.int rfl | exact IsV.bool rfl | exact IsV.slice rfl | exact IsV.pointer rfl | exact IsV.string rfl | exact IsV.map rfl | exact IsV.func rfl)) (by rfl) (by (repeat (first | with_reducible exact SetAt.head | apply SetAt.tail))) rfl ?_; clear hS; intro w hS)
      refine ⟨fun h => absurd (by decide) h, ?_⟩
      refine drawn_done (by kernel_rfl) ?_ _
      go_wp2_with (first
        | ((with_reducible show wpList _ _ _ (⟨_, .load 60 _, _, _, _, _⟩ :: _) _ _); first | (refine wpl rfl (wp_load1 hS 60 _ rfl _ _ rfl (one_of rfl) _ (by (repeat (first | with_reducible exact Pull.head | apply Pull.tail))) _ (by rfl) ?_); refine wpl_put (by (simp only [Act.put, List.setIfInBounds_toArray, List.set_cons_zero, List.set_cons_succ]); exact rfl) ?_) | (refine wpl rfl (wp_load1O hS 60 _ rfl _ _ rfl (one_of rfl) _ _ _ _ _ (by (repeat (first | with_reducible exact Pull.head | apply Pull.tail))) _ (by with_reducible assumption) ?_); refine wpl_put (by (simp only [Act.put, List.setIfInBounds_toArray, List.set_cons_zero, List.set_cons_succ]); exact rfl) ?_) | (refine wpl rfl (wp_loadW hS 60 _ rfl _ rfl (one_of rfl) _ (by with_reducible assumption) ?_); refine wpl_put (by (simp only [Act.put, List.setIfInBounds_toArray, List.set_cons_zero, List.set_cons_succ]); exact rfl) ?_))
        | ((with_reducible show wpList _ _ _ (⟨_, .store 60 _ _, _, _, _, _⟩ :: _) _ _); first | (refine wpl rfl (wp_store1 hS 60 _ _ rfl _ _ rfl (one_of rfl) _ _ (by (repeat (first | with_reducible exact Pull.head | apply Pull.tail))) _ (by (first | exact IsV.int rfl | exact IsV.bool rfl | exact IsV.slice rfl | exact IsV.pointer rfl | exact IsV.string rfl | exact IsV.map rfl | exact IsV.func rfl)) (by rfl) (by (repeat (first | with_reducible exact SetAt.head | apply SetAt.tail))) rfl ?_); clear hS; intro w hS))
        | ((with_reducible show wpList _ _ _ (⟨_, .load 3 _, _, _, _, _⟩ :: _) _ _); first | (refine wpl rfl (wp_load1A hS 3 _ rfl _ _ rfl (one_of rfl) _ _ (by (repeat (first | with_reducible exact Pull.head | apply Pull.tail))) (by omega) ?_); refine wpl_put (by (simp only [Act.put, List.setIfInBounds_toArray, List.set_cons_zero, List.set_cons_succ]); exact rfl) ?_) | (refine wpl rfl (wp_load1 hS 3 _ rfl _ _ rfl (one_of rfl) _ (by (repeat (first | with_reducible exact Pull.head | apply Pull.tail))) _ (by rfl) ?_); refine wpl_put (by (simp only [Act.put, List.setIfInBounds_toArray, List.set_cons_zero, List.set_cons_succ]); exact rfl) ?_) | (refine wpl rfl (wp_load1O hS 3 _ rfl _ _ rfl (one_of rfl) _ _ _ _ _ (by (repeat (first | with_reducible exact Pull.head | apply Pull.tail))) _ (by with_reducible assumption) ?_); refine wpl_put (by (simp only [Act.put, List.setIfInBounds_toArray, List.set_cons_zero, List.set_cons_succ]); exact rfl) ?_) | (refine wpl rfl (wp_loadW hS 3 _ rfl _ rfl (one_of rfl) _ (by with_reducible assumption) ?_); refine wpl_put (by (simp only [Act.put, List.setIfInBounds_toArray, List.set_cons_zero, List.set_cons_succ]); exact rfl) ?_))
        | ((with_reducible show wpList _ _ _ (⟨_, .store 3 _ _, _, _, _, _⟩ :: _) _ _); first | (refine wpl rfl (wp_store1A hS 3 _ _ rfl _ _ rfl (one_of rfl) _ _ (by (repeat (first | with_reducible exact Pull.head | apply Pull.tail))) _ (by rfl) (by omega) rfl ?_); clear hS; intro w hS) | (refine wpl rfl (wp_store1 hS 3 _ _ rfl _ _ rfl (one_of rfl) _ _ (by (repeat (first | with_reducible exact Pull.head | apply Pull.tail))) _ (by (first | exact IsV.int rfl | exact IsV.bool rfl | exact IsV.slice rfl | exact IsV.pointer rfl | exact IsV.string rfl | exact IsV.map rfl | exact IsV.func rfl)) (by rfl) (by (repeat (first | with_reducible exact SetAt.head | apply SetAt.tail))) rfl ?_); clear hS; intro w hS))
        | ((with_reducible show wpList _ _ _ (⟨_, .load 26 _, _, _, _, _⟩ :: _) _ _); first | (refine wpl rfl (wp_load1 hS 26 _ rfl _ _ rfl (one_of rfl) _ (by (repeat (first | with_reducible exact Pull.head | apply Pull.tail))) _ (by rfl) ?_); refine wpl_put (by (simp only [Act.put, List.setIfInBounds_toArray, List.set_cons_zero, List.set_cons_succ]); exact rfl) ?_) | (refine wpl rfl (wp_load1O hS 26 _ rfl _ _ rfl (one_of rfl) _ _ _ _ _ (by (repeat (first | with_reducible exact Pull.head | apply Pull.tail))) _ (by with_reducible assumption) ?_); refine wpl_put (by (simp only [Act.put, List.setIfInBounds_toArray, List.set_cons_zero, List.set_cons_succ]); exact rfl) ?_) | (refine wpl rfl (wp_loadW hS 26 _ rfl _ rfl (one_of rfl) _ (by with_reducible assumption) ?_); refine wpl_put (by (simp only [Act.put, List.setIfInBounds_toArray, List.set_cons_zero, List.set_cons_succ]); exact rfl) ?_))
        | ((with_reducible show wpList _ _ _ (⟨some 54, .buildSlice 26 _ _, _, _, _, _⟩ :: _) _ _); first | (refine wpl rfl (wp_buildSlice1 (o := ⟨some 54, _, _, _, _, _⟩) hS 26 1 _ rfl 5 1 1 el26 _ _ (by (repeat (first | exact Parts.nil | (apply Parts.agg; (rfl); (rfl)) | (apply Parts.one; (first | exact IsV.int rfl | exact IsV.bool rfl | exact IsV.slice rfl | exact IsV.pointer rfl | exact IsV.string rfl | exact IsV.map rfl | exact IsV.func rfl); (rfl); (rfl))))) (by rfl) (by decide) (by decide) ?_); clear hS; intro g54 w hS; refine wpl_put (by (simp only [Act.put, List.setIfInBounds_toArray, List.set_cons_zero, List.set_cons_succ]); exact rfl) ?_))
        | ((with_reducible show wpList _ _ _ (⟨_, .store 26 _ _, _, _, _, _⟩ :: _) _ _); first | (refine wpl rfl (wp_store1 hS 26 _ _ rfl _ _ rfl (one_of rfl) _ _ (by (repeat (first | with_reducible exact Pull.head | apply Pull.tail))) _ (by (first | exact IsV.int rfl | exact IsV.bool rfl | exact IsV.slice rfl | exact IsV.pointer rfl | exact IsV.string rfl | exact IsV.map rfl | exact IsV.func rfl)) (by rfl) (by (repeat (first | with_reducible exact SetAt.head | apply SetAt.tail))) rfl ?_); clear hS; intro w hS))
                                                            | (first | refine stop_load ?_ | refine stop_store ?_ | refine stop_alloc ?_ | refine stop_box ?_))
      go_roundg (gk - 1)
      case measure => have := HR.out; omega
      case rel =>
        refine ⟨j + 1, ad2, c2, by omega, by have := HR.out; omega, ?_⟩
        rw [show T - 8 * (j + 1) = r by have := HR.out; omega, ← Nat.add_assoc q j 1, packs_succ, bv_append, show (bv [num (((bs ++ bitsOf width value).drop (8 * (q + j))).take 8)] = [Value.int .u8 ((N : Int) / 2 ^ r % 256)]) by rw [HBy.out]; rfl]
        exact hS.sub (by (repeat (first | exact Sub.nil | with_reducible exact Sub.refl | (apply Sub.cons; (case p => (repeat (first | with_reducible exact Pull.head | apply Pull.tail)))) | apply Sub.skip)))
    · have hlen : (bs ++ bitsOf width value).length = 8 * (q + j) + R := by rw [List.length_append, bitsOf_len]; omega
      have hd1 := hid (show (bs ++ bitsOf width value).length / 8 = q + j by omega)
      have hd2 := hid (show (bs ++ bitsOf width value).length % 8 = R by omega)
      have hval : Hid (num ((bs ++ bitsOf width value).drop (8 * (q + j))) = N % 2 ^ R) := by
        have h1 := num_window (bs.drop (8 * q) ++ bitsOf width value) (8 * j) R (by rw [HT.out]; omega)
        rw [HT.out, HN.out, show T - 8 * j - R = 0 by omega, Nat.pow_zero, Nat.div_one, List.take_of_length_le (by rw [List.length_drop, HT.out]; omega)] at h1
        unfold Hid
        rw [Nat.mul_add, ← List.drop_drop, List.drop_append_of_le_length (by omega)]
        exact h1
      have hNl : N < 18446744073709551616 := by
        have h1 := num_lt (bs.drop (8 * q) ++ bitsOf width value)
        rw [HN.out, HT.out] at h1
        exact Nat.lt_of_lt_of_le h1 (pow_lt T 64 (by omega))
      have HAND := hid (and_num N R hNl (by omega))
      clear hlen
      go_wp2_with (first
        | ((with_reducible show wpList _ _ _ (⟨_, .load 60 _, _, _, _, _⟩ :: _) _ _); first | (refine wpl rfl (wp_load1 hS 60 _ rfl _ _ rfl (one_of rfl) _ (by (repeat (first | with_reducible exact Pull.head | apply Pull.tail))) _ (by rfl) ?_); refine wpl_put (by (simp only [Act.put, List.setIfInBounds_toArray, List.set_cons_zero, List.set_cons_succ]); exact rfl) ?_) | (refine wpl rfl (wp_load1O hS 60 _ rfl _ _ rfl (one_of rfl) _ _ _ _ _ (by (repeat (first | with_reducible exact Pull.head | apply Pull.tail))) _ (by with_reducible assumption) ?_); refine wpl_put (by (simp only [Act.put, List.setIfInBounds_toArray, List.set_cons_zero, List.set_cons_succ]); exact rfl) ?_) | (refine wpl rfl (wp_loadW hS 60 _ rfl _ rfl (one_of rfl) _ (by with_reducible assumption) ?_); refine wpl_put (by (simp only [Act.put, List.setIfInBounds_toArray, List.set_cons_zero, List.set_cons_succ]); exact rfl) ?_))
        | ((with_reducible show wpList _ _ _ (⟨_, .store 60 _ _, _, _, _, _⟩ :: _) _ _); first | (refine wpl rfl (wp_store1 hS 60 _ _ rfl _ _ rfl (one_of rfl) _ _ (by (repeat (first | with_reducible exact Pull.head | apply Pull.tail))) _ (by (first | exact IsV.int rfl | exact IsV.bool rfl | exact IsV.slice rfl | exact IsV.pointer rfl | exact IsV.string rfl | exact IsV.map rfl | exact IsV.func rfl)) (by rfl) (by (repeat (first | with_reducible exact SetAt.head | apply SetAt.tail))) rfl ?_); clear hS; intro w hS))
        | ((with_reducible show wpList _ _ _ (⟨_, .load 3 _, _, _, _, _⟩ :: _) _ _); first | (refine wpl rfl (wp_load1A hS 3 _ rfl _ _ rfl (one_of rfl) _ _ (by (repeat (first | with_reducible exact Pull.head | apply Pull.tail))) (by omega) ?_); refine wpl_put (by (simp only [Act.put, List.setIfInBounds_toArray, List.set_cons_zero, List.set_cons_succ]); exact rfl) ?_) | (refine wpl rfl (wp_load1 hS 3 _ rfl _ _ rfl (one_of rfl) _ (by (repeat (first | with_reducible exact Pull.head | apply Pull.tail))) _ (by rfl) ?_); refine wpl_put (by (simp only [Act.put, List.setIfInBounds_toArray, List.set_cons_zero, List.set_cons_succ]); exact rfl) ?_) | (refine wpl rfl (wp_load1O hS 3 _ rfl _ _ rfl (one_of rfl) _ _ _ _ _ (by (repeat (first | with_reducible exact Pull.head | apply Pull.tail))) _ (by with_reducible assumption) ?_); refine wpl_put (by (simp only [Act.put, List.setIfInBounds_toArray, List.set_cons_zero, List.set_cons_succ]); exact rfl) ?_) | (refine wpl rfl (wp_loadW hS 3 _ rfl _ rfl (one_of rfl) _ (by with_reducible assumption) ?_); refine wpl_put (by (simp only [Act.put, List.setIfInBounds_toArray, List.set_cons_zero, List.set_cons_succ]); exact rfl) ?_))
        | ((with_reducible show wpList _ _ _ (⟨_, .store 3 _ _, _, _, _, _⟩ :: _) _ _); first | (refine wpl rfl (wp_store1A hS 3 _ _ rfl _ _ rfl (one_of rfl) _ _ (by (repeat (first | with_reducible exact Pull.head | apply Pull.tail))) _ (by rfl) (by omega) rfl ?_); clear hS; intro w hS) | (refine wpl rfl (wp_store1 hS 3 _ _ rfl _ _ rfl (one_of rfl) _ _ (by (repeat (first | with_reducible exact Pull.head | apply Pull.tail))) _ (by (first | exact IsV.int rfl | exact IsV.bool rfl | exact IsV.slice rfl | exact IsV.pointer rfl | exact IsV.string rfl | exact IsV.map rfl | exact IsV.func rfl)) (by rfl) (by (repeat (first | with_reducible exact SetAt.head | apply SetAt.tail))) rfl ?_); clear hS; intro w hS))
        | ((with_reducible show wpList _ _ _ (⟨_, .load 26 _, _, _, _, _⟩ :: _) _ _); first | (refine wpl rfl (wp_load1 hS 26 _ rfl _ _ rfl (one_of rfl) _ (by (repeat (first | with_reducible exact Pull.head | apply Pull.tail))) _ (by rfl) ?_); refine wpl_put (by (simp only [Act.put, List.setIfInBounds_toArray, List.set_cons_zero, List.set_cons_succ]); exact rfl) ?_) | (refine wpl rfl (wp_load1O hS 26 _ rfl _ _ rfl (one_of rfl) _ _ _ _ _ (by (repeat (first | with_reducible exact Pull.head | apply Pull.tail))) _ (by with_reducible assumption) ?_); refine wpl_put (by (simp only [Act.put, List.setIfInBounds_toArray, List.set_cons_zero, List.set_cons_succ]); exact rfl) ?_) | (refine wpl rfl (wp_loadW hS 26 _ rfl _ rfl (one_of rfl) _ (by with_reducible assumption) ?_); refine wpl_put (by (simp only [Act.put, List.setIfInBounds_toArray, List.set_cons_zero, List.set_cons_succ]); exact rfl) ?_))
        | ((with_reducible show wpList _ _ _ (⟨some 54, .buildSlice 26 _ _, _, _, _, _⟩ :: _) _ _); first | (refine wpl rfl (wp_buildSlice1 (o := ⟨some 54, _, _, _, _, _⟩) hS 26 1 _ rfl 5 1 1 el26 _ _ (by (repeat (first | exact Parts.nil | (apply Parts.agg; (rfl); (rfl)) | (apply Parts.one; (first | exact IsV.int rfl | exact IsV.bool rfl | exact IsV.slice rfl | exact IsV.pointer rfl | exact IsV.string rfl | exact IsV.map rfl | exact IsV.func rfl); (rfl); (rfl))))) (by rfl) (by decide) (by decide) ?_); clear hS; intro g54 w hS; refine wpl_put (by (simp only [Act.put, List.setIfInBounds_toArray, List.set_cons_zero, List.set_cons_succ]); exact rfl) ?_))
        | ((with_reducible show wpList _ _ _ (⟨_, .store 26 _ _, _, _, _, _⟩ :: _) _ _); first | (refine wpl rfl (wp_store1 hS 26 _ _ rfl _ _ rfl (one_of rfl) _ _ (by (repeat (first | with_reducible exact Pull.head | apply Pull.tail))) _ (by (first | exact IsV.int rfl | exact IsV.bool rfl | exact IsV.slice rfl | exact IsV.pointer rfl | exact IsV.string rfl | exact IsV.map rfl | exact IsV.func rfl)) (by rfl) (by (repeat (first | with_reducible exact SetAt.head | apply SetAt.tail))) rfl ?_); clear hS; intro w hS))
                                                            | (first | refine stop_load ?_ | refine stop_store ?_ | refine stop_alloc ?_ | refine stop_box ?_))
      refine drawn_lit [13] (fun w => St W w [blk g [.slice ad' (q + j) c', .int .u64 (N : Nat), .int .i64 (R : Nat)]]) (by kernel_rfl) ?_
      replace hS := hS.drew
      apply takeP 0 (by (repeat (first | with_reducible exact AtL.head | apply AtL.tail))) (by kernel_rfl) (by kernel_rfl) (by kernel_rfl) (fun _ _ _ _ h => h)
      case hfr => intro w; go_wp2_with fail; exact ⟨rfl, rfl⟩
      case hd => rfl
      apply takeP 1 (by (repeat (first | with_reducible exact AtL.head | apply AtL.tail))) (by kernel_rfl) (by kernel_rfl) (by kernel_rfl) (fun _ _ _ _ h => h)
      case hfr => intro w; go_wp2_with fail; exact ⟨rfl, rfl⟩
      case hd => rfl
      apply takeP 2 (by (repeat (first | with_reducible exact AtL.head | apply AtL.tail))) (by kernel_rfl) (by kernel_rfl) (by kernel_rfl) (fun _ _ _ _ h => h)
      case hfr => intro w; go_wp2_with fail; exact ⟨rfl, rfl⟩
      case hd => rfl
      apply takeS 3 (by (repeat (first | with_reducible exact AtL.head | apply AtL.tail))) (by kernel_rfl) (by kernel_rfl) (by kernel_rfl) (fun _ _ _ _ h => h) [10, 11, 12, 13] (by kernel_rfl) (hS.sub (by (repeat (first | exact Sub.nil | with_reducible exact Sub.refl | (apply Sub.cons; (case p => (repeat (first | with_reducible exact Pull.head | apply Pull.tail)))) | apply Sub.skip))))
      case hfr => intro w hS; go_wp2_with (first | (refine wpl rfl (wp_load1 hS 60 _ rfl _ _ rfl (one_of rfl) _ (by (repeat (first | with_reducible exact Pull.head | apply Pull.tail))) _ (by rfl) ?_); refine wpl_put (by (simp only [Act.put, List.setIfInBounds_toArray, List.set_cons_zero, List.set_cons_succ]); exact rfl) ?_) | (refine wpl rfl (wp_load1O hS 60 _ rfl _ _ rfl (one_of rfl) _ _ _ _ _ (by (repeat (first | with_reducible exact Pull.head | apply Pull.tail))) _ (by with_reducible assumption) ?_); refine wpl_put (by (simp only [Act.put, List.setIfInBounds_toArray, List.set_cons_zero, List.set_cons_succ]); exact rfl) ?_) | (refine wpl rfl (wp_loadW hS 60 _ rfl _ rfl (one_of rfl) _ (by with_reducible assumption) ?_); refine wpl_put (by (simp only [Act.put, List.setIfInBounds_toArray, List.set_cons_zero, List.set_cons_succ]); exact rfl) ?_)); exact ⟨rfl, rfl⟩
      case hd => rfl
      apply takeP 4 (by (repeat (first | with_reducible exact AtL.head | apply AtL.tail))) (by kernel_rfl) (by kernel_rfl) (by kernel_rfl) (fun _ _ _ _ h => h)
      case hfr => intro w; go_wp2_with fail; exact ⟨rfl, rfl⟩
      case hd => rfl
      apply takeP 5 (by (repeat (first | with_reducible exact AtL.head | apply AtL.tail))) (by kernel_rfl) (by kernel_rfl) (by kernel_rfl) (fun _ _ _ _ h => h)
      case hfr => intro w; go_wp2_with fail; exact ⟨rfl, rfl⟩
      case hd => rfl
      apply takeP 6 (by (repeat (first | with_reducible exact AtL.head | apply AtL.tail))) (by kernel_rfl) (by kernel_rfl) (by kernel_rfl) (fun _ _ _ _ h => h)
      case hfr => intro w; go_wp2_with fail; exact ⟨rfl, rfl⟩
      case hd => rfl
      apply takeS 7 (by (repeat (first | with_reducible exact AtL.head | apply AtL.tail))) (by kernel_rfl) (by kernel_rfl) (by kernel_rfl) (fun _ _ _ _ h => h) [8, 9, 10, 11, 12, 13] (by kernel_rfl) (hS.sub (by (repeat (first | exact Sub.nil | with_reducible exact Sub.refl | (apply Sub.cons; (case p => (repeat (first | with_reducible exact Pull.head | apply Pull.tail)))) | apply Sub.skip))))
      case hfr => intro w hS; go_wp2_with (first | (refine wpl rfl (wp_load1A hS 3 _ rfl _ _ rfl (one_of rfl) _ _ (by (repeat (first | with_reducible exact Pull.head | apply Pull.tail))) (by omega) ?_); refine wpl_put (by (simp only [Act.put, List.setIfInBounds_toArray, List.set_cons_zero, List.set_cons_succ]); exact rfl) ?_) | (refine wpl rfl (wp_load1 hS 3 _ rfl _ _ rfl (one_of rfl) _ (by (repeat (first | with_reducible exact Pull.head | apply Pull.tail))) _ (by rfl) ?_); refine wpl_put (by (simp only [Act.put, List.setIfInBounds_toArray, List.set_cons_zero, List.set_cons_succ]); exact rfl) ?_) | (refine wpl rfl (wp_load1O hS 3 _ rfl _ _ rfl (one_of rfl) _ _ _ _ _ (by (repeat (first | with_reducible exact Pull.head | apply Pull.tail))) _ (by with_reducible assumption) ?_); refine wpl_put (by (simp only [Act.put, List.setIfInBounds_toArray, List.set_cons_zero, List.set_cons_succ]); exact rfl) ?_) | (refine wpl rfl (wp_loadW hS 3 _ rfl _ rfl (one_of rfl) _ (by with_reducible assumption) ?_); refine wpl_put (by (simp only [Act.put, List.setIfInBounds_toArray, List.set_cons_zero, List.set_cons_succ]); exact rfl) ?_)); exact ⟨rfl, rfl⟩
      case hd => rfl
      apply takeP 8 (by (repeat (first | with_reducible exact AtL.head | apply AtL.tail))) (by kernel_rfl) (by kernel_rfl) (by kernel_rfl) (fun _ _ _ _ h => h)
      case hfr => intro w; go_wp2_with fail; exact ⟨rfl, rfl⟩
      case hd => rfl
      apply takeP 9 (by (repeat (first | with_reducible exact AtL.head | apply AtL.tail))) (by kernel_rfl) (by kernel_rfl) (by kernel_rfl) (fun _ _ _ _ h => h)
      case hfr => intro w; go_wp2_with fail; exact ⟨rfl, rfl⟩
      case hd => rfl
      apply takeP 10 (by (repeat (first | with_reducible exact AtL.head | apply AtL.tail))) (by kernel_rfl) (by kernel_rfl) (by kernel_rfl) (fun _ _ _ _ h => h)
      case hfr => intro w; go_wp2_with fail; exact ⟨rfl, rfl⟩
      case hd => rfl
      apply takeP 11 (by (repeat (first | with_reducible exact AtL.head | apply AtL.tail))) (by kernel_rfl) (by kernel_rfl) (by kernel_rfl) (fun _ _ _ _ h => h)
      case hfr => intro w; go_wp2_with fail; exact ⟨rfl, rfl⟩
      case hd => rfl
      apply takeP 12 (by (repeat (first | with_reducible exact AtL.head | apply AtL.tail))) (by kernel_rfl) (by kernel_rfl) (by kernel_rfl) (fun _ _ _ _ h => h)
      case hfr => intro w; go_wp2_with fail; exact ⟨rfl, rfl⟩
      case hd => rfl
      refine branch1 13 (by (repeat (first | with_reducible exact AtL.head | apply AtL.tail))) rfl (by kernel_rfl) ?_
      first | (refine wp_store1 hS 60 _ _ rfl _ _ rfl (one_of rfl) _ _ (by (repeat (first | with_reducible exact Pull.head | apply Pull.tail))) _ (by (first | exact IsV.int rfl | exact IsV.bool rfl | exact IsV.slice rfl | exact IsV.pointer rfl | exact IsV.string rfl | exact IsV.map rfl | exact IsV.func rfl)) (by rfl) (by (repeat (first | with_reducible exact SetAt.head | apply SetAt.tail))) rfl ?_; clear hS; intro w hS)
      refine ⟨fun h => absurd (by decide) h, ?_⟩
      refine drawn_done (by kernel_rfl) ?_ _
      go_end0
      refine ⟨rfl, St.close (ad', c') ?_⟩
      simp only [List.cons_append, List.nil_append]
      rw [HAND.out] at hS
      rw [hd1.out, hd2.out, hval.out]
      exact hS.sub (by (repeat (first | exact Sub.nil | with_reducible exact Sub.refl | (apply Sub.cons; (case p => (repeat (first | with_reducible exact Pull.head | apply Pull.tail)))) | apply Sub.skip)))
end Go.Proofs.Ytccgcefeenloiaa
